import Derived.Test.YtaccjjpfmnbaaaaConB
set_option linter.unusedVariables false
set_option linter.unusedSimpArgs false
set_option maxRecDepth 20000
namespace Go.Proofs.Ytaccjjpfmnbaaaa
open Go.Eng Go.Sort
set_option maxHeartbeats 4000000 in
theorem pdq_ok {a : Option Addr} {b off n c g : Nat} {d : Array Ans} {cf : Ans → Ans → Int} (ha : 0 < n → a = some ⟨b, off, none⟩) (hn : n ≤ 1000) (hcb : callB Try.prog g = true) (hcmp : ∀ x y, FnD Try.prog g [.agg (encA x).toArray, .agg (encA y).toArray] [] (.int .i64 (cf x y)) []) {k lo hi : Nat} {lm : Int} {T : Array Ans → Prop} (hn4 : n ≤ 40) (hS : SWO (ltf cf)) (hk : hi - lo ≤ k) (hP : PI (ltf cf) n (lo) (hi) T (d)) : Go.Eng.Fn Try.prog 28 [.slice a n c, .int .i64 ((lo : Nat) : Int), .int .i64 ((hi : Nat) : Int), .int .i64 lm, .func (.func g) #[] #[]] [rw9 b off n d] (fun v Bs => ∃ d', v = .tuple #[] ∧ Bs = [rw9 b off n d'] ∧ T d') := by
  induction k using Nat.strongRecOn generalizing lo hi lm d T
  rename_i k ih
  refine Fn.enter (Try.func28) rfl rfl (fun w0 R => ?_)
  refine TC.seq ?_
  refine TC.region ?_
  refine TL.asg (.bool true) rfl rfl rfl ?_
  refine TL.done ?_
  refine TQ.then ?_
  refine TC.seq ?_
  refine TC.region ?_
  refine TL.asg (.bool true) rfl rfl rfl ?_
  refine TL.done ?_
  refine TQ.then ?_
  refine TC.block ?_
  refine TC.loopK (X := Nat × Nat × Int × Bool × Bool × Array Ans) [0, 4] [] (fun ⟨lo1, hi1, lm1, wb, wp, d1⟩ => [(1, .int .i64 ((lo1 : Nat) : Int)), (2, .int .i64 ((hi1 : Nat) : Int)), (3, .int .i64 lm1), (10, .bool wb), (11, .bool wp)]) (fun ⟨lo1, hi1, lm1, wb, wp, d1⟩ => [(0, rw9 b off n d1)]) (fun ⟨lo1, hi1, lm1, wb, wp, d1⟩ => PI (ltf cf) n (lo1) (hi1) T (d1) ∧ hi1 - lo1 ≤ k) (fun ⟨lo1, hi1, lm1, wb, wp, d1⟩ => hi1 - lo1) ((lo, hi, lm, true, true, d)) ⟨hP, hk⟩ ⟨rfl, rfl, rfl, rfl, rfl, trivial⟩ ⟨rfl, trivial⟩ (fun y hI => ?_)
  obtain ⟨lo1, hi1, lm1, wb, wp, d1⟩ := y
  obtain ⟨hP1, hk1⟩ := hI
  replace hk1 : hi1 - lo1 ≤ k := hk1
  have hle := hP1.le
  have hnn := hP1.hn
  refine TC.sub (env' := [(1, _), (2, _), (3, _), (10, _), (11, _), (0, _), (4, _)]) (L' := [(0, _)]) ⟨rfl, rfl, rfl, rfl, rfl, rfl, rfl, trivial⟩ ⟨rfl, trivial⟩ ?_
  refine TC.block ?_
  refine TC.seq ?_
  refine TC.region ?_
  refine TL.mv (.int _ _) rfl rfl rfl ?_
  refine TL.mv (.int _ _) rfl rfl rfl ?_
  refine TL.sub (((hi1 - lo1 : Nat) : Int)) rfl rfl (wrN (by omega)) rfl rfl ?_
  refine TL.asg (.int _ _) rfl rfl rfl ?_
  refine TL.done ?_
  refine TQ.then ?_
  refine TC.seq ?_
  refine TC.seq ?_
  refine TC.region ?_
  refine TL.mv (.int _ _) rfl rfl rfl ?_
  refine TL.leq rfl rfl rfl rfl (fun q1 => ?_) (fun q1 => ?_)
  · skip
    refine TL.done ?_
    refine TQ.then ?_
    refine TC.condT rfl ?_
    refine TC.seq ?_
    refine TC.region ?_
    refine TL.mv (.slice _ _ _) rfl rfl rfl ?_
    refine TL.mv (.int _ _) rfl rfl rfl ?_
    refine TL.mv (.int _ _) rfl rfl rfl ?_
    refine TL.mv _ rfl rfl rfl ?_
    refine TL.callD [0] [0] (ins_ok ha hn hcb hcmp (by omega) (by omega)) ⟨rfl, rfl, rfl, rfl, trivial⟩ ⟨rfl, trivial⟩ fc_c33 rfl rfl rfl rfl rfl trivial ?_
    refine TL.done ?_
    refine TQ.then ?_
    refine TC.ret ?_
    refine TQ.thenRet ?_
    refine TQ.blockRet ?_
    refine TQ.thenRet ?_
    refine TQ.blockRet ?_
    refine FQ.ret0 (Bs := [_]) [0] rfl rfl ⟨rfl, trivial⟩ ?_
    exact ⟨_, rfl, rfl, hP1.ins hS⟩
  · skip
    refine TL.done ?_
    refine TQ.then ?_
    refine TC.condF rfl ?_
    refine TC.skip ?_
    refine TQ.then ?_
    refine TC.seq ?_
    refine TC.seq ?_
    refine TC.region ?_
    refine TL.mv (.int _ _) rfl rfl rfl ?_
    refine TL.eql rfl rfl rfl rfl (fun q2 => ?_) (fun q2 => ?_)
    · skip
      refine TL.done ?_
      refine TQ.then ?_
      refine TC.condT rfl ?_
      refine TC.seq ?_
      refine TC.region ?_
      refine TL.mv (.slice _ _ _) rfl rfl rfl ?_
      refine TL.mv (.int _ _) rfl rfl rfl ?_
      refine TL.mv (.int _ _) rfl rfl rfl ?_
      refine TL.mv _ rfl rfl rfl ?_
      refine TL.callD [0] [0] (heap_ok ha hn hcb hcmp (by omega) (by omega)) ⟨rfl, rfl, rfl, rfl, trivial⟩ ⟨rfl, trivial⟩ fc_c34 rfl rfl rfl rfl rfl trivial ?_
      refine TL.done ?_
      refine TQ.then ?_
      refine TC.ret ?_
      refine TQ.thenRet ?_
      refine TQ.blockRet ?_
      refine TQ.thenRet ?_
      refine TQ.blockRet ?_
      refine FQ.ret0 (Bs := [_]) [0] rfl rfl ⟨rfl, trivial⟩ ?_
      exact ⟨_, rfl, rfl, hP1.heap hS⟩
    · skip
      refine TL.done ?_
      refine TQ.then ?_
      refine TC.condF rfl ?_
      refine TC.skip ?_
      refine TQ.then ?_
      refine TC.join (X := Int × Array Ans) [0, 1, 2, 4, 10, 11, 12] [] (fun ⟨lm2, d2⟩ => [(3, .int .i64 lm2)]) (fun ⟨lm2, d2⟩ => [(0, rw9 b off n d2)]) (fun ⟨lm2, d2⟩ => PI (ltf cf) n (lo1) (hi1) T (d2)) ?_ (fun z hI => ?_)
      · skip
        refine TC.seq ?_
        refine TC.region ?_
        refine TL.mv (.bool _) rfl rfl rfl ?_
        refine TL.cases rfl (fun q3 => ?_) (fun q3 => ?_)
        · skip
          refine TL.not true false rfl rfl rfl rfl ?_
          refine TL.done ?_
          refine TQ.then ?_
          refine TC.condF rfl ?_
          refine TC.skip ?_
          refine TQ.roundK ((_, _)) ⟨hP1, Nat.zero_lt_one⟩ ⟨rfl, trivial⟩ ⟨rfl, trivial⟩ (.cons rfl rfl (.cons rfl rfl (.cons rfl rfl (.cons rfl rfl (.cons rfl rfl (.cons rfl rfl (.cons rfl rfl trivial))))))) trivial
        · skip
          refine TL.not false true rfl rfl rfl rfl ?_
          refine TL.done ?_
          refine TQ.then ?_
          refine TC.condT rfl ?_
          refine TC.seq ?_
          refine TC.region ?_
          refine TL.mv (.slice _ _ _) rfl rfl rfl ?_
          refine TL.mv (.int _ _) rfl rfl rfl ?_
          refine TL.mv (.int _ _) rfl rfl rfl ?_
          refine TL.mv _ rfl rfl rfl ?_
          refine TL.callD [0] [0] (brk_ok ha hn hcb hcmp (by omega) (by omega) hn4) ⟨rfl, rfl, rfl, rfl, trivial⟩ ⟨rfl, trivial⟩ fc_c35 rfl rfl rfl rfl rfl trivial ?_
          refine TL.done ?_
          refine TQ.then ?_
          refine TC.region ?_
          refine TL.mv (.int _ _) rfl rfl rfl ?_
          refine TL.sub _ rfl rfl (rfl) rfl rfl ?_
          refine TL.asg (.int _ _) rfl rfl rfl ?_
          refine TL.done ?_
          refine TQ.roundK ((_, _)) ⟨hP1.brk, Nat.zero_lt_one⟩ ⟨rfl, trivial⟩ ⟨rfl, trivial⟩ (.cons rfl rfl (.cons rfl rfl (.cons rfl rfl (.cons rfl rfl (.cons rfl rfl (.cons rfl rfl (.cons rfl rfl trivial))))))) trivial
      · skip
        obtain ⟨lm2, d2⟩ := z
        replace hI : PI (ltf cf) n (lo1) (hi1) T (d2) := hI
        have hc0 := choosePivot_holds (ltf cf) d2 lo1 hi1 (by omega)
        refine TC.sub (env' := [(3, _), (0, _), (1, _), (2, _), (4, _), (10, _), (11, _), (12, _)]) (L' := [(0, _)]) ⟨rfl, rfl, rfl, rfl, rfl, rfl, rfl, rfl, trivial⟩ ⟨rfl, trivial⟩ ?_
        refine TC.seq ?_
        refine TC.region ?_
        refine TL.mv (.slice _ _ _) rfl rfl rfl ?_
        refine TL.mv (.int _ _) rfl rfl rfl ?_
        refine TL.mv (.int _ _) rfl rfl rfl ?_
        refine TL.mv _ rfl rfl rfl ?_
        refine TL.callD [0] [0] (choose_ok ha hn hcb hcmp (by omega) (by omega) hn4) ⟨rfl, rfl, rfl, rfl, trivial⟩ ⟨rfl, trivial⟩ fc_c36 rfl rfl rfl rfl rfl trivial ?_
        generalize hpv0 : (choosePivot (ltf cf) d2 lo1 hi1).1 = pv0
        rw [hpv0] at hc0
        refine TL.mv (.tuple _) rfl rfl rfl ?_
        refine TL.ext (.int _ _) rfl rfl rfl rfl ?_
        refine TL.ext (.int _ _) rfl rfl rfl rfl ?_
        refine TL.asg (.int _ _) rfl rfl rfl ?_
        refine TL.asg (.int _ _) rfl rfl rfl ?_
        refine TL.done ?_
        refine TQ.then ?_
        refine TC.join (X := Nat × Int × Array Ans) [0, 1, 2, 3, 4, 10, 11, 12] [] (fun ⟨pv, hn_, d3⟩ => [(13, .int .i64 ((pv : Nat) : Int)), (14, .int .i64 hn_)]) (fun ⟨pv, hn_, d3⟩ => [(0, rw9 b off n d3)]) (fun ⟨pv, hn_, d3⟩ => PI (ltf cf) n (lo1) (hi1) T (d3) ∧ lo1 ≤ pv ∧ pv < hi1) ?_ (fun z hI => ?_)
        · skip
          refine TC.seq ?_
          refine TC.region ?_
          refine TL.mv (.int _ _) rfl rfl rfl ?_
          refine TL.eql rfl rfl rfl rfl (fun q3 => ?_) (fun q3 => ?_)
          · skip
            refine TL.done ?_
            refine TQ.then ?_
            refine TC.condT rfl ?_
            refine TC.seq ?_
            refine TC.region ?_
            refine TL.mv (.slice _ _ _) rfl rfl rfl ?_
            refine TL.mv (.int _ _) rfl rfl rfl ?_
            refine TL.mv (.int _ _) rfl rfl rfl ?_
            refine TL.mv _ rfl rfl rfl ?_
            refine TL.callD [0] [0] (rev_ok ha hn hcb hcmp (by omega) (by omega) (by omega)) ⟨rfl, rfl, rfl, rfl, trivial⟩ ⟨rfl, trivial⟩ fc_c37 rfl rfl rfl rfl rfl trivial ?_
            refine TL.done ?_
            refine TQ.then ?_
            refine TC.seq ?_
            refine TC.region ?_
            refine TL.mv (.int _ _) rfl rfl rfl ?_
            refine TL.sub (((hi1 - 1 : Nat) : Int)) rfl rfl (wrN (by omega)) rfl rfl ?_
            refine TL.mv (.int _ _) rfl rfl rfl ?_
            refine TL.mv (.int _ _) rfl rfl rfl ?_
            refine TL.sub (((pv0 - lo1 : Nat) : Int)) rfl rfl (wrN (by omega)) rfl rfl ?_
            refine TL.sub (((hi1 - 1 - (pv0 - lo1) : Nat) : Int)) rfl rfl (wrN (by omega)) rfl rfl ?_
            refine TL.asg (.int _ _) rfl rfl rfl ?_
            refine TL.done ?_
            refine TQ.then ?_
            refine TC.region ?_
            refine TL.asg (.int _ _) rfl rfl rfl ?_
            refine TL.done ?_
            refine TQ.roundK ((_, _, _)) ⟨⟨hI.rev, by show lo1 ≤ _; omega, by show _ < hi1; omega⟩, Nat.zero_lt_one⟩ ⟨rfl, rfl, trivial⟩ ⟨rfl, trivial⟩ (.cons rfl rfl (.cons rfl rfl (.cons rfl rfl (.cons rfl rfl (.cons rfl rfl (.cons rfl rfl (.cons rfl rfl (.cons rfl rfl trivial)))))))) trivial
          · skip
            refine TL.done ?_
            refine TQ.then ?_
            refine TC.condF rfl ?_
            refine TC.skip ?_
            refine TQ.roundK ((_, _, _)) ⟨⟨hI, hc0.1, hc0.2⟩, Nat.zero_lt_one⟩ ⟨rfl, rfl, trivial⟩ ⟨rfl, trivial⟩ (.cons rfl rfl (.cons rfl rfl (.cons rfl rfl (.cons rfl rfl (.cons rfl rfl (.cons rfl rfl (.cons rfl rfl (.cons rfl rfl trivial)))))))) trivial
        · skip
          obtain ⟨pv, hn_, d3⟩ := z
          obtain ⟨hP3, hpa, hpb⟩ := hI
          replace hpa : lo1 ≤ pv := hpa
          replace hpb : pv < hi1 := hpb
          replace hP3 : PI (ltf cf) n (lo1) (hi1) T (d3) := hP3
          have hpi := hP3.pins hS (by omega)
          refine TC.sub (env' := [(13, _), (14, _), (0, _), (1, _), (2, _), (3, _), (4, _), (10, _), (11, _), (12, _)]) (L' := [(0, _)]) ⟨rfl, rfl, rfl, rfl, rfl, rfl, rfl, rfl, rfl, rfl, trivial⟩ ⟨rfl, trivial⟩ ?_
          refine TC.join (X := Array Ans) [0, 1, 2, 3, 4, 10, 11, 12, 13] [] (fun d4 => []) (fun d4 => [(0, rw9 b off n d4)]) (fun d4 => PI (ltf cf) n (lo1) (hi1) T (d4)) ?_ (fun d4 hI => ?_)
          · skip
            refine TC.seq ?_
            refine TC.region ?_
            refine TL.mv (.bool _) rfl rfl rfl ?_
            refine TL.cases rfl (fun q3 => ?_) (fun q3 => ?_)
            · skip
              refine TL.mv (.bool true) rfl rfl rfl ?_
              refine TL.mv (.bool _) rfl rfl rfl ?_
              refine TL.cases rfl (fun q4 => ?_) (fun q4 => ?_)
              · skip
                refine TL.pickT (.bool true) rfl rfl rfl rfl ?_
                refine TL.mv (.bool true) rfl rfl rfl ?_
                refine TL.mv (.int _ _) rfl rfl rfl ?_
                refine TL.eql rfl rfl rfl rfl (fun q5 => ?_) (fun q5 => ?_)
                · skip
                  refine TL.pickT (.bool true) rfl rfl rfl rfl ?_
                  refine TL.done ?_
                  refine TQ.then ?_
                  refine TC.condT rfl ?_
                  refine TC.seq ?_
                  refine TC.region ?_
                  refine TL.mv (.slice _ _ _) rfl rfl rfl ?_
                  refine TL.mv (.int _ _) rfl rfl rfl ?_
                  refine TL.mv (.int _ _) rfl rfl rfl ?_
                  refine TL.mv _ rfl rfl rfl ?_
                  refine TL.callD [0] [0] (pins_ok ha hn hcb hcmp (by omega) (by omega) hn4) ⟨rfl, rfl, rfl, rfl, trivial⟩ ⟨rfl, trivial⟩ fc_c38 rfl rfl rfl rfl rfl trivial ?_
                  refine TL.cases rfl (fun q6 => ?_) (fun q6 => ?_)
                  · skip
                    refine TL.done ?_
                    refine TQ.then ?_
                    refine TC.condT rfl ?_
                    refine TC.ret ?_
                    refine TQ.thenRet ?_
                    refine TQ.blockRet ?_
                    refine TQ.thenRet ?_
                    refine TQ.blockRet ?_
                    refine FQ.ret0 (Bs := [_]) [0] rfl rfl ⟨rfl, trivial⟩ ?_
                    exact ⟨_, rfl, rfl, hpi.2 (by assumption)⟩
                  · skip
                    refine TL.done ?_
                    refine TQ.then ?_
                    refine TC.condF rfl ?_
                    refine TC.skip ?_
                    refine TQ.roundK (_) ⟨hpi.1, Nat.zero_lt_one⟩ trivial ⟨rfl, trivial⟩ (.cons rfl rfl (.cons rfl rfl (.cons rfl rfl (.cons rfl rfl (.cons rfl rfl (.cons rfl rfl (.cons rfl rfl (.cons rfl rfl (.cons rfl rfl trivial))))))))) trivial
                · skip
                  refine TL.pickT (.bool false) rfl rfl rfl rfl ?_
                  refine TL.done ?_
                  refine TQ.then ?_
                  refine TC.condF rfl ?_
                  refine TC.skip ?_
                  refine TQ.roundK (_) ⟨hP3, Nat.zero_lt_one⟩ trivial ⟨rfl, trivial⟩ (.cons rfl rfl (.cons rfl rfl (.cons rfl rfl (.cons rfl rfl (.cons rfl rfl (.cons rfl rfl (.cons rfl rfl (.cons rfl rfl (.cons rfl rfl trivial))))))))) trivial
              · skip
                refine TL.pickT (.bool false) rfl rfl rfl rfl ?_
                refine TL.mv (.bool false) rfl rfl rfl ?_
                refine TL.off rfl rfl ?_
                refine TL.off rfl rfl ?_
                refine TL.pickF (.bool false) rfl rfl rfl rfl ?_
                refine TL.done ?_
                refine TQ.then ?_
                refine TC.condF rfl ?_
                refine TC.skip ?_
                refine TQ.roundK (_) ⟨hP3, Nat.zero_lt_one⟩ trivial ⟨rfl, trivial⟩ (.cons rfl rfl (.cons rfl rfl (.cons rfl rfl (.cons rfl rfl (.cons rfl rfl (.cons rfl rfl (.cons rfl rfl (.cons rfl rfl (.cons rfl rfl trivial))))))))) trivial
            · skip
              refine TL.mv (.bool false) rfl rfl rfl ?_
              refine TL.off rfl rfl ?_
              refine TL.pickF (.bool false) rfl rfl rfl rfl ?_
              refine TL.mv (.bool false) rfl rfl rfl ?_
              refine TL.off rfl rfl ?_
              refine TL.off rfl rfl ?_
              refine TL.pickF (.bool false) rfl rfl rfl rfl ?_
              refine TL.done ?_
              refine TQ.then ?_
              refine TC.condF rfl ?_
              refine TC.skip ?_
              refine TQ.roundK (_) ⟨hP3, Nat.zero_lt_one⟩ trivial ⟨rfl, trivial⟩ (.cons rfl rfl (.cons rfl rfl (.cons rfl rfl (.cons rfl rfl (.cons rfl rfl (.cons rfl rfl (.cons rfl rfl (.cons rfl rfl (.cons rfl rfl trivial))))))))) trivial
          · skip
            replace hI : PI (ltf cf) n (lo1) (hi1) T (d4) := hI
            refine TC.sub (env' := [(0, _), (1, _), (2, _), (3, _), (4, _), (10, _), (11, _), (12, _), (13, _)]) (L' := [(0, _)]) ⟨rfl, rfl, rfl, rfl, rfl, rfl, rfl, rfl, rfl, trivial⟩ ⟨rfl, trivial⟩ ?_
            refine TC.seq ?_
            refine TC.seq ?_
            refine TC.draw [(0, true), (1, true), (2, true), (3, true), (4, true), (5, true), (6, true), (7, true), (8, true), (9, true), (10, true), (11, true), (12, true), (13, false), (14, true), (15, true), (16, true)] [0] fc_m (by kernel_rfl) ?_
            refine TL.mv (.int _ _) rfl rfl rfl ?_
            refine TL.gtr rfl rfl rfl rfl (fun q3 => ?_) (fun q3 => ?_)
            · skip
              refine TL.mv (.bool true) rfl rfl rfl ?_
              refine TL.mv _ rfl rfl rfl ?_
              refine TL.mv (.slice _ _ _) rfl rfl rfl ?_
              refine TL.mv (.int _ _) rfl rfl rfl ?_
              refine TL.sub (((lo1 - 1 : Nat) : Int)) rfl rfl (wrN (by omega)) rfl rfl ?_
              refine TL.iaO rfl ha rfl fc_l22_29_9 (by omega) rfl rfl ?_
              refine TL.ldR 0 rfl rfl rowW_of (by omega) fc_a29_9 rfl rfl ?_
              refine TL.mv (.slice _ _ _) rfl rfl rfl ?_
              refine TL.mv (.int _ _) rfl rfl rfl ?_
              refine TL.iaO rfl ha rfl fc_l22_29_9 (by omega) rfl rfl ?_
              refine TL.ldR 0 rfl rfl rowW_of (by omega) fc_a29_9 rfl rfl ?_
              refine TL.callC (c1 := []) (c2 := []) (vs := [_, _]) [] [] rfl (hcmp _ _) ⟨rfl, rfl, trivial⟩ trivial hcb rfl rfl rfl rfl rfl (.cons rfl rfl trivial) ?_
              refine TL.lss rfl rfl rfl rfl (fun q4 => ?_) (fun q4 => ?_)
              · skip
                refine TL.not true false rfl rfl rfl rfl ?_
                refine TL.pickT (.bool false) rfl rfl rfl rfl ?_
                refine TL.done ?_
                refine TQ.then ?_
                refine TC.condF rfl ?_
                refine TC.skip ?_
                refine TQ.then ?_
                refine TC.seq ?_
                refine TC.region ?_
                refine TL.mv (.slice _ _ _) rfl rfl rfl ?_
                refine TL.mv (.int _ _) rfl rfl rfl ?_
                refine TL.mv (.int _ _) rfl rfl rfl ?_
                refine TL.mv (.int _ _) rfl rfl rfl ?_
                refine TL.mv _ rfl rfl rfl ?_
                refine TL.callD [0] [0] (part_ok ha hn hcb hcmp (by omega) (by omega) (by omega)) ⟨rfl, rfl, rfl, rfl, rfl, trivial⟩ ⟨rfl, trivial⟩ fc_c40 rfl rfl rfl rfl rfl trivial ?_
                obtain ⟨e1, e2, e3, e4⟩ := hI.part hS hpa hpb
                generalize hmd : (partition (ltf cf) d4 lo1 hi1 pv).1 = md
                rw [hmd] at e1 e2 e3 e4
                refine TL.mv (.tuple _) rfl rfl rfl ?_
                refine TL.ext (.int _ _) rfl rfl rfl rfl ?_
                refine TL.ext (.bool _) rfl rfl rfl rfl ?_
                refine TL.asg (.int _ _) rfl rfl rfl ?_
                refine TL.asg (.bool _) rfl rfl rfl ?_
                refine TL.done ?_
                refine TQ.then ?_
                refine TC.seq ?_
                refine TC.region ?_
                refine TL.mv (.bool _) rfl rfl rfl ?_
                refine TL.asg (.bool _) rfl rfl rfl ?_
                refine TL.done ?_
                refine TQ.then ?_
                refine TC.seq ?_
                refine TC.region ?_
                refine TL.mv (.int _ _) rfl rfl rfl ?_
                refine TL.mv (.int _ _) rfl rfl rfl ?_
                refine TL.sub (((md - lo1 : Nat) : Int)) rfl rfl (wrN (by omega)) rfl rfl ?_
                refine TL.mv (.int _ _) rfl rfl rfl ?_
                refine TL.mv (.int _ _) rfl rfl rfl ?_
                refine TL.sub (((hi1 - md : Nat) : Int)) rfl rfl (wrN (by omega)) rfl rfl ?_
                refine TL.asg (.int _ _) rfl rfl rfl ?_
                refine TL.asg (.int _ _) rfl rfl rfl ?_
                refine TL.done ?_
                refine TQ.then ?_
                refine TC.seq ?_
                refine TC.region ?_
                refine TL.mv (.int _ _) rfl rfl rfl ?_
                refine TL.quo ((((hi1 - lo1) / 8 : Nat) : Int)) rfl rfl (by omega) (quoN (k := 8) (by omega)) rfl rfl ?_
                refine TL.asg (.int _ _) rfl rfl rfl ?_
                refine TL.done ?_
                refine TQ.then ?_
                refine TC.seq ?_
                refine TC.region ?_
                refine TL.mv (.int _ _) rfl rfl rfl ?_
                refine TL.mv (.int _ _) rfl rfl rfl ?_
                refine TL.lss rfl rfl rfl rfl (fun q5 => ?_) (fun q5 => ?_)
                · skip
                  refine TL.done ?_
                  refine TQ.then ?_
                  refine TC.condT rfl ?_
                  refine TC.seq ?_
                  refine TC.region ?_
                  refine TL.mv (.int _ _) rfl rfl rfl ?_
                  refine TL.mv (.int _ _) rfl rfl rfl ?_
                  refine TL.geqV rfl rfl rfl rfl ?_
                  refine TL.asg (.bool _) rfl rfl rfl ?_
                  refine TL.done ?_
                  refine TQ.then ?_
                  refine TC.seq ?_
                  refine TC.region ?_
                  refine TL.mv (.slice _ _ _) rfl rfl rfl ?_
                  refine TL.mv (.int _ _) rfl rfl rfl ?_
                  refine TL.mv (.int _ _) rfl rfl rfl ?_
                  refine TL.mv (.int _ _) rfl rfl rfl ?_
                  refine TL.mv _ rfl rfl rfl ?_
                  refine TL.call [0] [0] (ih _ (show _ < k from by omega) (Nat.le_refl _) e3) ⟨rfl, rfl, rfl, rfl, rfl, trivial⟩ ⟨rfl, trivial⟩ fc_c28 rfl rfl rfl rfl ?_
                  rintro v Bs ⟨d5, rfl, rfl, hT5⟩
                  refine ⟨rfl, trivial, ?_⟩
                  refine TL.done ?_
                  refine TQ.then ?_
                  refine TC.region ?_
                  refine TL.mv (.int _ _) rfl rfl rfl ?_
                  refine TL.add (((md + 1 : Nat) : Int)) rfl rfl (wrN (by omega)) rfl rfl ?_
                  refine TL.asg (.int _ _) rfl rfl rfl ?_
                  refine TL.done ?_
                  refine TQ.inBlock ?_
                  refine TQ.roundK ((md + 1, hi1, _, _, _, d5)) ⟨⟨hT5, by show hi1 - (md + 1) ≤ k; omega⟩, by show hi1 - (md + 1) < hi1 - lo1; omega⟩ ⟨rfl, rfl, rfl, rfl, rfl, trivial⟩ ⟨rfl, trivial⟩ (.cons rfl rfl (.cons rfl rfl trivial)) trivial
                · skip
                  refine TL.done ?_
                  refine TQ.then ?_
                  refine TC.condF rfl ?_
                  refine TC.seq ?_
                  refine TC.region ?_
                  refine TL.mv (.int _ _) rfl rfl rfl ?_
                  refine TL.mv (.int _ _) rfl rfl rfl ?_
                  refine TL.geqV rfl rfl rfl rfl ?_
                  refine TL.asg (.bool _) rfl rfl rfl ?_
                  refine TL.done ?_
                  refine TQ.then ?_
                  refine TC.seq ?_
                  refine TC.region ?_
                  refine TL.mv (.slice _ _ _) rfl rfl rfl ?_
                  refine TL.mv (.int _ _) rfl rfl rfl ?_
                  refine TL.add (((md + 1 : Nat) : Int)) rfl rfl (wrN (by omega)) rfl rfl ?_
                  refine TL.mv (.int _ _) rfl rfl rfl ?_
                  refine TL.mv (.int _ _) rfl rfl rfl ?_
                  refine TL.mv _ rfl rfl rfl ?_
                  refine TL.call [0] [0] (ih _ (show _ < k from by omega) (Nat.le_refl _) e4) ⟨rfl, rfl, rfl, rfl, rfl, trivial⟩ ⟨rfl, trivial⟩ fc_c28 rfl rfl rfl rfl ?_
                  rintro v Bs ⟨d5, rfl, rfl, hT5⟩
                  refine ⟨rfl, trivial, ?_⟩
                  refine TL.done ?_
                  refine TQ.then ?_
                  refine TC.region ?_
                  refine TL.mv (.int _ _) rfl rfl rfl ?_
                  refine TL.asg (.int _ _) rfl rfl rfl ?_
                  refine TL.done ?_
                  refine TQ.inBlock ?_
                  refine TQ.roundK ((lo1, md, _, _, _, d5)) ⟨⟨hT5, by show md - lo1 ≤ k; omega⟩, by show md - lo1 < hi1 - lo1; omega⟩ ⟨rfl, rfl, rfl, rfl, rfl, trivial⟩ ⟨rfl, trivial⟩ (.cons rfl rfl (.cons rfl rfl trivial)) trivial
              · skip
                refine TL.not false true rfl rfl rfl rfl ?_
                refine TL.pickT (.bool true) rfl rfl rfl rfl ?_
                refine TL.done ?_
                refine TQ.then ?_
                refine TC.condT rfl ?_
                refine TC.seq ?_
                refine TC.region ?_
                refine TL.mv (.slice _ _ _) rfl rfl rfl ?_
                refine TL.mv (.int _ _) rfl rfl rfl ?_
                refine TL.mv (.int _ _) rfl rfl rfl ?_
                refine TL.mv (.int _ _) rfl rfl rfl ?_
                refine TL.mv _ rfl rfl rfl ?_
                refine TL.callD [0] [0] (parteq_ok ha hn hcb hcmp (by omega) (by omega) (by omega)) ⟨rfl, rfl, rfl, rfl, rfl, trivial⟩ ⟨rfl, trivial⟩ fc_c39 rfl rfl rfl rfl rfl trivial ?_
                have e := hI.eq hS (by omega) hpa hpb (ltF (by assumption))
                obtain ⟨e1, e2, e3⟩ := e
                refine TL.asg (.int _ _) rfl rfl rfl ?_
                refine TL.done ?_
                refine TQ.then ?_
                refine TC.seq ?_
                refine TC.region ?_
                refine TL.mv (.int _ _) rfl rfl rfl ?_
                refine TL.asg (.int _ _) rfl rfl rfl ?_
                refine TL.done ?_
                refine TQ.then ?_
                refine TC.exit ?_
                refine TQ.thenExit ?_
                refine TQ.blockHere ?_
                refine TQ.roundK (((partitionEqual (ltf cf) d4 lo1 hi1 pv).1, hi1, _, _, _, (partitionEqual (ltf cf) d4 lo1 hi1 pv).2)) ⟨⟨e3, by show hi1 - (partitionEqual (ltf cf) d4 lo1 hi1 pv).1 ≤ k; omega⟩, by show hi1 - (partitionEqual (ltf cf) d4 lo1 hi1 pv).1 < hi1 - lo1; omega⟩ ⟨rfl, rfl, rfl, rfl, rfl, trivial⟩ ⟨rfl, trivial⟩ (.cons rfl rfl (.cons rfl rfl trivial)) trivial
            · skip
              refine TL.mv (.bool false) rfl rfl rfl ?_
              refine TL.off rfl rfl ?_
              refine TL.off rfl rfl ?_
              refine TL.off rfl rfl ?_
              refine TL.off rfl rfl ?_
              refine TL.off rfl rfl ?_
              refine TL.off rfl rfl ?_
              refine TL.off rfl rfl ?_
              refine TL.off rfl rfl ?_
              refine TL.off rfl rfl ?_
              refine TL.off rfl rfl ?_
              refine TL.off rfl rfl ?_
              refine TL.off rfl rfl ?_
              refine TL.off rfl rfl ?_
              refine TL.pickF (.bool false) rfl rfl rfl rfl ?_
              refine TL.done ?_
              refine TQ.then ?_
              refine TC.condF rfl ?_
              refine TC.skip ?_
              refine TQ.then ?_
              refine TC.seq ?_
              refine TC.region ?_
              refine TL.mv (.slice _ _ _) rfl rfl rfl ?_
              refine TL.mv (.int _ _) rfl rfl rfl ?_
              refine TL.mv (.int _ _) rfl rfl rfl ?_
              refine TL.mv (.int _ _) rfl rfl rfl ?_
              refine TL.mv _ rfl rfl rfl ?_
              refine TL.callD [0] [0] (part_ok ha hn hcb hcmp (by omega) (by omega) (by omega)) ⟨rfl, rfl, rfl, rfl, rfl, trivial⟩ ⟨rfl, trivial⟩ fc_c40 rfl rfl rfl rfl rfl trivial ?_
              obtain ⟨e1, e2, e3, e4⟩ := hI.part hS hpa hpb
              generalize hmd : (partition (ltf cf) d4 lo1 hi1 pv).1 = md
              rw [hmd] at e1 e2 e3 e4
              refine TL.mv (.tuple _) rfl rfl rfl ?_
              refine TL.ext (.int _ _) rfl rfl rfl rfl ?_
              refine TL.ext (.bool _) rfl rfl rfl rfl ?_
              refine TL.asg (.int _ _) rfl rfl rfl ?_
              refine TL.asg (.bool _) rfl rfl rfl ?_
              refine TL.done ?_
              refine TQ.then ?_
              refine TC.seq ?_
              refine TC.region ?_
              refine TL.mv (.bool _) rfl rfl rfl ?_
              refine TL.asg (.bool _) rfl rfl rfl ?_
              refine TL.done ?_
              refine TQ.then ?_
              refine TC.seq ?_
              refine TC.region ?_
              refine TL.mv (.int _ _) rfl rfl rfl ?_
              refine TL.mv (.int _ _) rfl rfl rfl ?_
              refine TL.sub (((md - lo1 : Nat) : Int)) rfl rfl (wrN (by omega)) rfl rfl ?_
              refine TL.mv (.int _ _) rfl rfl rfl ?_
              refine TL.mv (.int _ _) rfl rfl rfl ?_
              refine TL.sub (((hi1 - md : Nat) : Int)) rfl rfl (wrN (by omega)) rfl rfl ?_
              refine TL.asg (.int _ _) rfl rfl rfl ?_
              refine TL.asg (.int _ _) rfl rfl rfl ?_
              refine TL.done ?_
              refine TQ.then ?_
              refine TC.seq ?_
              refine TC.region ?_
              refine TL.mv (.int _ _) rfl rfl rfl ?_
              refine TL.quo ((((hi1 - lo1) / 8 : Nat) : Int)) rfl rfl (by omega) (quoN (k := 8) (by omega)) rfl rfl ?_
              refine TL.asg (.int _ _) rfl rfl rfl ?_
              refine TL.done ?_
              refine TQ.then ?_
              refine TC.seq ?_
              refine TC.region ?_
              refine TL.mv (.int _ _) rfl rfl rfl ?_
              refine TL.mv (.int _ _) rfl rfl rfl ?_
              refine TL.lss rfl rfl rfl rfl (fun q4 => ?_) (fun q4 => ?_)
              · skip
                refine TL.done ?_
                refine TQ.then ?_
                refine TC.condT rfl ?_
                refine TC.seq ?_
                refine TC.region ?_
                refine TL.mv (.int _ _) rfl rfl rfl ?_
                refine TL.mv (.int _ _) rfl rfl rfl ?_
                refine TL.geqV rfl rfl rfl rfl ?_
                refine TL.asg (.bool _) rfl rfl rfl ?_
                refine TL.done ?_
                refine TQ.then ?_
                refine TC.seq ?_
                refine TC.region ?_
                refine TL.mv (.slice _ _ _) rfl rfl rfl ?_
                refine TL.mv (.int _ _) rfl rfl rfl ?_
                refine TL.mv (.int _ _) rfl rfl rfl ?_
                refine TL.mv (.int _ _) rfl rfl rfl ?_
                refine TL.mv _ rfl rfl rfl ?_
                refine TL.call [0] [0] (ih _ (show _ < k from by omega) (Nat.le_refl _) e3) ⟨rfl, rfl, rfl, rfl, rfl, trivial⟩ ⟨rfl, trivial⟩ fc_c28 rfl rfl rfl rfl ?_
                rintro v Bs ⟨d5, rfl, rfl, hT5⟩
                refine ⟨rfl, trivial, ?_⟩
                refine TL.done ?_
                refine TQ.then ?_
                refine TC.region ?_
                refine TL.mv (.int _ _) rfl rfl rfl ?_
                refine TL.add (((md + 1 : Nat) : Int)) rfl rfl (wrN (by omega)) rfl rfl ?_
                refine TL.asg (.int _ _) rfl rfl rfl ?_
                refine TL.done ?_
                refine TQ.inBlock ?_
                refine TQ.roundK ((md + 1, hi1, _, _, _, d5)) ⟨⟨hT5, by show hi1 - (md + 1) ≤ k; omega⟩, by show hi1 - (md + 1) < hi1 - lo1; omega⟩ ⟨rfl, rfl, rfl, rfl, rfl, trivial⟩ ⟨rfl, trivial⟩ (.cons rfl rfl (.cons rfl rfl trivial)) trivial
              · skip
                refine TL.done ?_
                refine TQ.then ?_
                refine TC.condF rfl ?_
                refine TC.seq ?_
                refine TC.region ?_
                refine TL.mv (.int _ _) rfl rfl rfl ?_
                refine TL.mv (.int _ _) rfl rfl rfl ?_
                refine TL.geqV rfl rfl rfl rfl ?_
                refine TL.asg (.bool _) rfl rfl rfl ?_
                refine TL.done ?_
                refine TQ.then ?_
                refine TC.seq ?_
                refine TC.region ?_
                refine TL.mv (.slice _ _ _) rfl rfl rfl ?_
                refine TL.mv (.int _ _) rfl rfl rfl ?_
                refine TL.add (((md + 1 : Nat) : Int)) rfl rfl (wrN (by omega)) rfl rfl ?_
                refine TL.mv (.int _ _) rfl rfl rfl ?_
                refine TL.mv (.int _ _) rfl rfl rfl ?_
                refine TL.mv _ rfl rfl rfl ?_
                refine TL.call [0] [0] (ih _ (show _ < k from by omega) (Nat.le_refl _) e4) ⟨rfl, rfl, rfl, rfl, rfl, trivial⟩ ⟨rfl, trivial⟩ fc_c28 rfl rfl rfl rfl ?_
                rintro v Bs ⟨d5, rfl, rfl, hT5⟩
                refine ⟨rfl, trivial, ?_⟩
                refine TL.done ?_
                refine TQ.then ?_
                refine TC.region ?_
                refine TL.mv (.int _ _) rfl rfl rfl ?_
                refine TL.asg (.int _ _) rfl rfl rfl ?_
                refine TL.done ?_
                refine TQ.inBlock ?_
                refine TQ.roundK ((lo1, md, _, _, _, d5)) ⟨⟨hT5, by show md - lo1 ≤ k; omega⟩, by show md - lo1 < hi1 - lo1; omega⟩ ⟨rfl, rfl, rfl, rfl, rfl, trivial⟩ ⟨rfl, trivial⟩ (.cons rfl rfl (.cons rfl rfl trivial)) trivial

set_option maxHeartbeats 4000000 in
theorem sortf_ok {a : Option Addr} {b off n c g : Nat} {d : Array Ans} {cf : Ans → Ans → Int} (ha : 0 < n → a = some ⟨b, off, none⟩) (hn : n ≤ 1000) (hcb : callB Try.prog g = true) (hcmp : ∀ x y, FnD Try.prog g [.agg (encA x).toArray, .agg (encA y).toArray] [] (.int .i64 (cf x y)) []) (hn4 : n ≤ 40) (hS : SWO (ltf cf)) (hsz : d.size = n) : Go.Eng.Fn Try.prog 21 [.slice a n c, .func (.func g) #[] #[]] [rw9 b off n d] (fun v Bs => ∃ d', v = .tuple #[] ∧ Bs = [rw9 b off n d'] ∧ PermIn 0 n d d' ∧ SortedIn (ltf cf) 0 n d') := by
  refine Fn.enter (Try.func21) rfl rfl (fun w0 R => ?_)
  refine TC.seq ?_
  refine TC.region ?_
  refine TL.mv (.slice _ _ _) rfl rfl rfl ?_
  refine TL.lenS rfl fc_l22_29_9 rfl rfl ?_
  refine TL.asg (.int _ _) rfl rfl rfl ?_
  refine TL.done ?_
  refine TQ.then ?_
  refine TC.region ?_
  refine TL.mv (.slice _ _ _) rfl rfl rfl ?_
  refine TL.mv (.int _ _) rfl rfl rfl ?_
  refine TL.mv (.int _ _) rfl rfl rfl ?_
  refine TL.conv _ rfl fc_u3 fc_i48_u64 (wru64 (by omega)) rfl rfl ?_
  refine TL.callD [] [] (len_ok (by omega)) ⟨rfl, trivial⟩ trivial fc_c29 rfl rfl rfl rfl rfl trivial ?_
  refine TL.mv _ rfl rfl rfl ?_
  refine TL.call [0] [0] (pdq_ok (T := (fun d' => PermIn 0 n d d' ∧ SortedIn (ltf cf) 0 n d')) (lo := 0) (hi := n) (k := n) ha hn hcb hcmp hn4 hS (by omega) ⟨Nat.zero_le _, Nat.le_refl _, hsz, Or.inl rfl, fun R h1 h2 => ⟨h1, h2⟩⟩) ⟨rfl, rfl, rfl, rfl, rfl, trivial⟩ ⟨rfl, trivial⟩ fc_c28 rfl rfl rfl rfl ?_
  rintro v Bs ⟨d5, rfl, rfl, hT5⟩
  refine ⟨rfl, trivial, ?_⟩
  refine TL.done ?_
  refine FQ.end0 (Bs := [_]) [0] rfl rfl ⟨rfl, trivial⟩ ?_
  exact ⟨_, rfl, rfl, hT5⟩

theorem goes_ok {x : Ans} : FnD Try.prog 18 [.agg #[.int .i64 x.kind, .int .i64 x.u, .int .i64 x.v, .int .i64 x.thread, .int .i64 x.beg, .int .i64 x.point, .int .i64 x.fin, .bool x.yes, .int .i64 x.code]] [] (.bool (decide (x.fin = 0))) [] := by
  refine Fn.enter (Try.func18) rfl rfl (fun w0 R => ?_)
  refine TC.seq ?_
  refine TC.region ?_
  refine TL.boxA 0 rfl rfl rfl (fun _ => trivial) (fun bk0 => ?_)
  refine TL.asg (.bool false) rfl rfl rfl ?_
  refine TL.done ?_
  refine TQ.then ?_
  refine TC.seq ?_
  refine TC.region ?_
  refine TL.fa 6 rfl fc_f29_4_6 rfl rfl ?_
  refine TL.ld 0 (.int _ _) rfl rfl rfl fc_s3 rfl rfl ?_
  refine TL.eqlV rfl rfl rfl rfl ?_
  refine TL.asg (.bool _) rfl rfl rfl ?_
  refine TL.done ?_
  refine TQ.then ?_
  refine TC.ret ?_
  refine FQ.ret1 (v := (.bool _)) (Bs := []) [] rfl rfl rfl trivial ?_
  exact ⟨rfl, rfl⟩

theorem ahead_ok {x y : Ans} : FnD Try.prog 10 [.agg #[.int .i64 x.kind, .int .i64 x.u, .int .i64 x.v, .int .i64 x.thread, .int .i64 x.beg, .int .i64 x.point, .int .i64 x.fin, .bool x.yes, .int .i64 x.code], .agg #[.int .i64 y.kind, .int .i64 y.u, .int .i64 y.v, .int .i64 y.thread, .int .i64 y.beg, .int .i64 y.point, .int .i64 y.fin, .bool y.yes, .int .i64 y.code]] [] (.bool (aheadA x y)) [] := by
  refine Fn.enter (Try.func10) rfl rfl (fun w0 R => ?_)
  refine TC.seq ?_
  refine TC.region ?_
  refine TL.boxA 0 rfl rfl rfl (fun _ => trivial) (fun bk0 => ?_)
  refine TL.boxA 1 rfl rfl rfl (fun _ => trivial) (fun bk1 => ?_)
  refine TL.asg (.bool false) rfl rfl rfl ?_
  refine TL.done ?_
  refine TQ.then ?_
  refine TC.seq ?_
  refine TC.region ?_
  refine TL.ldA 0 9 [_, _, _, _, _, _, _, _, _] rfl rfl rfl fc_a29_9 rfl rfl ?_
  refine TL.callD [] [] goes_ok ⟨rfl, trivial⟩ trivial fc_c18 rfl rfl rfl rfl rfl trivial ?_
  refine TL.casesP rfl (fun q1 => ?_) (fun q1 => ?_)
  · skip
    refine TL.not true false rfl rfl rfl rfl ?_
    refine TL.mv (.bool false) rfl rfl rfl ?_
    refine TL.off rfl rfl ?_
    refine TL.off rfl rfl ?_
    refine TL.off rfl rfl ?_
    refine TL.off rfl rfl ?_
    refine TL.off rfl rfl ?_
    refine TL.pickF (.bool false) rfl rfl rfl rfl ?_
    refine TL.asg (.bool false) rfl rfl rfl ?_
    refine TL.done ?_
    refine TQ.then ?_
    refine TC.ret ?_
    refine FQ.ret1 (v := (.bool false)) (Bs := []) [] rfl rfl rfl trivial ?_
    exact ⟨congrArg Value.bool (by first | (simp_all [goesA, aheadA, rightA, unlikeA]; done) | (simp_all [goesA, aheadA, rightA, unlikeA] <;> intros <;> omega)), rfl⟩
  · skip
    refine TL.not false true rfl rfl rfl rfl ?_
    refine TL.mv (.bool true) rfl rfl rfl ?_
    refine TL.fa 6 rfl fc_f29_4_6 rfl rfl ?_
    refine TL.ld 0 (.int _ _) rfl rfl rfl fc_s3 rfl rfl ?_
    refine TL.fa 4 rfl fc_f29_2_4 rfl rfl ?_
    refine TL.ld 1 (.int _ _) rfl rfl rfl fc_s3 rfl rfl ?_
    refine TL.lssV rfl rfl rfl rfl ?_
    refine TL.pickT (.bool _) rfl rfl rfl rfl ?_
    refine TL.asg (.bool _) rfl rfl rfl ?_
    refine TL.done ?_
    refine TQ.then ?_
    refine TC.ret ?_
    refine FQ.ret1 (v := (.bool _)) (Bs := []) [] rfl rfl rfl trivial ?_
    exact ⟨congrArg Value.bool (by first | (simp_all [goesA, aheadA, rightA, unlikeA]; done) | (simp_all [goesA, aheadA, rightA, unlikeA] <;> intros <;> omega)), rfl⟩

theorem right_ok {x : Ans} : FnD Try.prog 16 [.agg #[.int .i64 x.kind, .int .i64 x.u, .int .i64 x.v, .int .i64 x.thread, .int .i64 x.beg, .int .i64 x.point, .int .i64 x.fin, .bool x.yes, .int .i64 x.code]] [] (.bool (rightA x)) [] := by
  refine Fn.enter (Try.func16) rfl rfl (fun w0 R => ?_)
  refine TC.seq ?_
  refine TC.region ?_
  refine TL.boxA 0 rfl rfl rfl (fun _ => trivial) (fun bk0 => ?_)
  refine TL.asg (.bool false) rfl rfl rfl ?_
  refine TL.done ?_
  refine TQ.then ?_
  refine TC.seq ?_
  refine TC.block ?_
  refine TC.seq ?_
  refine TC.region ?_
  refine TL.fa 3 rfl fc_f29_1_3 rfl rfl ?_
  refine TL.ld 0 (.int _ _) rfl rfl rfl fc_s3 rfl rfl ?_
  refine TL.lss rfl rfl rfl rfl (fun q1 => ?_) (fun q1 => ?_)
  · skip
    refine TL.mv (.bool true) rfl rfl rfl ?_
    refine TL.off rfl rfl ?_
    refine TL.off rfl rfl ?_
    refine TL.off rfl rfl ?_
    refine TL.pickT (.bool true) rfl rfl rfl rfl ?_
    refine TL.asg (.bool true) rfl rfl rfl ?_
    refine TL.done ?_
    refine TQ.then ?_
    refine TC.condT rfl ?_
    refine TC.seq ?_
    refine TC.region ?_
    refine TL.asg (.bool false) rfl rfl rfl ?_
    refine TL.done ?_
    refine TQ.then ?_
    refine TC.ret ?_
    refine TQ.blockRet ?_
    refine TQ.thenRet ?_
    refine FQ.ret1 (v := (.bool false)) (Bs := []) [] rfl rfl rfl trivial ?_
    exact ⟨congrArg Value.bool (by first | (simp_all [goesA, aheadA, rightA, unlikeA]; done) | (simp_all [goesA, aheadA, rightA, unlikeA] <;> intros <;> omega)), rfl⟩
  · skip
    refine TL.mv (.bool false) rfl rfl rfl ?_
    refine TL.fa 4 rfl fc_f29_2_4 rfl rfl ?_
    refine TL.ld 0 (.int _ _) rfl rfl rfl fc_s3 rfl rfl ?_
    refine TL.lss rfl rfl rfl rfl (fun q2 => ?_) (fun q2 => ?_)
    · skip
      refine TL.pickF (.bool true) rfl rfl rfl rfl ?_
      refine TL.asg (.bool true) rfl rfl rfl ?_
      refine TL.done ?_
      refine TQ.then ?_
      refine TC.condT rfl ?_
      refine TC.seq ?_
      refine TC.region ?_
      refine TL.asg (.bool false) rfl rfl rfl ?_
      refine TL.done ?_
      refine TQ.then ?_
      refine TC.ret ?_
      refine TQ.blockRet ?_
      refine TQ.thenRet ?_
      refine FQ.ret1 (v := (.bool false)) (Bs := []) [] rfl rfl rfl trivial ?_
      exact ⟨congrArg Value.bool (by first | (simp_all [goesA, aheadA, rightA, unlikeA]; done) | (simp_all [goesA, aheadA, rightA, unlikeA] <;> intros <;> omega)), rfl⟩
    · skip
      refine TL.pickF (.bool false) rfl rfl rfl rfl ?_
      refine TL.asg (.bool false) rfl rfl rfl ?_
      refine TL.done ?_
      refine TQ.then ?_
      refine TC.condF rfl ?_
      refine TC.seq ?_
      refine TC.region ?_
      refine TL.ldA 0 9 [_, _, _, _, _, _, _, _, _] rfl rfl rfl fc_a29_9 rfl rfl ?_
      refine TL.callD [] [] goes_ok ⟨rfl, trivial⟩ trivial fc_c18 rfl rfl rfl rfl rfl trivial ?_
      refine TL.casesP rfl (fun q3 => ?_) (fun q3 => ?_)
      · skip
        refine TL.asg (.bool true) rfl rfl rfl ?_
        refine TL.done ?_
        refine TQ.then ?_
        refine TC.condT rfl ?_
        refine TC.seq ?_
        refine TC.region ?_
        refine TL.fa 5 rfl fc_f29_3_5 rfl rfl ?_
        refine TL.ld 0 (.int _ _) rfl rfl rfl fc_s3 rfl rfl ?_
        refine TL.eql rfl rfl rfl rfl (fun q4 => ?_) (fun q4 => ?_)
        · skip
          refine TL.mv (.bool true) rfl rfl rfl ?_
          refine TL.fa 7 rfl fc_f29_5_7 rfl rfl ?_
          refine TL.ld 0 (.bool _) rfl rfl rfl fc_s4 rfl rfl ?_
          refine TL.not _ _ rfl rfl rfl rfl ?_
          refine TL.pickT (.bool _) rfl rfl rfl rfl ?_
          refine TL.mv (.bool _) rfl rfl rfl ?_
          refine TL.cases rfl (fun q5 => ?_) (fun q5 => ?_)
          · skip
            refine TL.fa 8 rfl fc_f29_6_8 rfl rfl ?_
            refine TL.ld 0 (.int _ _) rfl rfl rfl fc_s27 rfl rfl ?_
            refine TL.eqlV rfl rfl rfl rfl ?_
            refine TL.pickT (.bool _) rfl rfl rfl rfl ?_
            refine TL.asg (.bool _) rfl rfl rfl ?_
            refine TL.done ?_
            refine TQ.then ?_
            refine TC.ret ?_
            refine TQ.blockRet ?_
            refine TQ.thenRet ?_
            refine FQ.ret1 (v := (.bool _)) (Bs := []) [] rfl rfl rfl trivial ?_
            exact ⟨congrArg Value.bool (by first | (simp_all [goesA, aheadA, rightA, unlikeA]; done) | (simp_all [goesA, aheadA, rightA, unlikeA] <;> intros <;> omega)), rfl⟩
          · skip
            refine TL.off rfl rfl ?_
            refine TL.off rfl rfl ?_
            refine TL.off rfl rfl ?_
            refine TL.pickF (.bool false) rfl rfl rfl rfl ?_
            refine TL.asg (.bool false) rfl rfl rfl ?_
            refine TL.done ?_
            refine TQ.then ?_
            refine TC.ret ?_
            refine TQ.blockRet ?_
            refine TQ.thenRet ?_
            refine FQ.ret1 (v := (.bool false)) (Bs := []) [] rfl rfl rfl trivial ?_
            exact ⟨congrArg Value.bool (by first | (simp_all [goesA, aheadA, rightA, unlikeA]; done) | (simp_all [goesA, aheadA, rightA, unlikeA] <;> intros <;> omega)), rfl⟩
        · skip
          refine TL.mv (.bool false) rfl rfl rfl ?_
          refine TL.off rfl rfl ?_
          refine TL.off rfl rfl ?_
          refine TL.off rfl rfl ?_
          refine TL.pickF (.bool false) rfl rfl rfl rfl ?_
          refine TL.mv (.bool false) rfl rfl rfl ?_
          refine TL.off rfl rfl ?_
          refine TL.off rfl rfl ?_
          refine TL.off rfl rfl ?_
          refine TL.pickF (.bool false) rfl rfl rfl rfl ?_
          refine TL.asg (.bool false) rfl rfl rfl ?_
          refine TL.done ?_
          refine TQ.then ?_
          refine TC.ret ?_
          refine TQ.blockRet ?_
          refine TQ.thenRet ?_
          refine FQ.ret1 (v := (.bool false)) (Bs := []) [] rfl rfl rfl trivial ?_
          exact ⟨congrArg Value.bool (by first | (simp_all [goesA, aheadA, rightA, unlikeA]; done) | (simp_all [goesA, aheadA, rightA, unlikeA] <;> intros <;> omega)), rfl⟩
      · skip
        refine TL.asg (.bool false) rfl rfl rfl ?_
        refine TL.done ?_
        refine TQ.then ?_
        refine TC.condF rfl ?_
        refine TC.skip ?_
        refine TQ.inBlock ?_
        refine TQ.then ?_
        refine TC.seq ?_
        refine TC.region ?_
        refine TL.fa 4 rfl fc_f29_2_4 rfl rfl ?_
        refine TL.ld 0 (.int _ _) rfl rfl rfl fc_s3 rfl rfl ?_
        refine TL.fa 5 rfl fc_f29_3_5 rfl rfl ?_
        refine TL.ld 0 (.int _ _) rfl rfl rfl fc_s3 rfl rfl ?_
        refine TL.lss rfl rfl rfl rfl (fun q4 => ?_) (fun q4 => ?_)
        · skip
          refine TL.mv (.bool true) rfl rfl rfl ?_
          refine TL.fa 5 rfl fc_f29_3_5 rfl rfl ?_
          refine TL.ld 0 (.int _ _) rfl rfl rfl fc_s3 rfl rfl ?_
          refine TL.fa 6 rfl fc_f29_4_6 rfl rfl ?_
          refine TL.ld 0 (.int _ _) rfl rfl rfl fc_s3 rfl rfl ?_
          refine TL.leqV rfl rfl rfl rfl ?_
          refine TL.pickT (.bool _) rfl rfl rfl rfl ?_
          refine TL.asg (.bool _) rfl rfl rfl ?_
          refine TL.done ?_
          refine TQ.then ?_
          refine TC.ret ?_
          refine FQ.ret1 (v := (.bool _)) (Bs := []) [] rfl rfl rfl trivial ?_
          exact ⟨congrArg Value.bool (by first | (simp_all [goesA, aheadA, rightA, unlikeA]; done) | (simp_all [goesA, aheadA, rightA, unlikeA] <;> intros <;> omega)), rfl⟩
        · skip
          refine TL.mv (.bool false) rfl rfl rfl ?_
          refine TL.off rfl rfl ?_
          refine TL.off rfl rfl ?_
          refine TL.off rfl rfl ?_
          refine TL.off rfl rfl ?_
          refine TL.off rfl rfl ?_
          refine TL.pickF (.bool false) rfl rfl rfl rfl ?_
          refine TL.asg (.bool false) rfl rfl rfl ?_
          refine TL.done ?_
          refine TQ.then ?_
          refine TC.ret ?_
          refine FQ.ret1 (v := (.bool false)) (Bs := []) [] rfl rfl rfl trivial ?_
          exact ⟨congrArg Value.bool (by first | (simp_all [goesA, aheadA, rightA, unlikeA]; done) | (simp_all [goesA, aheadA, rightA, unlikeA] <;> intros <;> omega)), rfl⟩

theorem unlike_ok {x y : Ans} : FnD Try.prog 17 [.agg #[.int .i64 x.kind, .int .i64 x.u, .int .i64 x.v, .int .i64 x.thread, .int .i64 x.beg, .int .i64 x.point, .int .i64 x.fin, .bool x.yes, .int .i64 x.code], .agg #[.int .i64 y.kind, .int .i64 y.u, .int .i64 y.v, .int .i64 y.thread, .int .i64 y.beg, .int .i64 y.point, .int .i64 y.fin, .bool y.yes, .int .i64 y.code]] [] (.bool (unlikeA x y)) [] := by
  refine Fn.enter (Try.func17) rfl rfl (fun w0 R => ?_)
  refine TC.seq ?_
  refine TC.region ?_
  refine TL.boxA 0 rfl rfl rfl (fun _ => trivial) (fun bk0 => ?_)
  refine TL.boxA 1 rfl rfl rfl (fun _ => trivial) (fun bk1 => ?_)
  refine TL.asg (.bool false) rfl rfl rfl ?_
  refine TL.done ?_
  refine TQ.then ?_
  refine TC.seq ?_
  refine TC.block ?_
  refine TC.seq ?_
  refine TC.region ?_
  refine TL.fa 4 rfl fc_f29_2_4 rfl rfl ?_
  refine TL.ld 0 (.int _ _) rfl rfl rfl fc_s3 rfl rfl ?_
  refine TL.fa 4 rfl fc_f29_2_4 rfl rfl ?_
  refine TL.ld 1 (.int _ _) rfl rfl rfl fc_s3 rfl rfl ?_
  refine TL.eql rfl rfl rfl rfl (fun q1 => ?_) (fun q1 => ?_)
  · skip
    refine TL.asg (.bool true) rfl rfl rfl ?_
    refine TL.done ?_
    refine TQ.then ?_
    refine TC.condT rfl ?_
    refine TC.seq ?_
    refine TC.region ?_
    refine TL.asg (.bool false) rfl rfl rfl ?_
    refine TL.done ?_
    refine TQ.then ?_
    refine TC.ret ?_
    refine TQ.blockRet ?_
    refine TQ.thenRet ?_
    refine FQ.ret1 (v := (.bool false)) (Bs := []) [] rfl rfl rfl trivial ?_
    exact ⟨congrArg Value.bool (by first | (simp_all [goesA, aheadA, rightA, unlikeA]; done) | (simp_all [goesA, aheadA, rightA, unlikeA] <;> intros <;> omega)), rfl⟩
  · skip
    refine TL.asg (.bool false) rfl rfl rfl ?_
    refine TL.done ?_
    refine TQ.then ?_
    refine TC.condF rfl ?_
    refine TC.seq ?_
    refine TC.region ?_
    refine TL.ldA 0 9 [_, _, _, _, _, _, _, _, _] rfl rfl rfl fc_a29_9 rfl rfl ?_
    refine TL.callD [] [] goes_ok ⟨rfl, trivial⟩ trivial fc_c18 rfl rfl rfl rfl rfl trivial ?_
    refine TL.casesP rfl (fun q2 => ?_) (fun q2 => ?_)
    · skip
      refine TL.not true false rfl rfl rfl rfl ?_
      refine TL.mv (.bool false) rfl rfl rfl ?_
      refine TL.off rfl rfl ?_
      refine TL.off rfl rfl ?_
      refine TL.off rfl rfl ?_
      refine TL.pickF (.bool false) rfl rfl rfl rfl ?_
      refine TL.mv (.bool false) rfl rfl rfl ?_
      refine TL.off rfl rfl ?_
      refine TL.off rfl rfl ?_
      refine TL.off rfl rfl ?_
      refine TL.off rfl rfl ?_
      refine TL.off rfl rfl ?_
      refine TL.off rfl rfl ?_
      refine TL.off rfl rfl ?_
      refine TL.off rfl rfl ?_
      refine TL.off rfl rfl ?_
      refine TL.off rfl rfl ?_
      refine TL.off rfl rfl ?_
      refine TL.off rfl rfl ?_
      refine TL.pickF (.bool false) rfl rfl rfl rfl ?_
      refine TL.asg (.bool false) rfl rfl rfl ?_
      refine TL.done ?_
      refine TQ.then ?_
      refine TC.condF rfl ?_
      refine TC.skip ?_
      refine TQ.inBlock ?_
      refine TQ.then ?_
      refine TC.seq ?_
      refine TC.region ?_
      refine TL.fa 3 rfl fc_f29_1_3 rfl rfl ?_
      refine TL.ld 0 (.int _ _) rfl rfl rfl fc_s3 rfl rfl ?_
      refine TL.fa 3 rfl fc_f29_1_3 rfl rfl ?_
      refine TL.ld 1 (.int _ _) rfl rfl rfl fc_s3 rfl rfl ?_
      refine TL.neq rfl rfl rfl rfl (fun q3 => ?_) (fun q3 => ?_)
      · skip
        refine TL.mv (.bool true) rfl rfl rfl ?_
        refine TL.off rfl rfl ?_
        refine TL.off rfl rfl ?_
        refine TL.off rfl rfl ?_
        refine TL.pickT (.bool true) rfl rfl rfl rfl ?_
        refine TL.asg (.bool true) rfl rfl rfl ?_
        refine TL.done ?_
        refine TQ.then ?_
        refine TC.ret ?_
        refine FQ.ret1 (v := (.bool true)) (Bs := []) [] rfl rfl rfl trivial ?_
        exact ⟨congrArg Value.bool (by first | (simp_all [goesA, aheadA, rightA, unlikeA]; done) | (simp_all [goesA, aheadA, rightA, unlikeA] <;> intros <;> omega)), rfl⟩
      · skip
        refine TL.mv (.bool false) rfl rfl rfl ?_
        refine TL.ldA 0 9 [_, _, _, _, _, _, _, _, _] rfl rfl rfl fc_a29_9 rfl rfl ?_
        refine TL.ldA 1 9 [_, _, _, _, _, _, _, _, _] rfl rfl rfl fc_a29_9 rfl rfl ?_
        refine TL.callD [] [] ahead_ok ⟨rfl, rfl, trivial⟩ trivial fc_c10 rfl rfl rfl rfl rfl trivial ?_
        refine TL.pickF (.bool _) rfl rfl rfl rfl ?_
        refine TL.asg (.bool _) rfl rfl rfl ?_
        refine TL.done ?_
        refine TQ.then ?_
        refine TC.ret ?_
        refine FQ.ret1 (v := (.bool _)) (Bs := []) [] rfl rfl rfl trivial ?_
        exact ⟨congrArg Value.bool (by first | (simp_all [goesA, aheadA, rightA, unlikeA]; done) | (simp_all [goesA, aheadA, rightA, unlikeA] <;> intros <;> omega)), rfl⟩
    · skip
      refine TL.not false true rfl rfl rfl rfl ?_
      refine TL.mv (.bool true) rfl rfl rfl ?_
      refine TL.ldA 1 9 [_, _, _, _, _, _, _, _, _] rfl rfl rfl fc_a29_9 rfl rfl ?_
      refine TL.callD [] [] goes_ok ⟨rfl, trivial⟩ trivial fc_c18 rfl rfl rfl rfl rfl trivial ?_
      refine TL.casesP rfl (fun q3 => ?_) (fun q3 => ?_)
      · skip
        refine TL.not true false rfl rfl rfl rfl ?_
        refine TL.pickT (.bool false) rfl rfl rfl rfl ?_
        refine TL.mv (.bool false) rfl rfl rfl ?_
        refine TL.off rfl rfl ?_
        refine TL.off rfl rfl ?_
        refine TL.off rfl rfl ?_
        refine TL.off rfl rfl ?_
        refine TL.off rfl rfl ?_
        refine TL.off rfl rfl ?_
        refine TL.off rfl rfl ?_
        refine TL.off rfl rfl ?_
        refine TL.off rfl rfl ?_
        refine TL.off rfl rfl ?_
        refine TL.off rfl rfl ?_
        refine TL.off rfl rfl ?_
        refine TL.pickF (.bool false) rfl rfl rfl rfl ?_
        refine TL.asg (.bool false) rfl rfl rfl ?_
        refine TL.done ?_
        refine TQ.then ?_
        refine TC.condF rfl ?_
        refine TC.skip ?_
        refine TQ.inBlock ?_
        refine TQ.then ?_
        refine TC.seq ?_
        refine TC.region ?_
        refine TL.fa 3 rfl fc_f29_1_3 rfl rfl ?_
        refine TL.ld 0 (.int _ _) rfl rfl rfl fc_s3 rfl rfl ?_
        refine TL.fa 3 rfl fc_f29_1_3 rfl rfl ?_
        refine TL.ld 1 (.int _ _) rfl rfl rfl fc_s3 rfl rfl ?_
        refine TL.neq rfl rfl rfl rfl (fun q4 => ?_) (fun q4 => ?_)
        · skip
          refine TL.mv (.bool true) rfl rfl rfl ?_
          refine TL.off rfl rfl ?_
          refine TL.off rfl rfl ?_
          refine TL.off rfl rfl ?_
          refine TL.pickT (.bool true) rfl rfl rfl rfl ?_
          refine TL.asg (.bool true) rfl rfl rfl ?_
          refine TL.done ?_
          refine TQ.then ?_
          refine TC.ret ?_
          refine FQ.ret1 (v := (.bool true)) (Bs := []) [] rfl rfl rfl trivial ?_
          exact ⟨congrArg Value.bool (by first | (simp_all [goesA, aheadA, rightA, unlikeA]; done) | (simp_all [goesA, aheadA, rightA, unlikeA] <;> intros <;> omega)), rfl⟩
        · skip
          refine TL.mv (.bool false) rfl rfl rfl ?_
          refine TL.ldA 0 9 [_, _, _, _, _, _, _, _, _] rfl rfl rfl fc_a29_9 rfl rfl ?_
          refine TL.ldA 1 9 [_, _, _, _, _, _, _, _, _] rfl rfl rfl fc_a29_9 rfl rfl ?_
          refine TL.callD [] [] ahead_ok ⟨rfl, rfl, trivial⟩ trivial fc_c10 rfl rfl rfl rfl rfl trivial ?_
          refine TL.pickF (.bool _) rfl rfl rfl rfl ?_
          refine TL.asg (.bool _) rfl rfl rfl ?_
          refine TL.done ?_
          refine TQ.then ?_
          refine TC.ret ?_
          refine FQ.ret1 (v := (.bool _)) (Bs := []) [] rfl rfl rfl trivial ?_
          exact ⟨congrArg Value.bool (by first | (simp_all [goesA, aheadA, rightA, unlikeA]; done) | (simp_all [goesA, aheadA, rightA, unlikeA] <;> intros <;> omega)), rfl⟩
      · skip
        refine TL.not false true rfl rfl rfl rfl ?_
        refine TL.pickT (.bool true) rfl rfl rfl rfl ?_
        refine TL.mv (.bool true) rfl rfl rfl ?_
        refine TL.fa 6 rfl fc_f29_4_6 rfl rfl ?_
        refine TL.ld 0 (.int _ _) rfl rfl rfl fc_s3 rfl rfl ?_
        refine TL.fa 6 rfl fc_f29_4_6 rfl rfl ?_
        refine TL.ld 1 (.int _ _) rfl rfl rfl fc_s3 rfl rfl ?_
        refine TL.eql rfl rfl rfl rfl (fun q4 => ?_) (fun q4 => ?_)
        · skip
          refine TL.mv (.bool true) rfl rfl rfl ?_
          refine TL.off rfl rfl ?_
          refine TL.off rfl rfl ?_
          refine TL.off rfl rfl ?_
          refine TL.off rfl rfl ?_
          refine TL.off rfl rfl ?_
          refine TL.pickT (.bool true) rfl rfl rfl rfl ?_
          refine TL.pickT (.bool true) rfl rfl rfl rfl ?_
          refine TL.asg (.bool true) rfl rfl rfl ?_
          refine TL.done ?_
          refine TQ.then ?_
          refine TC.condT rfl ?_
          refine TC.seq ?_
          refine TC.region ?_
          refine TL.asg (.bool false) rfl rfl rfl ?_
          refine TL.done ?_
          refine TQ.then ?_
          refine TC.ret ?_
          refine TQ.blockRet ?_
          refine TQ.thenRet ?_
          refine FQ.ret1 (v := (.bool false)) (Bs := []) [] rfl rfl rfl trivial ?_
          exact ⟨congrArg Value.bool (by first | (simp_all [goesA, aheadA, rightA, unlikeA]; done) | (simp_all [goesA, aheadA, rightA, unlikeA] <;> intros <;> omega)), rfl⟩
        · skip
          refine TL.mv (.bool false) rfl rfl rfl ?_
          refine TL.fa 5 rfl fc_f29_3_5 rfl rfl ?_
          refine TL.ld 0 (.int _ _) rfl rfl rfl fc_s3 rfl rfl ?_
          refine TL.fa 5 rfl fc_f29_3_5 rfl rfl ?_
          refine TL.ld 1 (.int _ _) rfl rfl rfl fc_s3 rfl rfl ?_
          refine TL.eql rfl rfl rfl rfl (fun q5 => ?_) (fun q5 => ?_)
          · skip
            refine TL.pickF (.bool true) rfl rfl rfl rfl ?_
            refine TL.pickT (.bool true) rfl rfl rfl rfl ?_
            refine TL.asg (.bool true) rfl rfl rfl ?_
            refine TL.done ?_
            refine TQ.then ?_
            refine TC.condT rfl ?_
            refine TC.seq ?_
            refine TC.region ?_
            refine TL.asg (.bool false) rfl rfl rfl ?_
            refine TL.done ?_
            refine TQ.then ?_
            refine TC.ret ?_
            refine TQ.blockRet ?_
            refine TQ.thenRet ?_
            refine FQ.ret1 (v := (.bool false)) (Bs := []) [] rfl rfl rfl trivial ?_
            exact ⟨congrArg Value.bool (by first | (simp_all [goesA, aheadA, rightA, unlikeA]; done) | (simp_all [goesA, aheadA, rightA, unlikeA] <;> intros <;> omega)), rfl⟩
          · skip
            refine TL.pickF (.bool false) rfl rfl rfl rfl ?_
            refine TL.pickT (.bool false) rfl rfl rfl rfl ?_
            refine TL.asg (.bool false) rfl rfl rfl ?_
            refine TL.done ?_
            refine TQ.then ?_
            refine TC.condF rfl ?_
            refine TC.skip ?_
            refine TQ.inBlock ?_
            refine TQ.then ?_
            refine TC.seq ?_
            refine TC.region ?_
            refine TL.fa 3 rfl fc_f29_1_3 rfl rfl ?_
            refine TL.ld 0 (.int _ _) rfl rfl rfl fc_s3 rfl rfl ?_
            refine TL.fa 3 rfl fc_f29_1_3 rfl rfl ?_
            refine TL.ld 1 (.int _ _) rfl rfl rfl fc_s3 rfl rfl ?_
            refine TL.neq rfl rfl rfl rfl (fun q6 => ?_) (fun q6 => ?_)
            · skip
              refine TL.mv (.bool true) rfl rfl rfl ?_
              refine TL.off rfl rfl ?_
              refine TL.off rfl rfl ?_
              refine TL.off rfl rfl ?_
              refine TL.pickT (.bool true) rfl rfl rfl rfl ?_
              refine TL.asg (.bool true) rfl rfl rfl ?_
              refine TL.done ?_
              refine TQ.then ?_
              refine TC.ret ?_
              refine FQ.ret1 (v := (.bool true)) (Bs := []) [] rfl rfl rfl trivial ?_
              exact ⟨congrArg Value.bool (by first | (simp_all [goesA, aheadA, rightA, unlikeA]; done) | (simp_all [goesA, aheadA, rightA, unlikeA] <;> intros <;> omega)), rfl⟩
            · skip
              refine TL.mv (.bool false) rfl rfl rfl ?_
              refine TL.ldA 0 9 [_, _, _, _, _, _, _, _, _] rfl rfl rfl fc_a29_9 rfl rfl ?_
              refine TL.ldA 1 9 [_, _, _, _, _, _, _, _, _] rfl rfl rfl fc_a29_9 rfl rfl ?_
              refine TL.callD [] [] ahead_ok ⟨rfl, rfl, trivial⟩ trivial fc_c10 rfl rfl rfl rfl rfl trivial ?_
              refine TL.pickF (.bool _) rfl rfl rfl rfl ?_
              refine TL.asg (.bool _) rfl rfl rfl ?_
              refine TL.done ?_
              refine TQ.then ?_
              refine TC.ret ?_
              refine FQ.ret1 (v := (.bool _)) (Bs := []) [] rfl rfl rfl trivial ?_
              exact ⟨congrArg Value.bool (by first | (simp_all [goesA, aheadA, rightA, unlikeA]; done) | (simp_all [goesA, aheadA, rightA, unlikeA] <;> intros <;> omega)), rfl⟩

set_option maxHeartbeats 4000000 in
theorem lright_ok {a : Option Addr} {b off n c : Nat} {A : Assn} {f : Nat → Ans} (ha : 0 < n → a = some ⟨b, off, none⟩) (hn : n ≤ 40) (hA : RowOf A encA 9 b off n f) : FnD Try.prog 8 [.slice a n c] [A] (.bool (rightL n f)) [A] := by
  refine Fn.enter (Try.func8) rfl rfl (fun w0 R => ?_)
  refine TC.seq ?_
  refine TC.region ?_
  refine TL.asg (.bool false) rfl rfl rfl ?_
  refine TL.done ?_
  refine TQ.then ?_
  refine TC.seq ?_
  refine TC.seq ?_
  refine TC.region ?_
  refine TL.mv (.slice _ _ _) rfl rfl rfl ?_
  refine TL.lenS rfl fc_l22_29_9 rfl rfl ?_
  refine TL.mv (.int _ _) rfl rfl rfl ?_
  refine TL.done ?_
  refine TQ.then ?_
  refine TC.block ?_
  refine TC.loopK (X := Nat) [0, 7, 8] [0] (fun i => [(9, .int .i64 ((i : Nat) : Int))]) (fun i => []) (fun i => i ≤ n ∧ ∀ j, j < i → oneL (f j) = true ∧ ∀ k, k < n → j ≠ k → twoL (f j) (f k) = true) (fun i => n - i) (0) ⟨Nat.zero_le _, fun j h => absurd h (Nat.not_lt_zero _)⟩ ⟨rfl, trivial⟩ trivial (fun i hI => ?_)
  obtain ⟨hi, hO⟩ := hI
  refine TC.sub (env' := [(9, _), (0, _), (7, _), (8, _)]) (L' := [(0, _)]) ⟨rfl, rfl, rfl, rfl, trivial⟩ ⟨rfl, trivial⟩ ?_
  refine TC.seq ?_
  refine TC.region ?_
  refine TL.lss rfl rfl rfl rfl (fun q1 => ?_) (fun q1 => ?_)
  · skip
    refine TL.done ?_
    refine TQ.then ?_
    refine TC.seq ?_
    refine TC.condT rfl ?_
    refine TC.skip ?_
    refine TQ.then ?_
    refine TC.seq ?_
    refine TC.block ?_
    refine TC.seq ?_
    refine TC.region ?_
    refine TL.mv (.int _ _) rfl rfl rfl ?_
    refine TL.iaO rfl ha rfl fc_l22_29_9 (by omega) rfl rfl ?_
    refine TL.ldRx 0 [_, _, _, _, _, _, _, _, _] rfl rfl hA (by omega) rfl fc_a29_9 rfl rfl ?_
    refine TL.alloc 1 (cs := #[.int .i64 0, .int .i64 0, .int .i64 0, .int .i64 0, .int .i64 0, .int .i64 0, .int .i64 0, .bool false, .int .i64 0]) fc_z29 rfl rfl rfl (fun _ => trivial) (fun bk1 => ?_)
    refine TL.asg (.int _ _) rfl rfl rfl ?_
    refine TL.stW 1 9 [_, _, _, _, _, _, _, _, _] rfl rfl rfl rfl rfl rfl fc_a29_9 rfl rfl trivial ?_
    refine TL.done ?_
    refine TQ.then ?_
    refine TC.join (X := Unit) [0, 3, 4, 7, 8, 9] [0, 1] (fun _u => []) (fun _u => []) (fun _u => oneL (f i) = true) ?_ (fun _u hI => ?_)
    · skip
      refine TC.seq ?_
      refine TC.region ?_
      refine TL.fa 3 rfl fc_f29_1_3 rfl rfl ?_
      refine TL.ld 1 (.int _ _) rfl rfl rfl fc_s3 rfl rfl ?_
      refine TL.lss rfl rfl rfl rfl (fun q2 => ?_) (fun q2 => ?_)
      · skip
        refine TL.mv (.bool true) rfl rfl rfl ?_
        refine TL.off rfl rfl ?_
        refine TL.off rfl rfl ?_
        refine TL.off rfl rfl ?_
        refine TL.pickT (.bool true) rfl rfl rfl rfl ?_
        refine TL.mv (.bool true) rfl rfl rfl ?_
        refine TL.off rfl rfl ?_
        refine TL.off rfl rfl ?_
        refine TL.off rfl rfl ?_
        refine TL.off rfl rfl ?_
        refine TL.off rfl rfl ?_
        refine TL.off rfl rfl ?_
        refine TL.off rfl rfl ?_
        refine TL.off rfl rfl ?_
        refine TL.off rfl rfl ?_
        refine TL.off rfl rfl ?_
        refine TL.off rfl rfl ?_
        refine TL.off rfl rfl ?_
        refine TL.off rfl rfl ?_
        refine TL.off rfl rfl ?_
        refine TL.off rfl rfl ?_
        refine TL.off rfl rfl ?_
        refine TL.off rfl rfl ?_
        refine TL.pickT (.bool true) rfl rfl rfl rfl ?_
        refine TL.mv (.bool true) rfl rfl rfl ?_
        refine TL.off rfl rfl ?_
        refine TL.off rfl rfl ?_
        refine TL.off rfl rfl ?_
        refine TL.off rfl rfl ?_
        refine TL.off rfl rfl ?_
        refine TL.off rfl rfl ?_
        refine TL.off rfl rfl ?_
        refine TL.off rfl rfl ?_
        refine TL.off rfl rfl ?_
        refine TL.off rfl rfl ?_
        refine TL.off rfl rfl ?_
        refine TL.off rfl rfl ?_
        refine TL.off rfl rfl ?_
        refine TL.off rfl rfl ?_
        refine TL.off rfl rfl ?_
        refine TL.off rfl rfl ?_
        refine TL.off rfl rfl ?_
        refine TL.pickT (.bool true) rfl rfl rfl rfl ?_
        refine TL.done ?_
        refine TQ.then ?_
        refine TC.condT rfl ?_
        refine TC.seq ?_
        refine TC.region ?_
        refine TL.asg (.bool false) rfl rfl rfl ?_
        refine TL.done ?_
        refine TQ.then ?_
        refine TC.ret ?_
        refine TQ.thenRet ?_
        refine TQ.blockRet ?_
        refine TQ.thenRet ?_
        refine TQ.thenRet ?_
        refine TQ.blockRet ?_
        refine TQ.thenRet ?_
        refine FQ.ret1 (v := (.bool false)) (Bs := [A]) [0] rfl rfl rfl ⟨rfl, trivial⟩ ?_
        first | exact ⟨congrArg Value.bool (decide_eq_true (fun j hj => hO j (by omega))).symm, rfl⟩ | exact ⟨rightL_F2 (i := i) (k := k) (by omega) (by omega) (by omega) (by clear hO hJ; first | (simp_all [twoL]; done) | (simp_all [twoL] <;> intros <;> omega)), rfl⟩ | exact ⟨rightL_F1 (i := i) (by omega) (by clear hO; first | (simp_all [oneL]; done) | (simp_all [oneL] <;> intros <;> omega)), rfl⟩
      · skip
        refine TL.mv (.bool false) rfl rfl rfl ?_
        refine TL.fa 4 rfl fc_f29_2_4 rfl rfl ?_
        refine TL.ld 1 (.int _ _) rfl rfl rfl fc_s3 rfl rfl ?_
        refine TL.lss rfl rfl rfl rfl (fun q3 => ?_) (fun q3 => ?_)
        · skip
          refine TL.pickF (.bool true) rfl rfl rfl rfl ?_
          refine TL.mv (.bool true) rfl rfl rfl ?_
          refine TL.off rfl rfl ?_
          refine TL.off rfl rfl ?_
          refine TL.off rfl rfl ?_
          refine TL.off rfl rfl ?_
          refine TL.off rfl rfl ?_
          refine TL.off rfl rfl ?_
          refine TL.off rfl rfl ?_
          refine TL.off rfl rfl ?_
          refine TL.off rfl rfl ?_
          refine TL.off rfl rfl ?_
          refine TL.off rfl rfl ?_
          refine TL.off rfl rfl ?_
          refine TL.off rfl rfl ?_
          refine TL.off rfl rfl ?_
          refine TL.off rfl rfl ?_
          refine TL.off rfl rfl ?_
          refine TL.off rfl rfl ?_
          refine TL.pickT (.bool true) rfl rfl rfl rfl ?_
          refine TL.mv (.bool true) rfl rfl rfl ?_
          refine TL.off rfl rfl ?_
          refine TL.off rfl rfl ?_
          refine TL.off rfl rfl ?_
          refine TL.off rfl rfl ?_
          refine TL.off rfl rfl ?_
          refine TL.off rfl rfl ?_
          refine TL.off rfl rfl ?_
          refine TL.off rfl rfl ?_
          refine TL.off rfl rfl ?_
          refine TL.off rfl rfl ?_
          refine TL.off rfl rfl ?_
          refine TL.off rfl rfl ?_
          refine TL.off rfl rfl ?_
          refine TL.off rfl rfl ?_
          refine TL.off rfl rfl ?_
          refine TL.off rfl rfl ?_
          refine TL.off rfl rfl ?_
          refine TL.pickT (.bool true) rfl rfl rfl rfl ?_
          refine TL.done ?_
          refine TQ.then ?_
          refine TC.condT rfl ?_
          refine TC.seq ?_
          refine TC.region ?_
          refine TL.asg (.bool false) rfl rfl rfl ?_
          refine TL.done ?_
          refine TQ.then ?_
          refine TC.ret ?_
          refine TQ.thenRet ?_
          refine TQ.blockRet ?_
          refine TQ.thenRet ?_
          refine TQ.thenRet ?_
          refine TQ.blockRet ?_
          refine TQ.thenRet ?_
          refine FQ.ret1 (v := (.bool false)) (Bs := [A]) [0] rfl rfl rfl ⟨rfl, trivial⟩ ?_
          first | exact ⟨congrArg Value.bool (decide_eq_true (fun j hj => hO j (by omega))).symm, rfl⟩ | exact ⟨rightL_F2 (i := i) (k := k) (by omega) (by omega) (by omega) (by clear hO hJ; first | (simp_all [twoL]; done) | (simp_all [twoL] <;> intros <;> omega)), rfl⟩ | exact ⟨rightL_F1 (i := i) (by omega) (by clear hO; first | (simp_all [oneL]; done) | (simp_all [oneL] <;> intros <;> omega)), rfl⟩
        · skip
          refine TL.pickF (.bool false) rfl rfl rfl rfl ?_
          refine TL.mv (.bool false) rfl rfl rfl ?_
          refine TL.fa 6 rfl fc_f29_4_6 rfl rfl ?_
          refine TL.ld 1 (.int _ _) rfl rfl rfl fc_s3 rfl rfl ?_
          refine TL.eql rfl rfl rfl rfl (fun q4 => ?_) (fun q4 => ?_)
          · skip
            refine TL.mv (.bool true) rfl rfl rfl ?_
            refine TL.fa 5 rfl fc_f29_3_5 rfl rfl ?_
            refine TL.ld 1 (.int _ _) rfl rfl rfl fc_s3 rfl rfl ?_
            refine TL.neq rfl rfl rfl rfl (fun q5 => ?_) (fun q5 => ?_)
            · skip
              refine TL.mv (.bool true) rfl rfl rfl ?_
              refine TL.off rfl rfl ?_
              refine TL.off rfl rfl ?_
              refine TL.pickT (.bool true) rfl rfl rfl rfl ?_
              refine TL.mv (.bool true) rfl rfl rfl ?_
              refine TL.off rfl rfl ?_
              refine TL.off rfl rfl ?_
              refine TL.off rfl rfl ?_
              refine TL.pickT (.bool true) rfl rfl rfl rfl ?_
              refine TL.pickT (.bool true) rfl rfl rfl rfl ?_
              refine TL.pickF (.bool true) rfl rfl rfl rfl ?_
              refine TL.mv (.bool true) rfl rfl rfl ?_
              refine TL.off rfl rfl ?_
              refine TL.off rfl rfl ?_
              refine TL.off rfl rfl ?_
              refine TL.off rfl rfl ?_
              refine TL.off rfl rfl ?_
              refine TL.off rfl rfl ?_
              refine TL.off rfl rfl ?_
              refine TL.off rfl rfl ?_
              refine TL.off rfl rfl ?_
              refine TL.off rfl rfl ?_
              refine TL.off rfl rfl ?_
              refine TL.off rfl rfl ?_
              refine TL.off rfl rfl ?_
              refine TL.off rfl rfl ?_
              refine TL.off rfl rfl ?_
              refine TL.off rfl rfl ?_
              refine TL.off rfl rfl ?_
              refine TL.pickT (.bool true) rfl rfl rfl rfl ?_
              refine TL.done ?_
              refine TQ.then ?_
              refine TC.condT rfl ?_
              refine TC.seq ?_
              refine TC.region ?_
              refine TL.asg (.bool false) rfl rfl rfl ?_
              refine TL.done ?_
              refine TQ.then ?_
              refine TC.ret ?_
              refine TQ.thenRet ?_
              refine TQ.blockRet ?_
              refine TQ.thenRet ?_
              refine TQ.thenRet ?_
              refine TQ.blockRet ?_
              refine TQ.thenRet ?_
              refine FQ.ret1 (v := (.bool false)) (Bs := [A]) [0] rfl rfl rfl ⟨rfl, trivial⟩ ?_
              first | exact ⟨congrArg Value.bool (decide_eq_true (fun j hj => hO j (by omega))).symm, rfl⟩ | exact ⟨rightL_F2 (i := i) (k := k) (by omega) (by omega) (by omega) (by clear hO hJ; first | (simp_all [twoL]; done) | (simp_all [twoL] <;> intros <;> omega)), rfl⟩ | exact ⟨rightL_F1 (i := i) (by omega) (by clear hO; first | (simp_all [oneL]; done) | (simp_all [oneL] <;> intros <;> omega)), rfl⟩
            · skip
              refine TL.mv (.bool false) rfl rfl rfl ?_
              refine TL.fa 7 rfl fc_f29_5_7 rfl rfl ?_
              refine TL.ld 1 (.bool _) rfl rfl rfl fc_s4 rfl rfl ?_
              refine TL.pickF (.bool _) rfl rfl rfl rfl ?_
              refine TL.mv (.bool _) rfl rfl rfl ?_
              refine TL.cases rfl (fun q6 => ?_) (fun q6 => ?_)
              · skip
                refine TL.off rfl rfl ?_
                refine TL.off rfl rfl ?_
                refine TL.off rfl rfl ?_
                refine TL.pickT (.bool true) rfl rfl rfl rfl ?_
                refine TL.pickT (.bool true) rfl rfl rfl rfl ?_
                refine TL.pickF (.bool true) rfl rfl rfl rfl ?_
                refine TL.mv (.bool true) rfl rfl rfl ?_
                refine TL.off rfl rfl ?_
                refine TL.off rfl rfl ?_
                refine TL.off rfl rfl ?_
                refine TL.off rfl rfl ?_
                refine TL.off rfl rfl ?_
                refine TL.off rfl rfl ?_
                refine TL.off rfl rfl ?_
                refine TL.off rfl rfl ?_
                refine TL.off rfl rfl ?_
                refine TL.off rfl rfl ?_
                refine TL.off rfl rfl ?_
                refine TL.off rfl rfl ?_
                refine TL.off rfl rfl ?_
                refine TL.off rfl rfl ?_
                refine TL.off rfl rfl ?_
                refine TL.off rfl rfl ?_
                refine TL.off rfl rfl ?_
                refine TL.pickT (.bool true) rfl rfl rfl rfl ?_
                refine TL.done ?_
                refine TQ.then ?_
                refine TC.condT rfl ?_
                refine TC.seq ?_
                refine TC.region ?_
                refine TL.asg (.bool false) rfl rfl rfl ?_
                refine TL.done ?_
                refine TQ.then ?_
                refine TC.ret ?_
                refine TQ.thenRet ?_
                refine TQ.blockRet ?_
                refine TQ.thenRet ?_
                refine TQ.thenRet ?_
                refine TQ.blockRet ?_
                refine TQ.thenRet ?_
                refine FQ.ret1 (v := (.bool false)) (Bs := [A]) [0] rfl rfl rfl ⟨rfl, trivial⟩ ?_
                first | exact ⟨congrArg Value.bool (decide_eq_true (fun j hj => hO j (by omega))).symm, rfl⟩ | exact ⟨rightL_F2 (i := i) (k := k) (by omega) (by omega) (by omega) (by clear hO hJ; first | (simp_all [twoL]; done) | (simp_all [twoL] <;> intros <;> omega)), rfl⟩ | exact ⟨rightL_F1 (i := i) (by omega) (by clear hO; first | (simp_all [oneL]; done) | (simp_all [oneL] <;> intros <;> omega)), rfl⟩
              · skip
                refine TL.fa 8 rfl fc_f29_6_8 rfl rfl ?_
                refine TL.ld 1 (.int _ _) rfl rfl rfl fc_s27 rfl rfl ?_
                refine TL.neq rfl rfl rfl rfl (fun q7 => ?_) (fun q7 => ?_)
                · skip
                  refine TL.pickF (.bool true) rfl rfl rfl rfl ?_
                  refine TL.pickT (.bool true) rfl rfl rfl rfl ?_
                  refine TL.pickF (.bool true) rfl rfl rfl rfl ?_
                  refine TL.mv (.bool true) rfl rfl rfl ?_
                  refine TL.off rfl rfl ?_
                  refine TL.off rfl rfl ?_
                  refine TL.off rfl rfl ?_
                  refine TL.off rfl rfl ?_
                  refine TL.off rfl rfl ?_
                  refine TL.off rfl rfl ?_
                  refine TL.off rfl rfl ?_
                  refine TL.off rfl rfl ?_
                  refine TL.off rfl rfl ?_
                  refine TL.off rfl rfl ?_
                  refine TL.off rfl rfl ?_
                  refine TL.off rfl rfl ?_
                  refine TL.off rfl rfl ?_
                  refine TL.off rfl rfl ?_
                  refine TL.off rfl rfl ?_
                  refine TL.off rfl rfl ?_
                  refine TL.off rfl rfl ?_
                  refine TL.pickT (.bool true) rfl rfl rfl rfl ?_
                  refine TL.done ?_
                  refine TQ.then ?_
                  refine TC.condT rfl ?_
                  refine TC.seq ?_
                  refine TC.region ?_
                  refine TL.asg (.bool false) rfl rfl rfl ?_
                  refine TL.done ?_
                  refine TQ.then ?_
                  refine TC.ret ?_
                  refine TQ.thenRet ?_
                  refine TQ.blockRet ?_
                  refine TQ.thenRet ?_
                  refine TQ.thenRet ?_
                  refine TQ.blockRet ?_
                  refine TQ.thenRet ?_
                  refine FQ.ret1 (v := (.bool false)) (Bs := [A]) [0] rfl rfl rfl ⟨rfl, trivial⟩ ?_
                  first | exact ⟨congrArg Value.bool (decide_eq_true (fun j hj => hO j (by omega))).symm, rfl⟩ | exact ⟨rightL_F2 (i := i) (k := k) (by omega) (by omega) (by omega) (by clear hO hJ; first | (simp_all [twoL]; done) | (simp_all [twoL] <;> intros <;> omega)), rfl⟩ | exact ⟨rightL_F1 (i := i) (by omega) (by clear hO; first | (simp_all [oneL]; done) | (simp_all [oneL] <;> intros <;> omega)), rfl⟩
                · skip
                  refine TL.pickF (.bool false) rfl rfl rfl rfl ?_
                  refine TL.pickT (.bool false) rfl rfl rfl rfl ?_
                  refine TL.pickF (.bool false) rfl rfl rfl rfl ?_
                  refine TL.mv (.bool false) rfl rfl rfl ?_
                  refine TL.fa 6 rfl fc_f29_4_6 rfl rfl ?_
                  refine TL.ld 1 (.int _ _) rfl rfl rfl fc_s3 rfl rfl ?_
                  refine TL.neq rfl rfl rfl rfl (fun q8 => ?_) (fun q8 => ?_)
                  · skip
                    refine TL.mv (.bool true) rfl rfl rfl ?_
                    refine TL.fa 5 rfl fc_f29_3_5 rfl rfl ?_
                    refine TL.ld 1 (.int _ _) rfl rfl rfl fc_s3 rfl rfl ?_
                    refine TL.fa 4 rfl fc_f29_2_4 rfl rfl ?_
                    refine TL.ld 1 (.int _ _) rfl rfl rfl fc_s3 rfl rfl ?_
                    refine TL.leq rfl rfl rfl rfl (fun q9 => ?_) (fun q9 => ?_)
                    · skip
                      refine TL.mv (.bool true) rfl rfl rfl ?_
                      refine TL.off rfl rfl ?_
                      refine TL.off rfl rfl ?_
                      refine TL.off rfl rfl ?_
                      refine TL.off rfl rfl ?_
                      refine TL.off rfl rfl ?_
                      refine TL.pickT (.bool true) rfl rfl rfl rfl ?_
                      refine TL.pickT (.bool true) rfl rfl rfl rfl ?_
                      refine TL.pickF (.bool true) rfl rfl rfl rfl ?_
                      refine TL.done ?_
                      refine TQ.then ?_
                      refine TC.condT rfl ?_
                      refine TC.seq ?_
                      refine TC.region ?_
                      refine TL.asg (.bool false) rfl rfl rfl ?_
                      refine TL.done ?_
                      refine TQ.then ?_
                      refine TC.ret ?_
                      refine TQ.thenRet ?_
                      refine TQ.blockRet ?_
                      refine TQ.thenRet ?_
                      refine TQ.thenRet ?_
                      refine TQ.blockRet ?_
                      refine TQ.thenRet ?_
                      refine FQ.ret1 (v := (.bool false)) (Bs := [A]) [0] rfl rfl rfl ⟨rfl, trivial⟩ ?_
                      first | exact ⟨congrArg Value.bool (decide_eq_true (fun j hj => hO j (by omega))).symm, rfl⟩ | exact ⟨rightL_F2 (i := i) (k := k) (by omega) (by omega) (by omega) (by clear hO hJ; first | (simp_all [twoL]; done) | (simp_all [twoL] <;> intros <;> omega)), rfl⟩ | exact ⟨rightL_F1 (i := i) (by omega) (by clear hO; first | (simp_all [oneL]; done) | (simp_all [oneL] <;> intros <;> omega)), rfl⟩
                    · skip
                      refine TL.mv (.bool false) rfl rfl rfl ?_
                      refine TL.fa 6 rfl fc_f29_4_6 rfl rfl ?_
                      refine TL.ld 1 (.int _ _) rfl rfl rfl fc_s3 rfl rfl ?_
                      refine TL.fa 5 rfl fc_f29_3_5 rfl rfl ?_
                      refine TL.ld 1 (.int _ _) rfl rfl rfl fc_s3 rfl rfl ?_
                      refine TL.lss rfl rfl rfl rfl (fun q10 => ?_) (fun q10 => ?_)
                      · skip
                        refine TL.pickF (.bool true) rfl rfl rfl rfl ?_
                        refine TL.pickT (.bool true) rfl rfl rfl rfl ?_
                        refine TL.pickF (.bool true) rfl rfl rfl rfl ?_
                        refine TL.done ?_
                        refine TQ.then ?_
                        refine TC.condT rfl ?_
                        refine TC.seq ?_
                        refine TC.region ?_
                        refine TL.asg (.bool false) rfl rfl rfl ?_
                        refine TL.done ?_
                        refine TQ.then ?_
                        refine TC.ret ?_
                        refine TQ.thenRet ?_
                        refine TQ.blockRet ?_
                        refine TQ.thenRet ?_
                        refine TQ.thenRet ?_
                        refine TQ.blockRet ?_
                        refine TQ.thenRet ?_
                        refine FQ.ret1 (v := (.bool false)) (Bs := [A]) [0] rfl rfl rfl ⟨rfl, trivial⟩ ?_
                        first | exact ⟨congrArg Value.bool (decide_eq_true (fun j hj => hO j (by omega))).symm, rfl⟩ | exact ⟨rightL_F2 (i := i) (k := k) (by omega) (by omega) (by omega) (by clear hO hJ; first | (simp_all [twoL]; done) | (simp_all [twoL] <;> intros <;> omega)), rfl⟩ | exact ⟨rightL_F1 (i := i) (by omega) (by clear hO; first | (simp_all [oneL]; done) | (simp_all [oneL] <;> intros <;> omega)), rfl⟩
                      · skip
                        refine TL.pickF (.bool false) rfl rfl rfl rfl ?_
                        refine TL.pickT (.bool false) rfl rfl rfl rfl ?_
                        refine TL.pickF (.bool false) rfl rfl rfl rfl ?_
                        refine TL.done ?_
                        refine TQ.then ?_
                        refine TC.condF rfl ?_
                        refine TC.skip ?_
                        refine TQ.roundK (()) ⟨(by clear hO; first | (simp_all [oneL]; done) | (simp_all [oneL] <;> intros <;> omega)), Nat.zero_lt_one⟩ trivial trivial (.cons rfl rfl (.cons rfl rfl (.cons rfl rfl (.cons rfl rfl (.cons rfl rfl (.cons rfl rfl trivial)))))) (.cons rfl rfl (.cons rfl rfl trivial))
                  · skip
                    refine TL.mv (.bool false) rfl rfl rfl ?_
                    refine TL.off rfl rfl ?_
                    refine TL.off rfl rfl ?_
                    refine TL.off rfl rfl ?_
                    refine TL.off rfl rfl ?_
                    refine TL.off rfl rfl ?_
                    refine TL.off rfl rfl ?_
                    refine TL.off rfl rfl ?_
                    refine TL.off rfl rfl ?_
                    refine TL.off rfl rfl ?_
                    refine TL.off rfl rfl ?_
                    refine TL.off rfl rfl ?_
                    refine TL.off rfl rfl ?_
                    refine TL.pickF (.bool false) rfl rfl rfl rfl ?_
                    refine TL.pickF (.bool false) rfl rfl rfl rfl ?_
                    refine TL.done ?_
                    refine TQ.then ?_
                    refine TC.condF rfl ?_
                    refine TC.skip ?_
                    refine TQ.roundK (()) ⟨(by clear hO; first | (simp_all [oneL]; done) | (simp_all [oneL] <;> intros <;> omega)), Nat.zero_lt_one⟩ trivial trivial (.cons rfl rfl (.cons rfl rfl (.cons rfl rfl (.cons rfl rfl (.cons rfl rfl (.cons rfl rfl trivial)))))) (.cons rfl rfl (.cons rfl rfl trivial))
          · skip
            refine TL.mv (.bool false) rfl rfl rfl ?_
            refine TL.off rfl rfl ?_
            refine TL.off rfl rfl ?_
            refine TL.off rfl rfl ?_
            refine TL.off rfl rfl ?_
            refine TL.off rfl rfl ?_
            refine TL.off rfl rfl ?_
            refine TL.off rfl rfl ?_
            refine TL.off rfl rfl ?_
            refine TL.off rfl rfl ?_
            refine TL.off rfl rfl ?_
            refine TL.off rfl rfl ?_
            refine TL.off rfl rfl ?_
            refine TL.pickF (.bool false) rfl rfl rfl rfl ?_
            refine TL.pickF (.bool false) rfl rfl rfl rfl ?_
            refine TL.mv (.bool false) rfl rfl rfl ?_
            refine TL.fa 6 rfl fc_f29_4_6 rfl rfl ?_
            refine TL.ld 1 (.int _ _) rfl rfl rfl fc_s3 rfl rfl ?_
            refine TL.neq rfl rfl rfl rfl (fun q5 => ?_) (fun q5 => ?_)
            · skip
              refine TL.mv (.bool true) rfl rfl rfl ?_
              refine TL.fa 5 rfl fc_f29_3_5 rfl rfl ?_
              refine TL.ld 1 (.int _ _) rfl rfl rfl fc_s3 rfl rfl ?_
              refine TL.fa 4 rfl fc_f29_2_4 rfl rfl ?_
              refine TL.ld 1 (.int _ _) rfl rfl rfl fc_s3 rfl rfl ?_
              refine TL.leq rfl rfl rfl rfl (fun q6 => ?_) (fun q6 => ?_)
              · skip
                refine TL.mv (.bool true) rfl rfl rfl ?_
                refine TL.off rfl rfl ?_
                refine TL.off rfl rfl ?_
                refine TL.off rfl rfl ?_
                refine TL.off rfl rfl ?_
                refine TL.off rfl rfl ?_
                refine TL.pickT (.bool true) rfl rfl rfl rfl ?_
                refine TL.pickT (.bool true) rfl rfl rfl rfl ?_
                refine TL.pickF (.bool true) rfl rfl rfl rfl ?_
                refine TL.done ?_
                refine TQ.then ?_
                refine TC.condT rfl ?_
                refine TC.seq ?_
                refine TC.region ?_
                refine TL.asg (.bool false) rfl rfl rfl ?_
                refine TL.done ?_
                refine TQ.then ?_
                refine TC.ret ?_
                refine TQ.thenRet ?_
                refine TQ.blockRet ?_
                refine TQ.thenRet ?_
                refine TQ.thenRet ?_
                refine TQ.blockRet ?_
                refine TQ.thenRet ?_
                refine FQ.ret1 (v := (.bool false)) (Bs := [A]) [0] rfl rfl rfl ⟨rfl, trivial⟩ ?_
                first | exact ⟨congrArg Value.bool (decide_eq_true (fun j hj => hO j (by omega))).symm, rfl⟩ | exact ⟨rightL_F2 (i := i) (k := k) (by omega) (by omega) (by omega) (by clear hO hJ; first | (simp_all [twoL]; done) | (simp_all [twoL] <;> intros <;> omega)), rfl⟩ | exact ⟨rightL_F1 (i := i) (by omega) (by clear hO; first | (simp_all [oneL]; done) | (simp_all [oneL] <;> intros <;> omega)), rfl⟩
              · skip
                refine TL.mv (.bool false) rfl rfl rfl ?_
                refine TL.fa 6 rfl fc_f29_4_6 rfl rfl ?_
                refine TL.ld 1 (.int _ _) rfl rfl rfl fc_s3 rfl rfl ?_
                refine TL.fa 5 rfl fc_f29_3_5 rfl rfl ?_
                refine TL.ld 1 (.int _ _) rfl rfl rfl fc_s3 rfl rfl ?_
                refine TL.lss rfl rfl rfl rfl (fun q7 => ?_) (fun q7 => ?_)
                · skip
                  refine TL.pickF (.bool true) rfl rfl rfl rfl ?_
                  refine TL.pickT (.bool true) rfl rfl rfl rfl ?_
                  refine TL.pickF (.bool true) rfl rfl rfl rfl ?_
                  refine TL.done ?_
                  refine TQ.then ?_
                  refine TC.condT rfl ?_
                  refine TC.seq ?_
                  refine TC.region ?_
                  refine TL.asg (.bool false) rfl rfl rfl ?_
                  refine TL.done ?_
                  refine TQ.then ?_
                  refine TC.ret ?_
                  refine TQ.thenRet ?_
                  refine TQ.blockRet ?_
                  refine TQ.thenRet ?_
                  refine TQ.thenRet ?_
                  refine TQ.blockRet ?_
                  refine TQ.thenRet ?_
                  refine FQ.ret1 (v := (.bool false)) (Bs := [A]) [0] rfl rfl rfl ⟨rfl, trivial⟩ ?_
                  first | exact ⟨congrArg Value.bool (decide_eq_true (fun j hj => hO j (by omega))).symm, rfl⟩ | exact ⟨rightL_F2 (i := i) (k := k) (by omega) (by omega) (by omega) (by clear hO hJ; first | (simp_all [twoL]; done) | (simp_all [twoL] <;> intros <;> omega)), rfl⟩ | exact ⟨rightL_F1 (i := i) (by omega) (by clear hO; first | (simp_all [oneL]; done) | (simp_all [oneL] <;> intros <;> omega)), rfl⟩
                · skip
                  refine TL.pickF (.bool false) rfl rfl rfl rfl ?_
                  refine TL.pickT (.bool false) rfl rfl rfl rfl ?_
                  refine TL.pickF (.bool false) rfl rfl rfl rfl ?_
                  refine TL.done ?_
                  refine TQ.then ?_
                  refine TC.condF rfl ?_
                  refine TC.skip ?_
                  refine TQ.roundK (()) ⟨(by clear hO; first | (simp_all [oneL]; done) | (simp_all [oneL] <;> intros <;> omega)), Nat.zero_lt_one⟩ trivial trivial (.cons rfl rfl (.cons rfl rfl (.cons rfl rfl (.cons rfl rfl (.cons rfl rfl (.cons rfl rfl trivial)))))) (.cons rfl rfl (.cons rfl rfl trivial))
            · skip
              refine TL.mv (.bool false) rfl rfl rfl ?_
              refine TL.off rfl rfl ?_
              refine TL.off rfl rfl ?_
              refine TL.off rfl rfl ?_
              refine TL.off rfl rfl ?_
              refine TL.off rfl rfl ?_
              refine TL.off rfl rfl ?_
              refine TL.off rfl rfl ?_
              refine TL.off rfl rfl ?_
              refine TL.off rfl rfl ?_
              refine TL.off rfl rfl ?_
              refine TL.off rfl rfl ?_
              refine TL.off rfl rfl ?_
              refine TL.pickF (.bool false) rfl rfl rfl rfl ?_
              refine TL.pickF (.bool false) rfl rfl rfl rfl ?_
              refine TL.done ?_
              refine TQ.then ?_
              refine TC.condF rfl ?_
              refine TC.skip ?_
              refine TQ.roundK (()) ⟨(by clear hO; first | (simp_all [oneL]; done) | (simp_all [oneL] <;> intros <;> omega)), Nat.zero_lt_one⟩ trivial trivial (.cons rfl rfl (.cons rfl rfl (.cons rfl rfl (.cons rfl rfl (.cons rfl rfl (.cons rfl rfl trivial)))))) (.cons rfl rfl (.cons rfl rfl trivial))
    · skip
      have h1 := hI
      refine TC.sub (env' := [(0, _), (3, _), (4, _), (7, _), (8, _), (9, _)]) (L' := [(0, _), (1, _)]) ⟨rfl, rfl, rfl, rfl, rfl, rfl, trivial⟩ ⟨rfl, rfl, trivial⟩ ?_
      refine TC.seq ?_
      refine TC.region ?_
      refine TL.mv (.slice _ _ _) rfl rfl rfl ?_
      refine TL.lenS rfl fc_l22_29_9 rfl rfl ?_
      refine TL.mv (.int _ _) rfl rfl rfl ?_
      refine TL.done ?_
      refine TQ.then ?_
      refine TC.block ?_
      refine TC.loopK (X := Nat) [0, 3, 4, 7, 8, 9, 60, 61] [0, 1] (fun k => [(62, .int .i64 ((k : Nat) : Int))]) (fun k => []) (fun k => k ≤ n ∧ ∀ j, j < k → i ≠ j → twoL (f i) (f j) = true) (fun k => n - k) (0) ⟨Nat.zero_le _, fun j h => absurd h (Nat.not_lt_zero _)⟩ ⟨rfl, trivial⟩ trivial (fun k hI => ?_)
      obtain ⟨hk, hJ⟩ := hI
      refine TC.sub (env' := [(62, _), (0, _), (3, _), (4, _), (7, _), (8, _), (9, _), (60, _), (61, _)]) (L' := [(0, _), (1, _)]) ⟨rfl, rfl, rfl, rfl, rfl, rfl, rfl, rfl, rfl, trivial⟩ ⟨rfl, rfl, trivial⟩ ?_
      refine TC.seq ?_
      refine TC.region ?_
      refine TL.lss rfl rfl rfl rfl (fun q2 => ?_) (fun q2 => ?_)
      · skip
        refine TL.done ?_
        refine TQ.then ?_
        refine TC.seq ?_
        refine TC.condT rfl ?_
        refine TC.skip ?_
        refine TQ.then ?_
        refine TC.seq ?_
        refine TC.block ?_
        refine TC.seq ?_
        refine TC.region ?_
        refine TL.mv (.int _ _) rfl rfl rfl ?_
        refine TL.iaO rfl ha rfl fc_l22_29_9 (by omega) rfl rfl ?_
        refine TL.ldRx 0 [_, _, _, _, _, _, _, _, _] rfl rfl hA (by omega) rfl fc_a29_9 rfl rfl ?_
        refine TL.alloc 2 (cs := #[.int .i64 0, .int .i64 0, .int .i64 0, .int .i64 0, .int .i64 0, .int .i64 0, .int .i64 0, .bool false, .int .i64 0]) fc_z29 rfl rfl rfl (fun _ => trivial) (fun bk2 => ?_)
        refine TL.asg (.int _ _) rfl rfl rfl ?_
        refine TL.stW 2 9 [_, _, _, _, _, _, _, _, _] rfl rfl rfl rfl rfl rfl fc_a29_9 rfl rfl trivial ?_
        refine TL.done ?_
        refine TQ.then ?_
        refine TC.seq ?_
        refine TC.seq ?_
        refine TC.region ?_
        refine TL.mv (.int _ _) rfl rfl rfl ?_
        refine TL.mv (.int _ _) rfl rfl rfl ?_
        refine TL.eql rfl rfl rfl rfl (fun q3 => ?_) (fun q3 => ?_)
        · skip
          refine TL.done ?_
          refine TQ.then ?_
          refine TC.condT rfl ?_
          refine TC.exit ?_
          refine TQ.thenExit ?_
          refine TQ.blockHere ?_
          refine TQ.then ?_
          refine TC.region ?_
          refine TL.add (((k + 1 : Nat) : Int)) rfl rfl (wrN (by omega)) rfl rfl ?_
          refine TL.mv (.int _ _) rfl rfl rfl ?_
          refine TL.done ?_
          refine TQ.roundK (k + 1) ⟨⟨by omega, fun j hj hne => by rcases Nat.lt_or_ge j k with h | h; exact hJ j h hne; obtain rfl : j = k := (by omega); first | (exfalso; omega) | (clear hO hJ; simp_all [twoL]; done) | (clear hO hJ; simp_all [twoL] <;> intros <;> omega)⟩, by omega⟩ ⟨rfl, trivial⟩ trivial (.cons rfl rfl (.cons rfl rfl (.cons rfl rfl (.cons rfl rfl (.cons rfl rfl (.cons rfl rfl (.cons rfl rfl (.cons rfl rfl trivial)))))))) (.cons rfl rfl (.cons rfl rfl trivial))
        · skip
          refine TL.done ?_
          refine TQ.then ?_
          refine TC.condF rfl ?_
          refine TC.skip ?_
          refine TQ.then ?_
          refine TC.seq ?_
          refine TC.region ?_
          refine TL.fa 4 rfl fc_f29_2_4 rfl rfl ?_
          refine TL.ld 1 (.int _ _) rfl rfl rfl fc_s3 rfl rfl ?_
          refine TL.fa 4 rfl fc_f29_2_4 rfl rfl ?_
          refine TL.ld 2 (.int _ _) rfl rfl rfl fc_s3 rfl rfl ?_
          refine TL.eql rfl rfl rfl rfl (fun q4 => ?_) (fun q4 => ?_)
          · skip
            refine TL.mv (.bool true) rfl rfl rfl ?_
            refine TL.off rfl rfl ?_
            refine TL.off rfl rfl ?_
            refine TL.off rfl rfl ?_
            refine TL.off rfl rfl ?_
            refine TL.off rfl rfl ?_
            refine TL.off rfl rfl ?_
            refine TL.off rfl rfl ?_
            refine TL.off rfl rfl ?_
            refine TL.off rfl rfl ?_
            refine TL.off rfl rfl ?_
            refine TL.off rfl rfl ?_
            refine TL.off rfl rfl ?_
            refine TL.off rfl rfl ?_
            refine TL.off rfl rfl ?_
            refine TL.off rfl rfl ?_
            refine TL.off rfl rfl ?_
            refine TL.off rfl rfl ?_
            refine TL.off rfl rfl ?_
            refine TL.off rfl rfl ?_
            refine TL.off rfl rfl ?_
            refine TL.off rfl rfl ?_
            refine TL.off rfl rfl ?_
            refine TL.pickT (.bool true) rfl rfl rfl rfl ?_
            refine TL.mv (.bool true) rfl rfl rfl ?_
            refine TL.off rfl rfl ?_
            refine TL.off rfl rfl ?_
            refine TL.off rfl rfl ?_
            refine TL.off rfl rfl ?_
            refine TL.off rfl rfl ?_
            refine TL.off rfl rfl ?_
            refine TL.off rfl rfl ?_
            refine TL.off rfl rfl ?_
            refine TL.off rfl rfl ?_
            refine TL.off rfl rfl ?_
            refine TL.off rfl rfl ?_
            refine TL.off rfl rfl ?_
            refine TL.off rfl rfl ?_
            refine TL.off rfl rfl ?_
            refine TL.off rfl rfl ?_
            refine TL.off rfl rfl ?_
            refine TL.off rfl rfl ?_
            refine TL.off rfl rfl ?_
            refine TL.off rfl rfl ?_
            refine TL.off rfl rfl ?_
            refine TL.off rfl rfl ?_
            refine TL.off rfl rfl ?_
            refine TL.off rfl rfl ?_
            refine TL.off rfl rfl ?_
            refine TL.pickT (.bool true) rfl rfl rfl rfl ?_
            refine TL.done ?_
            refine TQ.then ?_
            refine TC.condT rfl ?_
            refine TC.seq ?_
            refine TC.region ?_
            refine TL.asg (.bool false) rfl rfl rfl ?_
            refine TL.done ?_
            refine TQ.then ?_
            refine TC.ret ?_
            refine TQ.blockRet ?_
            refine TQ.thenRet ?_
            refine TQ.thenRet ?_
            refine TQ.blockRet ?_
            refine TQ.blockRet ?_
            refine TQ.thenRet ?_
            refine TQ.thenRet ?_
            refine TQ.blockRet ?_
            refine TQ.thenRet ?_
            refine FQ.ret1 (v := (.bool false)) (Bs := [A]) [0] rfl rfl rfl ⟨rfl, trivial⟩ ?_
            first | exact ⟨congrArg Value.bool (decide_eq_true (fun j hj => hO j (by omega))).symm, rfl⟩ | exact ⟨rightL_F2 (i := i) (k := k) (by omega) (by omega) (by omega) (by clear hO hJ; first | (simp_all [twoL]; done) | (simp_all [twoL] <;> intros <;> omega)), rfl⟩ | exact ⟨rightL_F1 (i := i) (by omega) (by clear hO; first | (simp_all [oneL]; done) | (simp_all [oneL] <;> intros <;> omega)), rfl⟩
          · skip
            refine TL.mv (.bool false) rfl rfl rfl ?_
            refine TL.fa 6 rfl fc_f29_4_6 rfl rfl ?_
            refine TL.ld 1 (.int _ _) rfl rfl rfl fc_s3 rfl rfl ?_
            refine TL.neq rfl rfl rfl rfl (fun q5 => ?_) (fun q5 => ?_)
            · skip
              refine TL.mv (.bool true) rfl rfl rfl ?_
              refine TL.fa 6 rfl fc_f29_4_6 rfl rfl ?_
              refine TL.ld 2 (.int _ _) rfl rfl rfl fc_s3 rfl rfl ?_
              refine TL.neq rfl rfl rfl rfl (fun q6 => ?_) (fun q6 => ?_)
              · skip
                refine TL.pickT (.bool true) rfl rfl rfl rfl ?_
                refine TL.mv (.bool true) rfl rfl rfl ?_
                refine TL.fa 6 rfl fc_f29_4_6 rfl rfl ?_
                refine TL.ld 1 (.int _ _) rfl rfl rfl fc_s3 rfl rfl ?_
                refine TL.fa 6 rfl fc_f29_4_6 rfl rfl ?_
                refine TL.ld 2 (.int _ _) rfl rfl rfl fc_s3 rfl rfl ?_
                refine TL.eql rfl rfl rfl rfl (fun q7 => ?_) (fun q7 => ?_)
                · skip
                  refine TL.mv (.bool true) rfl rfl rfl ?_
                  refine TL.off rfl rfl ?_
                  refine TL.off rfl rfl ?_
                  refine TL.off rfl rfl ?_
                  refine TL.off rfl rfl ?_
                  refine TL.off rfl rfl ?_
                  refine TL.pickT (.bool true) rfl rfl rfl rfl ?_
                  refine TL.pickT (.bool true) rfl rfl rfl rfl ?_
                  refine TL.pickF (.bool true) rfl rfl rfl rfl ?_
                  refine TL.mv (.bool true) rfl rfl rfl ?_
                  refine TL.off rfl rfl ?_
                  refine TL.off rfl rfl ?_
                  refine TL.off rfl rfl ?_
                  refine TL.off rfl rfl ?_
                  refine TL.off rfl rfl ?_
                  refine TL.off rfl rfl ?_
                  refine TL.off rfl rfl ?_
                  refine TL.off rfl rfl ?_
                  refine TL.off rfl rfl ?_
                  refine TL.off rfl rfl ?_
                  refine TL.off rfl rfl ?_
                  refine TL.off rfl rfl ?_
                  refine TL.off rfl rfl ?_
                  refine TL.off rfl rfl ?_
                  refine TL.off rfl rfl ?_
                  refine TL.off rfl rfl ?_
                  refine TL.off rfl rfl ?_
                  refine TL.off rfl rfl ?_
                  refine TL.off rfl rfl ?_
                  refine TL.off rfl rfl ?_
                  refine TL.off rfl rfl ?_
                  refine TL.off rfl rfl ?_
                  refine TL.off rfl rfl ?_
                  refine TL.off rfl rfl ?_
                  refine TL.pickT (.bool true) rfl rfl rfl rfl ?_
                  refine TL.done ?_
                  refine TQ.then ?_
                  refine TC.condT rfl ?_
                  refine TC.seq ?_
                  refine TC.region ?_
                  refine TL.asg (.bool false) rfl rfl rfl ?_
                  refine TL.done ?_
                  refine TQ.then ?_
                  refine TC.ret ?_
                  refine TQ.blockRet ?_
                  refine TQ.thenRet ?_
                  refine TQ.thenRet ?_
                  refine TQ.blockRet ?_
                  refine TQ.blockRet ?_
                  refine TQ.thenRet ?_
                  refine TQ.thenRet ?_
                  refine TQ.blockRet ?_
                  refine TQ.thenRet ?_
                  refine FQ.ret1 (v := (.bool false)) (Bs := [A]) [0] rfl rfl rfl ⟨rfl, trivial⟩ ?_
                  first | exact ⟨congrArg Value.bool (decide_eq_true (fun j hj => hO j (by omega))).symm, rfl⟩ | exact ⟨rightL_F2 (i := i) (k := k) (by omega) (by omega) (by omega) (by clear hO hJ; first | (simp_all [twoL]; done) | (simp_all [twoL] <;> intros <;> omega)), rfl⟩ | exact ⟨rightL_F1 (i := i) (by omega) (by clear hO; first | (simp_all [oneL]; done) | (simp_all [oneL] <;> intros <;> omega)), rfl⟩
                · skip
                  refine TL.mv (.bool false) rfl rfl rfl ?_
                  refine TL.fa 5 rfl fc_f29_3_5 rfl rfl ?_
                  refine TL.ld 1 (.int _ _) rfl rfl rfl fc_s3 rfl rfl ?_
                  refine TL.fa 5 rfl fc_f29_3_5 rfl rfl ?_
                  refine TL.ld 2 (.int _ _) rfl rfl rfl fc_s3 rfl rfl ?_
                  refine TL.eql rfl rfl rfl rfl (fun q8 => ?_) (fun q8 => ?_)
                  · skip
                    refine TL.pickF (.bool true) rfl rfl rfl rfl ?_
                    refine TL.pickT (.bool true) rfl rfl rfl rfl ?_
                    refine TL.pickF (.bool true) rfl rfl rfl rfl ?_
                    refine TL.mv (.bool true) rfl rfl rfl ?_
                    refine TL.off rfl rfl ?_
                    refine TL.off rfl rfl ?_
                    refine TL.off rfl rfl ?_
                    refine TL.off rfl rfl ?_
                    refine TL.off rfl rfl ?_
                    refine TL.off rfl rfl ?_
                    refine TL.off rfl rfl ?_
                    refine TL.off rfl rfl ?_
                    refine TL.off rfl rfl ?_
                    refine TL.off rfl rfl ?_
                    refine TL.off rfl rfl ?_
                    refine TL.off rfl rfl ?_
                    refine TL.off rfl rfl ?_
                    refine TL.off rfl rfl ?_
                    refine TL.off rfl rfl ?_
                    refine TL.off rfl rfl ?_
                    refine TL.off rfl rfl ?_
                    refine TL.off rfl rfl ?_
                    refine TL.off rfl rfl ?_
                    refine TL.off rfl rfl ?_
                    refine TL.off rfl rfl ?_
                    refine TL.off rfl rfl ?_
                    refine TL.off rfl rfl ?_
                    refine TL.off rfl rfl ?_
                    refine TL.pickT (.bool true) rfl rfl rfl rfl ?_
                    refine TL.done ?_
                    refine TQ.then ?_
                    refine TC.condT rfl ?_
                    refine TC.seq ?_
                    refine TC.region ?_
                    refine TL.asg (.bool false) rfl rfl rfl ?_
                    refine TL.done ?_
                    refine TQ.then ?_
                    refine TC.ret ?_
                    refine TQ.blockRet ?_
                    refine TQ.thenRet ?_
                    refine TQ.thenRet ?_
                    refine TQ.blockRet ?_
                    refine TQ.blockRet ?_
                    refine TQ.thenRet ?_
                    refine TQ.thenRet ?_
                    refine TQ.blockRet ?_
                    refine TQ.thenRet ?_
                    refine FQ.ret1 (v := (.bool false)) (Bs := [A]) [0] rfl rfl rfl ⟨rfl, trivial⟩ ?_
                    first | exact ⟨congrArg Value.bool (decide_eq_true (fun j hj => hO j (by omega))).symm, rfl⟩ | exact ⟨rightL_F2 (i := i) (k := k) (by omega) (by omega) (by omega) (by clear hO hJ; first | (simp_all [twoL]; done) | (simp_all [twoL] <;> intros <;> omega)), rfl⟩ | exact ⟨rightL_F1 (i := i) (by omega) (by clear hO; first | (simp_all [oneL]; done) | (simp_all [oneL] <;> intros <;> omega)), rfl⟩
                  · skip
                    refine TL.pickF (.bool false) rfl rfl rfl rfl ?_
                    refine TL.pickT (.bool false) rfl rfl rfl rfl ?_
                    refine TL.pickF (.bool false) rfl rfl rfl rfl ?_
                    refine TL.mv (.bool false) rfl rfl rfl ?_
                    refine TL.fa 3 rfl fc_f29_1_3 rfl rfl ?_
                    refine TL.ld 1 (.int _ _) rfl rfl rfl fc_s3 rfl rfl ?_
                    refine TL.fa 3 rfl fc_f29_1_3 rfl rfl ?_
                    refine TL.ld 2 (.int _ _) rfl rfl rfl fc_s3 rfl rfl ?_
                    refine TL.eql rfl rfl rfl rfl (fun q9 => ?_) (fun q9 => ?_)
                    · skip
                      refine TL.mv (.bool true) rfl rfl rfl ?_
                      refine TL.fa 4 rfl fc_f29_2_4 rfl rfl ?_
                      refine TL.ld 1 (.int _ _) rfl rfl rfl fc_s3 rfl rfl ?_
                      refine TL.fa 4 rfl fc_f29_2_4 rfl rfl ?_
                      refine TL.ld 2 (.int _ _) rfl rfl rfl fc_s3 rfl rfl ?_
                      refine TL.lss rfl rfl rfl rfl (fun q10 => ?_) (fun q10 => ?_)
                      · skip
                        refine TL.pickT (.bool true) rfl rfl rfl rfl ?_
                        refine TL.mv (.bool true) rfl rfl rfl ?_
                        refine TL.fa 6 rfl fc_f29_4_6 rfl rfl ?_
                        refine TL.ld 1 (.int _ _) rfl rfl rfl fc_s3 rfl rfl ?_
                        refine TL.eql rfl rfl rfl rfl (fun q11 => ?_) (fun q11 => ?_)
                        · skip
                          refine TL.mv (.bool true) rfl rfl rfl ?_
                          refine TL.off rfl rfl ?_
                          refine TL.off rfl rfl ?_
                          refine TL.off rfl rfl ?_
                          refine TL.off rfl rfl ?_
                          refine TL.off rfl rfl ?_
                          refine TL.pickT (.bool true) rfl rfl rfl rfl ?_
                          refine TL.pickT (.bool true) rfl rfl rfl rfl ?_
                          refine TL.pickF (.bool true) rfl rfl rfl rfl ?_
                          refine TL.done ?_
                          refine TQ.then ?_
                          refine TC.condT rfl ?_
                          refine TC.seq ?_
                          refine TC.region ?_
                          refine TL.asg (.bool false) rfl rfl rfl ?_
                          refine TL.done ?_
                          refine TQ.then ?_
                          refine TC.ret ?_
                          refine TQ.blockRet ?_
                          refine TQ.thenRet ?_
                          refine TQ.thenRet ?_
                          refine TQ.blockRet ?_
                          refine TQ.blockRet ?_
                          refine TQ.thenRet ?_
                          refine TQ.thenRet ?_
                          refine TQ.blockRet ?_
                          refine TQ.thenRet ?_
                          refine FQ.ret1 (v := (.bool false)) (Bs := [A]) [0] rfl rfl rfl ⟨rfl, trivial⟩ ?_
                          first | exact ⟨congrArg Value.bool (decide_eq_true (fun j hj => hO j (by omega))).symm, rfl⟩ | exact ⟨rightL_F2 (i := i) (k := k) (by omega) (by omega) (by omega) (by clear hO hJ; first | (simp_all [twoL]; done) | (simp_all [twoL] <;> intros <;> omega)), rfl⟩ | exact ⟨rightL_F1 (i := i) (by omega) (by clear hO; first | (simp_all [oneL]; done) | (simp_all [oneL] <;> intros <;> omega)), rfl⟩
                        · skip
                          refine TL.mv (.bool false) rfl rfl rfl ?_
                          refine TL.fa 6 rfl fc_f29_4_6 rfl rfl ?_
                          refine TL.ld 1 (.int _ _) rfl rfl rfl fc_s3 rfl rfl ?_
                          refine TL.fa 4 rfl fc_f29_2_4 rfl rfl ?_
                          refine TL.ld 2 (.int _ _) rfl rfl rfl fc_s3 rfl rfl ?_
                          refine TL.geq rfl rfl rfl rfl (fun q12 => ?_) (fun q12 => ?_)
                          · skip
                            refine TL.pickF (.bool true) rfl rfl rfl rfl ?_
                            refine TL.pickT (.bool true) rfl rfl rfl rfl ?_
                            refine TL.pickF (.bool true) rfl rfl rfl rfl ?_
                            refine TL.done ?_
                            refine TQ.then ?_
                            refine TC.condT rfl ?_
                            refine TC.seq ?_
                            refine TC.region ?_
                            refine TL.asg (.bool false) rfl rfl rfl ?_
                            refine TL.done ?_
                            refine TQ.then ?_
                            refine TC.ret ?_
                            refine TQ.blockRet ?_
                            refine TQ.thenRet ?_
                            refine TQ.thenRet ?_
                            refine TQ.blockRet ?_
                            refine TQ.blockRet ?_
                            refine TQ.thenRet ?_
                            refine TQ.thenRet ?_
                            refine TQ.blockRet ?_
                            refine TQ.thenRet ?_
                            refine FQ.ret1 (v := (.bool false)) (Bs := [A]) [0] rfl rfl rfl ⟨rfl, trivial⟩ ?_
                            first | exact ⟨congrArg Value.bool (decide_eq_true (fun j hj => hO j (by omega))).symm, rfl⟩ | exact ⟨rightL_F2 (i := i) (k := k) (by omega) (by omega) (by omega) (by clear hO hJ; first | (simp_all [twoL]; done) | (simp_all [twoL] <;> intros <;> omega)), rfl⟩ | exact ⟨rightL_F1 (i := i) (by omega) (by clear hO; first | (simp_all [oneL]; done) | (simp_all [oneL] <;> intros <;> omega)), rfl⟩
                          · skip
                            refine TL.pickF (.bool false) rfl rfl rfl rfl ?_
                            refine TL.pickT (.bool false) rfl rfl rfl rfl ?_
                            refine TL.pickF (.bool false) rfl rfl rfl rfl ?_
                            refine TL.done ?_
                            refine TQ.then ?_
                            refine TC.condF rfl ?_
                            refine TC.skip ?_
                            refine TQ.inBlock ?_
                            refine TQ.then ?_
                            refine TC.region ?_
                            refine TL.add (((k + 1 : Nat) : Int)) rfl rfl (wrN (by omega)) rfl rfl ?_
                            refine TL.mv (.int _ _) rfl rfl rfl ?_
                            refine TL.done ?_
                            refine TQ.roundK (k + 1) ⟨⟨by omega, fun j hj hne => by rcases Nat.lt_or_ge j k with h | h; exact hJ j h hne; obtain rfl : j = k := (by omega); first | (exfalso; omega) | (clear hO hJ; simp_all [twoL]; done) | (clear hO hJ; simp_all [twoL] <;> intros <;> omega)⟩, by omega⟩ ⟨rfl, trivial⟩ trivial (.cons rfl rfl (.cons rfl rfl (.cons rfl rfl (.cons rfl rfl (.cons rfl rfl (.cons rfl rfl (.cons rfl rfl (.cons rfl rfl trivial)))))))) (.cons rfl rfl (.cons rfl rfl trivial))
                      · skip
                        refine TL.pickT (.bool false) rfl rfl rfl rfl ?_
                        refine TL.mv (.bool false) rfl rfl rfl ?_
                        refine TL.off rfl rfl ?_
                        refine TL.off rfl rfl ?_
                        refine TL.off rfl rfl ?_
                        refine TL.off rfl rfl ?_
                        refine TL.off rfl rfl ?_
                        refine TL.off rfl rfl ?_
                        refine TL.off rfl rfl ?_
                        refine TL.off rfl rfl ?_
                        refine TL.off rfl rfl ?_
                        refine TL.off rfl rfl ?_
                        refine TL.pickF (.bool false) rfl rfl rfl rfl ?_
                        refine TL.pickF (.bool false) rfl rfl rfl rfl ?_
                        refine TL.done ?_
                        refine TQ.then ?_
                        refine TC.condF rfl ?_
                        refine TC.skip ?_
                        refine TQ.inBlock ?_
                        refine TQ.then ?_
                        refine TC.region ?_
                        refine TL.add (((k + 1 : Nat) : Int)) rfl rfl (wrN (by omega)) rfl rfl ?_
                        refine TL.mv (.int _ _) rfl rfl rfl ?_
                        refine TL.done ?_
                        refine TQ.roundK (k + 1) ⟨⟨by omega, fun j hj hne => by rcases Nat.lt_or_ge j k with h | h; exact hJ j h hne; obtain rfl : j = k := (by omega); first | (exfalso; omega) | (clear hO hJ; simp_all [twoL]; done) | (clear hO hJ; simp_all [twoL] <;> intros <;> omega)⟩, by omega⟩ ⟨rfl, trivial⟩ trivial (.cons rfl rfl (.cons rfl rfl (.cons rfl rfl (.cons rfl rfl (.cons rfl rfl (.cons rfl rfl (.cons rfl rfl (.cons rfl rfl trivial)))))))) (.cons rfl rfl (.cons rfl rfl trivial))
                    · skip
                      refine TL.mv (.bool false) rfl rfl rfl ?_
                      refine TL.off rfl rfl ?_
                      refine TL.off rfl rfl ?_
                      refine TL.off rfl rfl ?_
                      refine TL.off rfl rfl ?_
                      refine TL.off rfl rfl ?_
                      refine TL.pickF (.bool false) rfl rfl rfl rfl ?_
                      refine TL.mv (.bool false) rfl rfl rfl ?_
                      refine TL.off rfl rfl ?_
                      refine TL.off rfl rfl ?_
                      refine TL.off rfl rfl ?_
                      refine TL.off rfl rfl ?_
                      refine TL.off rfl rfl ?_
                      refine TL.off rfl rfl ?_
                      refine TL.off rfl rfl ?_
                      refine TL.off rfl rfl ?_
                      refine TL.off rfl rfl ?_
                      refine TL.off rfl rfl ?_
                      refine TL.pickF (.bool false) rfl rfl rfl rfl ?_
                      refine TL.pickF (.bool false) rfl rfl rfl rfl ?_
                      refine TL.done ?_
                      refine TQ.then ?_
                      refine TC.condF rfl ?_
                      refine TC.skip ?_
                      refine TQ.inBlock ?_
                      refine TQ.then ?_
                      refine TC.region ?_
                      refine TL.add (((k + 1 : Nat) : Int)) rfl rfl (wrN (by omega)) rfl rfl ?_
                      refine TL.mv (.int _ _) rfl rfl rfl ?_
                      refine TL.done ?_
                      refine TQ.roundK (k + 1) ⟨⟨by omega, fun j hj hne => by rcases Nat.lt_or_ge j k with h | h; exact hJ j h hne; obtain rfl : j = k := (by omega); first | (exfalso; omega) | (clear hO hJ; simp_all [twoL]; done) | (clear hO hJ; simp_all [twoL] <;> intros <;> omega)⟩, by omega⟩ ⟨rfl, trivial⟩ trivial (.cons rfl rfl (.cons rfl rfl (.cons rfl rfl (.cons rfl rfl (.cons rfl rfl (.cons rfl rfl (.cons rfl rfl (.cons rfl rfl trivial)))))))) (.cons rfl rfl (.cons rfl rfl trivial))
              · skip
                refine TL.pickT (.bool false) rfl rfl rfl rfl ?_
                refine TL.mv (.bool false) rfl rfl rfl ?_
                refine TL.off rfl rfl ?_
                refine TL.off rfl rfl ?_
                refine TL.off rfl rfl ?_
                refine TL.off rfl rfl ?_
                refine TL.off rfl rfl ?_
                refine TL.off rfl rfl ?_
                refine TL.off rfl rfl ?_
                refine TL.off rfl rfl ?_
                refine TL.off rfl rfl ?_
                refine TL.off rfl rfl ?_
                refine TL.off rfl rfl ?_
                refine TL.off rfl rfl ?_
                refine TL.pickF (.bool false) rfl rfl rfl rfl ?_
                refine TL.pickF (.bool false) rfl rfl rfl rfl ?_
                refine TL.mv (.bool false) rfl rfl rfl ?_
                refine TL.fa 3 rfl fc_f29_1_3 rfl rfl ?_
                refine TL.ld 1 (.int _ _) rfl rfl rfl fc_s3 rfl rfl ?_
                refine TL.fa 3 rfl fc_f29_1_3 rfl rfl ?_
                refine TL.ld 2 (.int _ _) rfl rfl rfl fc_s3 rfl rfl ?_
                refine TL.eql rfl rfl rfl rfl (fun q7 => ?_) (fun q7 => ?_)
                · skip
                  refine TL.mv (.bool true) rfl rfl rfl ?_
                  refine TL.fa 4 rfl fc_f29_2_4 rfl rfl ?_
                  refine TL.ld 1 (.int _ _) rfl rfl rfl fc_s3 rfl rfl ?_
                  refine TL.fa 4 rfl fc_f29_2_4 rfl rfl ?_
                  refine TL.ld 2 (.int _ _) rfl rfl rfl fc_s3 rfl rfl ?_
                  refine TL.lss rfl rfl rfl rfl (fun q8 => ?_) (fun q8 => ?_)
                  · skip
                    refine TL.pickT (.bool true) rfl rfl rfl rfl ?_
                    refine TL.mv (.bool true) rfl rfl rfl ?_
                    refine TL.fa 6 rfl fc_f29_4_6 rfl rfl ?_
                    refine TL.ld 1 (.int _ _) rfl rfl rfl fc_s3 rfl rfl ?_
                    refine TL.eql rfl rfl rfl rfl (fun q9 => ?_) (fun q9 => ?_)
                    · skip
                      refine TL.mv (.bool true) rfl rfl rfl ?_
                      refine TL.off rfl rfl ?_
                      refine TL.off rfl rfl ?_
                      refine TL.off rfl rfl ?_
                      refine TL.off rfl rfl ?_
                      refine TL.off rfl rfl ?_
                      refine TL.pickT (.bool true) rfl rfl rfl rfl ?_
                      refine TL.pickT (.bool true) rfl rfl rfl rfl ?_
                      refine TL.pickF (.bool true) rfl rfl rfl rfl ?_
                      refine TL.done ?_
                      refine TQ.then ?_
                      refine TC.condT rfl ?_
                      refine TC.seq ?_
                      refine TC.region ?_
                      refine TL.asg (.bool false) rfl rfl rfl ?_
                      refine TL.done ?_
                      refine TQ.then ?_
                      refine TC.ret ?_
                      refine TQ.blockRet ?_
                      refine TQ.thenRet ?_
                      refine TQ.thenRet ?_
                      refine TQ.blockRet ?_
                      refine TQ.blockRet ?_
                      refine TQ.thenRet ?_
                      refine TQ.thenRet ?_
                      refine TQ.blockRet ?_
                      refine TQ.thenRet ?_
                      refine FQ.ret1 (v := (.bool false)) (Bs := [A]) [0] rfl rfl rfl ⟨rfl, trivial⟩ ?_
                      first | exact ⟨congrArg Value.bool (decide_eq_true (fun j hj => hO j (by omega))).symm, rfl⟩ | exact ⟨rightL_F2 (i := i) (k := k) (by omega) (by omega) (by omega) (by clear hO hJ; first | (simp_all [twoL]; done) | (simp_all [twoL] <;> intros <;> omega)), rfl⟩ | exact ⟨rightL_F1 (i := i) (by omega) (by clear hO; first | (simp_all [oneL]; done) | (simp_all [oneL] <;> intros <;> omega)), rfl⟩
                    · skip
                      refine TL.mv (.bool false) rfl rfl rfl ?_
                      refine TL.fa 6 rfl fc_f29_4_6 rfl rfl ?_
                      refine TL.ld 1 (.int _ _) rfl rfl rfl fc_s3 rfl rfl ?_
                      refine TL.fa 4 rfl fc_f29_2_4 rfl rfl ?_
                      refine TL.ld 2 (.int _ _) rfl rfl rfl fc_s3 rfl rfl ?_
                      refine TL.geq rfl rfl rfl rfl (fun q10 => ?_) (fun q10 => ?_)
                      · skip
                        refine TL.pickF (.bool true) rfl rfl rfl rfl ?_
                        refine TL.pickT (.bool true) rfl rfl rfl rfl ?_
                        refine TL.pickF (.bool true) rfl rfl rfl rfl ?_
                        refine TL.done ?_
                        refine TQ.then ?_
                        refine TC.condT rfl ?_
                        refine TC.seq ?_
                        refine TC.region ?_
                        refine TL.asg (.bool false) rfl rfl rfl ?_
                        refine TL.done ?_
                        refine TQ.then ?_
                        refine TC.ret ?_
                        refine TQ.blockRet ?_
                        refine TQ.thenRet ?_
                        refine TQ.thenRet ?_
                        refine TQ.blockRet ?_
                        refine TQ.blockRet ?_
                        refine TQ.thenRet ?_
                        refine TQ.thenRet ?_
                        refine TQ.blockRet ?_
                        refine TQ.thenRet ?_
                        refine FQ.ret1 (v := (.bool false)) (Bs := [A]) [0] rfl rfl rfl ⟨rfl, trivial⟩ ?_
                        first | exact ⟨congrArg Value.bool (decide_eq_true (fun j hj => hO j (by omega))).symm, rfl⟩ | exact ⟨rightL_F2 (i := i) (k := k) (by omega) (by omega) (by omega) (by clear hO hJ; first | (simp_all [twoL]; done) | (simp_all [twoL] <;> intros <;> omega)), rfl⟩ | exact ⟨rightL_F1 (i := i) (by omega) (by clear hO; first | (simp_all [oneL]; done) | (simp_all [oneL] <;> intros <;> omega)), rfl⟩
                      · skip
                        refine TL.pickF (.bool false) rfl rfl rfl rfl ?_
                        refine TL.pickT (.bool false) rfl rfl rfl rfl ?_
                        refine TL.pickF (.bool false) rfl rfl rfl rfl ?_
                        refine TL.done ?_
                        refine TQ.then ?_
                        refine TC.condF rfl ?_
                        refine TC.skip ?_
                        refine TQ.inBlock ?_
                        refine TQ.then ?_
                        refine TC.region ?_
                        refine TL.add (((k + 1 : Nat) : Int)) rfl rfl (wrN (by omega)) rfl rfl ?_
                        refine TL.mv (.int _ _) rfl rfl rfl ?_
                        refine TL.done ?_
                        refine TQ.roundK (k + 1) ⟨⟨by omega, fun j hj hne => by rcases Nat.lt_or_ge j k with h | h; exact hJ j h hne; obtain rfl : j = k := (by omega); first | (exfalso; omega) | (clear hO hJ; simp_all [twoL]; done) | (clear hO hJ; simp_all [twoL] <;> intros <;> omega)⟩, by omega⟩ ⟨rfl, trivial⟩ trivial (.cons rfl rfl (.cons rfl rfl (.cons rfl rfl (.cons rfl rfl (.cons rfl rfl (.cons rfl rfl (.cons rfl rfl (.cons rfl rfl trivial)))))))) (.cons rfl rfl (.cons rfl rfl trivial))
                  · skip
                    refine TL.pickT (.bool false) rfl rfl rfl rfl ?_
                    refine TL.mv (.bool false) rfl rfl rfl ?_
                    refine TL.off rfl rfl ?_
                    refine TL.off rfl rfl ?_
                    refine TL.off rfl rfl ?_
                    refine TL.off rfl rfl ?_
                    refine TL.off rfl rfl ?_
                    refine TL.off rfl rfl ?_
                    refine TL.off rfl rfl ?_
                    refine TL.off rfl rfl ?_
                    refine TL.off rfl rfl ?_
                    refine TL.off rfl rfl ?_
                    refine TL.pickF (.bool false) rfl rfl rfl rfl ?_
                    refine TL.pickF (.bool false) rfl rfl rfl rfl ?_
                    refine TL.done ?_
                    refine TQ.then ?_
                    refine TC.condF rfl ?_
                    refine TC.skip ?_
                    refine TQ.inBlock ?_
                    refine TQ.then ?_
                    refine TC.region ?_
                    refine TL.add (((k + 1 : Nat) : Int)) rfl rfl (wrN (by omega)) rfl rfl ?_
                    refine TL.mv (.int _ _) rfl rfl rfl ?_
                    refine TL.done ?_
                    refine TQ.roundK (k + 1) ⟨⟨by omega, fun j hj hne => by rcases Nat.lt_or_ge j k with h | h; exact hJ j h hne; obtain rfl : j = k := (by omega); first | (exfalso; omega) | (clear hO hJ; simp_all [twoL]; done) | (clear hO hJ; simp_all [twoL] <;> intros <;> omega)⟩, by omega⟩ ⟨rfl, trivial⟩ trivial (.cons rfl rfl (.cons rfl rfl (.cons rfl rfl (.cons rfl rfl (.cons rfl rfl (.cons rfl rfl (.cons rfl rfl (.cons rfl rfl trivial)))))))) (.cons rfl rfl (.cons rfl rfl trivial))
                · skip
                  refine TL.mv (.bool false) rfl rfl rfl ?_
                  refine TL.off rfl rfl ?_
                  refine TL.off rfl rfl ?_
                  refine TL.off rfl rfl ?_
                  refine TL.off rfl rfl ?_
                  refine TL.off rfl rfl ?_
                  refine TL.pickF (.bool false) rfl rfl rfl rfl ?_
                  refine TL.mv (.bool false) rfl rfl rfl ?_
                  refine TL.off rfl rfl ?_
                  refine TL.off rfl rfl ?_
                  refine TL.off rfl rfl ?_
                  refine TL.off rfl rfl ?_
                  refine TL.off rfl rfl ?_
                  refine TL.off rfl rfl ?_
                  refine TL.off rfl rfl ?_
                  refine TL.off rfl rfl ?_
                  refine TL.off rfl rfl ?_
                  refine TL.off rfl rfl ?_
                  refine TL.pickF (.bool false) rfl rfl rfl rfl ?_
                  refine TL.pickF (.bool false) rfl rfl rfl rfl ?_
                  refine TL.done ?_
                  refine TQ.then ?_
                  refine TC.condF rfl ?_
                  refine TC.skip ?_
                  refine TQ.inBlock ?_
                  refine TQ.then ?_
                  refine TC.region ?_
                  refine TL.add (((k + 1 : Nat) : Int)) rfl rfl (wrN (by omega)) rfl rfl ?_
                  refine TL.mv (.int _ _) rfl rfl rfl ?_
                  refine TL.done ?_
                  refine TQ.roundK (k + 1) ⟨⟨by omega, fun j hj hne => by rcases Nat.lt_or_ge j k with h | h; exact hJ j h hne; obtain rfl : j = k := (by omega); first | (exfalso; omega) | (clear hO hJ; simp_all [twoL]; done) | (clear hO hJ; simp_all [twoL] <;> intros <;> omega)⟩, by omega⟩ ⟨rfl, trivial⟩ trivial (.cons rfl rfl (.cons rfl rfl (.cons rfl rfl (.cons rfl rfl (.cons rfl rfl (.cons rfl rfl (.cons rfl rfl (.cons rfl rfl trivial)))))))) (.cons rfl rfl (.cons rfl rfl trivial))
            · skip
              refine TL.mv (.bool false) rfl rfl rfl ?_
              refine TL.off rfl rfl ?_
              refine TL.off rfl rfl ?_
              refine TL.off rfl rfl ?_
              refine TL.pickF (.bool false) rfl rfl rfl rfl ?_
              refine TL.mv (.bool false) rfl rfl rfl ?_
              refine TL.off rfl rfl ?_
              refine TL.off rfl rfl ?_
              refine TL.off rfl rfl ?_
              refine TL.off rfl rfl ?_
              refine TL.off rfl rfl ?_
              refine TL.off rfl rfl ?_
              refine TL.off rfl rfl ?_
              refine TL.off rfl rfl ?_
              refine TL.off rfl rfl ?_
              refine TL.off rfl rfl ?_
              refine TL.off rfl rfl ?_
              refine TL.off rfl rfl ?_
              refine TL.pickF (.bool false) rfl rfl rfl rfl ?_
              refine TL.pickF (.bool false) rfl rfl rfl rfl ?_
              refine TL.mv (.bool false) rfl rfl rfl ?_
              refine TL.fa 3 rfl fc_f29_1_3 rfl rfl ?_
              refine TL.ld 1 (.int _ _) rfl rfl rfl fc_s3 rfl rfl ?_
              refine TL.fa 3 rfl fc_f29_1_3 rfl rfl ?_
              refine TL.ld 2 (.int _ _) rfl rfl rfl fc_s3 rfl rfl ?_
              refine TL.eql rfl rfl rfl rfl (fun q6 => ?_) (fun q6 => ?_)
              · skip
                refine TL.mv (.bool true) rfl rfl rfl ?_
                refine TL.fa 4 rfl fc_f29_2_4 rfl rfl ?_
                refine TL.ld 1 (.int _ _) rfl rfl rfl fc_s3 rfl rfl ?_
                refine TL.fa 4 rfl fc_f29_2_4 rfl rfl ?_
                refine TL.ld 2 (.int _ _) rfl rfl rfl fc_s3 rfl rfl ?_
                refine TL.lss rfl rfl rfl rfl (fun q7 => ?_) (fun q7 => ?_)
                · skip
                  refine TL.pickT (.bool true) rfl rfl rfl rfl ?_
                  refine TL.mv (.bool true) rfl rfl rfl ?_
                  refine TL.fa 6 rfl fc_f29_4_6 rfl rfl ?_
                  refine TL.ld 1 (.int _ _) rfl rfl rfl fc_s3 rfl rfl ?_
                  refine TL.eql rfl rfl rfl rfl (fun q8 => ?_) (fun q8 => ?_)
                  · skip
                    refine TL.mv (.bool true) rfl rfl rfl ?_
                    refine TL.off rfl rfl ?_
                    refine TL.off rfl rfl ?_
                    refine TL.off rfl rfl ?_
                    refine TL.off rfl rfl ?_
                    refine TL.off rfl rfl ?_
                    refine TL.pickT (.bool true) rfl rfl rfl rfl ?_
                    refine TL.pickT (.bool true) rfl rfl rfl rfl ?_
                    refine TL.pickF (.bool true) rfl rfl rfl rfl ?_
                    refine TL.done ?_
                    refine TQ.then ?_
                    refine TC.condT rfl ?_
                    refine TC.seq ?_
                    refine TC.region ?_
                    refine TL.asg (.bool false) rfl rfl rfl ?_
                    refine TL.done ?_
                    refine TQ.then ?_
                    refine TC.ret ?_
                    refine TQ.blockRet ?_
                    refine TQ.thenRet ?_
                    refine TQ.thenRet ?_
                    refine TQ.blockRet ?_
                    refine TQ.blockRet ?_
                    refine TQ.thenRet ?_
                    refine TQ.thenRet ?_
                    refine TQ.blockRet ?_
                    refine TQ.thenRet ?_
                    refine FQ.ret1 (v := (.bool false)) (Bs := [A]) [0] rfl rfl rfl ⟨rfl, trivial⟩ ?_
                    first | exact ⟨congrArg Value.bool (decide_eq_true (fun j hj => hO j (by omega))).symm, rfl⟩ | exact ⟨rightL_F2 (i := i) (k := k) (by omega) (by omega) (by omega) (by clear hO hJ; first | (simp_all [twoL]; done) | (simp_all [twoL] <;> intros <;> omega)), rfl⟩ | exact ⟨rightL_F1 (i := i) (by omega) (by clear hO; first | (simp_all [oneL]; done) | (simp_all [oneL] <;> intros <;> omega)), rfl⟩
                  · skip
                    refine TL.mv (.bool false) rfl rfl rfl ?_
                    refine TL.fa 6 rfl fc_f29_4_6 rfl rfl ?_
                    refine TL.ld 1 (.int _ _) rfl rfl rfl fc_s3 rfl rfl ?_
                    refine TL.fa 4 rfl fc_f29_2_4 rfl rfl ?_
                    refine TL.ld 2 (.int _ _) rfl rfl rfl fc_s3 rfl rfl ?_
                    refine TL.geq rfl rfl rfl rfl (fun q9 => ?_) (fun q9 => ?_)
                    · skip
                      refine TL.pickF (.bool true) rfl rfl rfl rfl ?_
                      refine TL.pickT (.bool true) rfl rfl rfl rfl ?_
                      refine TL.pickF (.bool true) rfl rfl rfl rfl ?_
                      refine TL.done ?_
                      refine TQ.then ?_
                      refine TC.condT rfl ?_
                      refine TC.seq ?_
                      refine TC.region ?_
                      refine TL.asg (.bool false) rfl rfl rfl ?_
                      refine TL.done ?_
                      refine TQ.then ?_
                      refine TC.ret ?_
                      refine TQ.blockRet ?_
                      refine TQ.thenRet ?_
                      refine TQ.thenRet ?_
                      refine TQ.blockRet ?_
                      refine TQ.blockRet ?_
                      refine TQ.thenRet ?_
                      refine TQ.thenRet ?_
                      refine TQ.blockRet ?_
                      refine TQ.thenRet ?_
                      refine FQ.ret1 (v := (.bool false)) (Bs := [A]) [0] rfl rfl rfl ⟨rfl, trivial⟩ ?_
                      first | exact ⟨congrArg Value.bool (decide_eq_true (fun j hj => hO j (by omega))).symm, rfl⟩ | exact ⟨rightL_F2 (i := i) (k := k) (by omega) (by omega) (by omega) (by clear hO hJ; first | (simp_all [twoL]; done) | (simp_all [twoL] <;> intros <;> omega)), rfl⟩ | exact ⟨rightL_F1 (i := i) (by omega) (by clear hO; first | (simp_all [oneL]; done) | (simp_all [oneL] <;> intros <;> omega)), rfl⟩
                    · skip
                      refine TL.pickF (.bool false) rfl rfl rfl rfl ?_
                      refine TL.pickT (.bool false) rfl rfl rfl rfl ?_
                      refine TL.pickF (.bool false) rfl rfl rfl rfl ?_
                      refine TL.done ?_
                      refine TQ.then ?_
                      refine TC.condF rfl ?_
                      refine TC.skip ?_
                      refine TQ.inBlock ?_
                      refine TQ.then ?_
                      refine TC.region ?_
                      refine TL.add (((k + 1 : Nat) : Int)) rfl rfl (wrN (by omega)) rfl rfl ?_
                      refine TL.mv (.int _ _) rfl rfl rfl ?_
                      refine TL.done ?_
                      refine TQ.roundK (k + 1) ⟨⟨by omega, fun j hj hne => by rcases Nat.lt_or_ge j k with h | h; exact hJ j h hne; obtain rfl : j = k := (by omega); first | (exfalso; omega) | (clear hO hJ; simp_all [twoL]; done) | (clear hO hJ; simp_all [twoL] <;> intros <;> omega)⟩, by omega⟩ ⟨rfl, trivial⟩ trivial (.cons rfl rfl (.cons rfl rfl (.cons rfl rfl (.cons rfl rfl (.cons rfl rfl (.cons rfl rfl (.cons rfl rfl (.cons rfl rfl trivial)))))))) (.cons rfl rfl (.cons rfl rfl trivial))
                · skip
                  refine TL.pickT (.bool false) rfl rfl rfl rfl ?_
                  refine TL.mv (.bool false) rfl rfl rfl ?_
                  refine TL.off rfl rfl ?_
                  refine TL.off rfl rfl ?_
                  refine TL.off rfl rfl ?_
                  refine TL.off rfl rfl ?_
                  refine TL.off rfl rfl ?_
                  refine TL.off rfl rfl ?_
                  refine TL.off rfl rfl ?_
                  refine TL.off rfl rfl ?_
                  refine TL.off rfl rfl ?_
                  refine TL.off rfl rfl ?_
                  refine TL.pickF (.bool false) rfl rfl rfl rfl ?_
                  refine TL.pickF (.bool false) rfl rfl rfl rfl ?_
                  refine TL.done ?_
                  refine TQ.then ?_
                  refine TC.condF rfl ?_
                  refine TC.skip ?_
                  refine TQ.inBlock ?_
                  refine TQ.then ?_
                  refine TC.region ?_
                  refine TL.add (((k + 1 : Nat) : Int)) rfl rfl (wrN (by omega)) rfl rfl ?_
                  refine TL.mv (.int _ _) rfl rfl rfl ?_
                  refine TL.done ?_
                  refine TQ.roundK (k + 1) ⟨⟨by omega, fun j hj hne => by rcases Nat.lt_or_ge j k with h | h; exact hJ j h hne; obtain rfl : j = k := (by omega); first | (exfalso; omega) | (clear hO hJ; simp_all [twoL]; done) | (clear hO hJ; simp_all [twoL] <;> intros <;> omega)⟩, by omega⟩ ⟨rfl, trivial⟩ trivial (.cons rfl rfl (.cons rfl rfl (.cons rfl rfl (.cons rfl rfl (.cons rfl rfl (.cons rfl rfl (.cons rfl rfl (.cons rfl rfl trivial)))))))) (.cons rfl rfl (.cons rfl rfl trivial))
              · skip
                refine TL.mv (.bool false) rfl rfl rfl ?_
                refine TL.off rfl rfl ?_
                refine TL.off rfl rfl ?_
                refine TL.off rfl rfl ?_
                refine TL.off rfl rfl ?_
                refine TL.off rfl rfl ?_
                refine TL.pickF (.bool false) rfl rfl rfl rfl ?_
                refine TL.mv (.bool false) rfl rfl rfl ?_
                refine TL.off rfl rfl ?_
                refine TL.off rfl rfl ?_
                refine TL.off rfl rfl ?_
                refine TL.off rfl rfl ?_
                refine TL.off rfl rfl ?_
                refine TL.off rfl rfl ?_
                refine TL.off rfl rfl ?_
                refine TL.off rfl rfl ?_
                refine TL.off rfl rfl ?_
                refine TL.off rfl rfl ?_
                refine TL.pickF (.bool false) rfl rfl rfl rfl ?_
                refine TL.pickF (.bool false) rfl rfl rfl rfl ?_
                refine TL.done ?_
                refine TQ.then ?_
                refine TC.condF rfl ?_
                refine TC.skip ?_
                refine TQ.inBlock ?_
                refine TQ.then ?_
                refine TC.region ?_
                refine TL.add (((k + 1 : Nat) : Int)) rfl rfl (wrN (by omega)) rfl rfl ?_
                refine TL.mv (.int _ _) rfl rfl rfl ?_
                refine TL.done ?_
                refine TQ.roundK (k + 1) ⟨⟨by omega, fun j hj hne => by rcases Nat.lt_or_ge j k with h | h; exact hJ j h hne; obtain rfl : j = k := (by omega); first | (exfalso; omega) | (clear hO hJ; simp_all [twoL]; done) | (clear hO hJ; simp_all [twoL] <;> intros <;> omega)⟩, by omega⟩ ⟨rfl, trivial⟩ trivial (.cons rfl rfl (.cons rfl rfl (.cons rfl rfl (.cons rfl rfl (.cons rfl rfl (.cons rfl rfl (.cons rfl rfl (.cons rfl rfl trivial)))))))) (.cons rfl rfl (.cons rfl rfl trivial))
      · skip
        refine TL.done ?_
        refine TQ.then ?_
        refine TC.seq ?_
        refine TC.condF rfl ?_
        refine TC.exit ?_
        refine TQ.thenExit ?_
        refine TQ.thenExit ?_
        refine TQ.blockHere ?_
        refine TQ.inBlock ?_
        refine TQ.then ?_
        refine TC.region ?_
        refine TL.add (((i + 1 : Nat) : Int)) rfl rfl (wrN (by omega)) rfl rfl ?_
        refine TL.mv (.int _ _) rfl rfl rfl ?_
        refine TL.done ?_
        refine TQ.roundK (i + 1) ⟨⟨by omega, fun j hj => by rcases Nat.lt_or_ge j i with h | h; exact hO j h; obtain rfl : j = i := (by omega); exact ⟨h1, fun k hk hne => hJ k (by omega) hne⟩⟩, by omega⟩ ⟨rfl, trivial⟩ trivial (.cons rfl rfl (.cons rfl rfl (.cons rfl rfl trivial))) (.cons rfl rfl trivial)
  · skip
    refine TL.done ?_
    refine TQ.then ?_
    refine TC.seq ?_
    refine TC.condF rfl ?_
    refine TC.exit ?_
    refine TQ.thenExit ?_
    refine TQ.thenExit ?_
    refine TQ.blockHere ?_
    refine TQ.then ?_
    refine TC.seq ?_
    refine TC.region ?_
    refine TL.asg (.bool true) rfl rfl rfl ?_
    refine TL.done ?_
    refine TQ.then ?_
    refine TC.ret ?_
    refine FQ.ret1 (v := (.bool true)) (Bs := [A]) [0] rfl rfl rfl ⟨rfl, trivial⟩ ?_
    first | exact ⟨congrArg Value.bool (decide_eq_true (fun j hj => hO j (by omega))).symm, rfl⟩ | exact ⟨rightL_F2 (i := i) (k := k) (by omega) (by omega) (by omega) (by clear hO hJ; first | (simp_all [twoL]; done) | (simp_all [twoL] <;> intros <;> omega)), rfl⟩ | exact ⟨rightL_F1 (i := i) (by omega) (by clear hO; first | (simp_all [oneL]; done) | (simp_all [oneL] <;> intros <;> omega)), rfl⟩

set_option maxHeartbeats 4000000 in
theorem width_ok {a : Option Addr} {b off n c : Nat} {A : Assn} {f : Nat → Ans} (ha : 0 < n → a = some ⟨b, off, none⟩) (hn : n ≤ 40) (hA : RowOf A encA 9 b off n f) : FnD Try.prog 14 [.slice a n c] [A] (.int .i64 (widthL n f n)) [A] := by
  have hcb := fun x k => cntB_bd f x k
  refine Fn.enter (Try.func14) rfl rfl (fun w0 R => ?_)
  refine TC.seq ?_
  refine TC.region ?_
  refine TL.asg (.int _ _) rfl rfl rfl ?_
  refine TL.done ?_
  refine TQ.then ?_
  refine TC.seq ?_
  refine TC.region ?_
  refine TL.asg (.int _ _) rfl rfl rfl ?_
  refine TL.done ?_
  refine TQ.then ?_
  refine TC.seq ?_
  refine TC.seq ?_
  refine TC.region ?_
  refine TL.mv (.slice _ _ _) rfl rfl rfl ?_
  refine TL.lenS rfl fc_l22_29_9 rfl rfl ?_
  refine TL.mv (.int _ _) rfl rfl rfl ?_
  refine TL.done ?_
  refine TQ.then ?_
  refine TC.block ?_
  refine TC.loopK (X := Nat) [0, 2, 9, 10] [0] (fun i => [(3, .int .i64 (widthL n f i)), (11, .int .i64 ((i : Nat) : Int))]) (fun i => []) (fun i => i ≤ n) (fun i => n - i) (0) (Nat.zero_le _) ⟨rfl, rfl, trivial⟩ trivial (fun i hI => ?_)
  have hi := hI
  refine TC.sub (env' := [(3, _), (11, _), (0, _), (2, _), (9, _), (10, _)]) (L' := [(0, _)]) ⟨rfl, rfl, rfl, rfl, rfl, rfl, trivial⟩ ⟨rfl, trivial⟩ ?_
  refine TC.seq ?_
  refine TC.region ?_
  refine TL.lss rfl rfl rfl rfl (fun q1 => ?_) (fun q1 => ?_)
  · skip
    refine TL.done ?_
    refine TQ.then ?_
    refine TC.seq ?_
    refine TC.condT rfl ?_
    refine TC.skip ?_
    refine TQ.then ?_
    refine TC.seq ?_
    refine TC.block ?_
    refine TC.seq ?_
    refine TC.region ?_
    refine TL.iaO rfl ha rfl fc_l22_29_9 (by omega) rfl rfl ?_
    refine TL.ldRx 0 [_, _, _, _, _, _, _, _, _] rfl rfl hA (by omega) rfl fc_a29_9 rfl rfl ?_
    refine TL.alloc 1 (cs := #[.int .i64 0, .int .i64 0, .int .i64 0, .int .i64 0, .int .i64 0, .int .i64 0, .int .i64 0, .bool false, .int .i64 0]) fc_z29 rfl rfl rfl (fun _ => trivial) (fun bk1 => ?_)
    refine TL.stW 1 9 [_, _, _, _, _, _, _, _, _] rfl rfl rfl rfl rfl rfl fc_a29_9 rfl rfl trivial ?_
    refine TL.done ?_
    refine TQ.then ?_
    refine TC.seq ?_
    refine TC.region ?_
    refine TL.asg (.int _ _) rfl rfl rfl ?_
    refine TL.done ?_
    refine TQ.then ?_
    refine TC.seq ?_
    refine TC.seq ?_
    refine TC.region ?_
    refine TL.mv (.slice _ _ _) rfl rfl rfl ?_
    refine TL.lenS rfl fc_l22_29_9 rfl rfl ?_
    refine TL.mv (.int _ _) rfl rfl rfl ?_
    refine TL.done ?_
    refine TQ.then ?_
    refine TC.block ?_
    refine TC.loopK (X := Nat) [0, 2, 3, 5, 9, 10, 11, 15, 16] [0, 1] (fun k => [(6, .int .i64 (cntB f (f i) k)), (17, .int .i64 ((k : Nat) : Int))]) (fun k => []) (fun k => k ≤ n) (fun k => n - k) (0) (Nat.zero_le _) ⟨rfl, rfl, trivial⟩ trivial (fun k hI => ?_)
    have hk := hI
    refine TC.sub (env' := [(6, _), (17, _), (0, _), (2, _), (3, _), (5, _), (9, _), (10, _), (11, _), (15, _), (16, _)]) (L' := [(0, _), (1, _)]) ⟨rfl, rfl, rfl, rfl, rfl, rfl, rfl, rfl, rfl, rfl, rfl, trivial⟩ ⟨rfl, rfl, trivial⟩ ?_
    refine TC.seq ?_
    refine TC.region ?_
    refine TL.lss rfl rfl rfl rfl (fun q2 => ?_) (fun q2 => ?_)
    · skip
      refine TL.done ?_
      refine TQ.then ?_
      refine TC.seq ?_
      refine TC.condT rfl ?_
      refine TC.skip ?_
      refine TQ.then ?_
      refine TC.seq ?_
      refine TC.block ?_
      refine TC.seq ?_
      refine TC.region ?_
      refine TL.iaO rfl ha rfl fc_l22_29_9 (by omega) rfl rfl ?_
      refine TL.ldRx 0 [_, _, _, _, _, _, _, _, _] rfl rfl hA (by omega) rfl fc_a29_9 rfl rfl ?_
      refine TL.alloc 2 (cs := #[.int .i64 0, .int .i64 0, .int .i64 0, .int .i64 0, .int .i64 0, .int .i64 0, .int .i64 0, .bool false, .int .i64 0]) fc_z29 rfl rfl rfl (fun _ => trivial) (fun bk2 => ?_)
      refine TL.stW 2 9 [_, _, _, _, _, _, _, _, _] rfl rfl rfl rfl rfl rfl fc_a29_9 rfl rfl trivial ?_
      refine TL.done ?_
      refine TQ.then ?_
      refine TC.seq ?_
      refine TC.region ?_
      refine TL.fa 4 rfl fc_f29_2_4 rfl rfl ?_
      refine TL.ld 2 (.int _ _) rfl rfl rfl fc_s3 rfl rfl ?_
      refine TL.fa 4 rfl fc_f29_2_4 rfl rfl ?_
      refine TL.ld 1 (.int _ _) rfl rfl rfl fc_s3 rfl rfl ?_
      refine TL.leq rfl rfl rfl rfl (fun q3 => ?_) (fun q3 => ?_)
      · skip
        refine TL.mv (.bool true) rfl rfl rfl ?_
        refine TL.ldA 2 9 [_, _, _, _, _, _, _, _, _] rfl rfl rfl fc_a29_9 rfl rfl ?_
        refine TL.callD [] [] goes_ok ⟨rfl, trivial⟩ trivial fc_c18 rfl rfl rfl rfl rfl trivial ?_
        refine TL.casesP rfl (fun q4 => ?_) (fun q4 => ?_)
        · skip
          refine TL.mv (.bool true) rfl rfl rfl ?_
          refine TL.off rfl rfl ?_
          refine TL.off rfl rfl ?_
          refine TL.off rfl rfl ?_
          refine TL.off rfl rfl ?_
          refine TL.off rfl rfl ?_
          refine TL.pickT (.bool true) rfl rfl rfl rfl ?_
          refine TL.pickT (.bool true) rfl rfl rfl rfl ?_
          refine TL.done ?_
          refine TQ.then ?_
          refine TC.condT rfl ?_
          refine TC.region ?_
          refine TL.mv (.int _ _) rfl rfl rfl ?_
          have := hcb (f i) k
          refine TL.add _ rfl rfl (wr64 (by omega)) rfl rfl ?_
          refine TL.asg (.int _ _) rfl rfl rfl ?_
          refine TL.done ?_
          refine TQ.inBlock ?_
          refine TQ.then ?_
          refine TC.region ?_
          refine TL.add (((k + 1 : Nat) : Int)) rfl rfl (wrN (by omega)) rfl rfl ?_
          refine TL.mv (.int _ _) rfl rfl rfl ?_
          refine TL.done ?_
          refine TQ.roundK (k + 1) ⟨by omega, by omega⟩ ⟨(by first | exact congrArg (fun z => some (Value.int IntKind.i64 z)) (cntB_T (by clear hI hk; first | (simp_all [atB]; done) | (simp_all [atB] <;> intros <;> omega))) | exact congrArg (fun z => some (Value.int IntKind.i64 z)) (cntB_F (by clear hI hk; first | (simp_all [atB]; done) | (simp_all [atB] <;> intros <;> omega)))), rfl, trivial⟩ trivial (.cons rfl rfl (.cons rfl rfl (.cons rfl rfl (.cons rfl rfl (.cons rfl rfl (.cons rfl rfl (.cons rfl rfl (.cons rfl rfl (.cons rfl rfl trivial))))))))) (.cons rfl rfl (.cons rfl rfl trivial))
        · skip
          refine TL.mv (.bool false) rfl rfl rfl ?_
          refine TL.fa 6 rfl fc_f29_4_6 rfl rfl ?_
          refine TL.ld 2 (.int _ _) rfl rfl rfl fc_s3 rfl rfl ?_
          refine TL.fa 4 rfl fc_f29_2_4 rfl rfl ?_
          refine TL.ld 1 (.int _ _) rfl rfl rfl fc_s3 rfl rfl ?_
          refine TL.geq rfl rfl rfl rfl (fun q5 => ?_) (fun q5 => ?_)
          · skip
            refine TL.pickF (.bool true) rfl rfl rfl rfl ?_
            refine TL.pickT (.bool true) rfl rfl rfl rfl ?_
            refine TL.done ?_
            refine TQ.then ?_
            refine TC.condT rfl ?_
            refine TC.region ?_
            refine TL.mv (.int _ _) rfl rfl rfl ?_
            have := hcb (f i) k
            refine TL.add _ rfl rfl (wr64 (by omega)) rfl rfl ?_
            refine TL.asg (.int _ _) rfl rfl rfl ?_
            refine TL.done ?_
            refine TQ.inBlock ?_
            refine TQ.then ?_
            refine TC.region ?_
            refine TL.add (((k + 1 : Nat) : Int)) rfl rfl (wrN (by omega)) rfl rfl ?_
            refine TL.mv (.int _ _) rfl rfl rfl ?_
            refine TL.done ?_
            refine TQ.roundK (k + 1) ⟨by omega, by omega⟩ ⟨(by first | exact congrArg (fun z => some (Value.int IntKind.i64 z)) (cntB_T (by clear hI hk; first | (simp_all [atB]; done) | (simp_all [atB] <;> intros <;> omega))) | exact congrArg (fun z => some (Value.int IntKind.i64 z)) (cntB_F (by clear hI hk; first | (simp_all [atB]; done) | (simp_all [atB] <;> intros <;> omega)))), rfl, trivial⟩ trivial (.cons rfl rfl (.cons rfl rfl (.cons rfl rfl (.cons rfl rfl (.cons rfl rfl (.cons rfl rfl (.cons rfl rfl (.cons rfl rfl (.cons rfl rfl trivial))))))))) (.cons rfl rfl (.cons rfl rfl trivial))
          · skip
            refine TL.pickF (.bool false) rfl rfl rfl rfl ?_
            refine TL.pickT (.bool false) rfl rfl rfl rfl ?_
            refine TL.done ?_
            refine TQ.then ?_
            refine TC.condF rfl ?_
            refine TC.skip ?_
            refine TQ.inBlock ?_
            refine TQ.then ?_
            refine TC.region ?_
            refine TL.add (((k + 1 : Nat) : Int)) rfl rfl (wrN (by omega)) rfl rfl ?_
            refine TL.mv (.int _ _) rfl rfl rfl ?_
            refine TL.done ?_
            refine TQ.roundK (k + 1) ⟨by omega, by omega⟩ ⟨(by first | exact congrArg (fun z => some (Value.int IntKind.i64 z)) (cntB_T (by clear hI hk; first | (simp_all [atB]; done) | (simp_all [atB] <;> intros <;> omega))) | exact congrArg (fun z => some (Value.int IntKind.i64 z)) (cntB_F (by clear hI hk; first | (simp_all [atB]; done) | (simp_all [atB] <;> intros <;> omega)))), rfl, trivial⟩ trivial (.cons rfl rfl (.cons rfl rfl (.cons rfl rfl (.cons rfl rfl (.cons rfl rfl (.cons rfl rfl (.cons rfl rfl (.cons rfl rfl (.cons rfl rfl trivial))))))))) (.cons rfl rfl (.cons rfl rfl trivial))
      · skip
        refine TL.mv (.bool false) rfl rfl rfl ?_
        refine TL.off rfl rfl ?_
        refine TL.off rfl rfl ?_
        refine TL.off rfl rfl ?_
        refine TL.off rfl rfl ?_
        refine TL.off rfl rfl ?_
        refine TL.off rfl rfl ?_
        refine TL.off rfl rfl ?_
        refine TL.off rfl rfl ?_
        refine TL.off rfl rfl ?_
        refine TL.pickF (.bool false) rfl rfl rfl rfl ?_
        refine TL.done ?_
        refine TQ.then ?_
        refine TC.condF rfl ?_
        refine TC.skip ?_
        refine TQ.inBlock ?_
        refine TQ.then ?_
        refine TC.region ?_
        refine TL.add (((k + 1 : Nat) : Int)) rfl rfl (wrN (by omega)) rfl rfl ?_
        refine TL.mv (.int _ _) rfl rfl rfl ?_
        refine TL.done ?_
        refine TQ.roundK (k + 1) ⟨by omega, by omega⟩ ⟨(by first | exact congrArg (fun z => some (Value.int IntKind.i64 z)) (cntB_T (by clear hI hk; first | (simp_all [atB]; done) | (simp_all [atB] <;> intros <;> omega))) | exact congrArg (fun z => some (Value.int IntKind.i64 z)) (cntB_F (by clear hI hk; first | (simp_all [atB]; done) | (simp_all [atB] <;> intros <;> omega)))), rfl, trivial⟩ trivial (.cons rfl rfl (.cons rfl rfl (.cons rfl rfl (.cons rfl rfl (.cons rfl rfl (.cons rfl rfl (.cons rfl rfl (.cons rfl rfl (.cons rfl rfl trivial))))))))) (.cons rfl rfl (.cons rfl rfl trivial))
    · skip
      refine TL.done ?_
      refine TQ.then ?_
      refine TC.seq ?_
      refine TC.condF rfl ?_
      refine TC.exit ?_
      refine TQ.thenExit ?_
      refine TQ.thenExit ?_
      refine TQ.blockHere ?_
      refine TQ.then ?_
      refine TC.region ?_
      refine TL.mv (.int _ _) rfl rfl rfl ?_
      refine TL.mv (.int _ _) rfl rfl rfl ?_
      refine TL.max2 rfl rfl rfl rfl ?_
      refine TL.asg (.int _ _) rfl rfl rfl ?_
      refine TL.done ?_
      refine TQ.inBlock ?_
      refine TQ.then ?_
      refine TC.region ?_
      refine TL.add (((i + 1 : Nat) : Int)) rfl rfl (wrN (by omega)) rfl rfl ?_
      refine TL.mv (.int _ _) rfl rfl rfl ?_
      refine TL.done ?_
      refine TQ.roundK (i + 1) ⟨by omega, by omega⟩ ⟨(by rw [show k = n by omega]; rfl), rfl, trivial⟩ trivial (.cons rfl rfl (.cons rfl rfl (.cons rfl rfl (.cons rfl rfl trivial)))) (.cons rfl rfl trivial)
  · skip
    refine TL.done ?_
    refine TQ.then ?_
    refine TC.seq ?_
    refine TC.condF rfl ?_
    refine TC.exit ?_
    refine TQ.thenExit ?_
    refine TQ.thenExit ?_
    refine TQ.blockHere ?_
    refine TQ.then ?_
    refine TC.seq ?_
    refine TC.region ?_
    refine TL.mv (.int _ _) rfl rfl rfl ?_
    refine TL.asg (.int _ _) rfl rfl rfl ?_
    refine TL.done ?_
    refine TQ.then ?_
    refine TC.ret ?_
    refine FQ.ret1 (v := (.int _ _)) (Bs := [A]) [0] rfl rfl rfl ⟨rfl, trivial⟩ ?_
    obtain rfl : i = n := by omega
    exact ⟨rfl, rfl⟩

set_option maxHeartbeats 4000000 in
theorem idx_ok {a : Option Addr} {b off n c : Nat} {A : Assn} {f : Nat → Ans} (ha : 0 < n → a = some ⟨b, off, none⟩) (hn : n ≤ 40) (hA : RowOf A encA 9 b off n f) {g : Nat} {pr : Ans → Bool} (hcb : callB Try.prog g = true) (hp : ∀ x, FnD Try.prog g [.agg (encA x).toArray] [] (.bool (pr x)) []) : Go.Eng.Fn Try.prog 27 [.slice a n c, .func (.func g) #[] #[]] [A] (fun v Bs => Bs = [A] ∧ ((v = .int .i64 (-1) ∧ ∀ j, j < n → pr (f j) = false) ∨ ∃ i : Nat, v = .int .i64 (i : Int) ∧ i < n ∧ pr (f i) = true ∧ ∀ j, j < i → pr (f j) = false)) := by
  refine Fn.enter (Try.func27) rfl rfl (fun w0 R => ?_)
  refine TC.seq ?_
  refine TC.region ?_
  refine TL.asg (.int _ _) rfl rfl rfl ?_
  refine TL.done ?_
  refine TQ.then ?_
  refine TC.seq ?_
  refine TC.seq ?_
  refine TC.region ?_
  refine TL.mv (.slice _ _ _) rfl rfl rfl ?_
  refine TL.lenS rfl fc_l22_29_9 rfl rfl ?_
  refine TL.mv (.int _ _) rfl rfl rfl ?_
  refine TL.done ?_
  refine TQ.then ?_
  refine TC.block ?_
  refine TC.loopK (X := Nat) [0, 1, 7] [0] (fun i => [(8, .int .i64 ((i : Nat) : Int))]) (fun i => []) (fun i => i ≤ n ∧ ∀ j, j < i → pr (f j) = false) (fun i => n - i) (0) ⟨Nat.zero_le _, fun j h => absurd h (Nat.not_lt_zero _)⟩ ⟨rfl, trivial⟩ trivial (fun i hI => ?_)
  obtain ⟨hi, hO⟩ := hI
  refine TC.sub (env' := [(8, _), (0, _), (1, _), (7, _)]) (L' := [(0, _)]) ⟨rfl, rfl, rfl, rfl, trivial⟩ ⟨rfl, trivial⟩ ?_
  refine TC.seq ?_
  refine TC.region ?_
  refine TL.lss rfl rfl rfl rfl (fun q1 => ?_) (fun q1 => ?_)
  · skip
    refine TL.done ?_
    refine TQ.then ?_
    refine TC.seq ?_
    refine TC.condT rfl ?_
    refine TC.skip ?_
    refine TQ.then ?_
    refine TC.seq ?_
    refine TC.block ?_
    refine TC.seq ?_
    refine TC.region ?_
    refine TL.mv (.int _ _) rfl rfl rfl ?_
    refine TL.asg (.int _ _) rfl rfl rfl ?_
    refine TL.done ?_
    refine TQ.then ?_
    refine TC.seq ?_
    refine TC.region ?_
    refine TL.mv _ rfl rfl rfl ?_
    refine TL.mv (.slice _ _ _) rfl rfl rfl ?_
    refine TL.mv (.int _ _) rfl rfl rfl ?_
    refine TL.iaO rfl ha rfl fc_l22_29_9 (by omega) rfl rfl ?_
    refine TL.ldR 0 rfl rfl hA (by omega) fc_a29_9 rfl rfl ?_
    refine TL.callC (c1 := []) (c2 := []) (vs := [_]) [] [] rfl (hp _) ⟨rfl, trivial⟩ trivial hcb rfl rfl rfl rfl rfl trivial ?_
    refine TL.done ?_
    refine TQ.then ?_
    refine TC.cond rfl (fun q2 => ?_) (fun q2 => ?_)
    · skip
      refine TC.seq ?_
      refine TC.region ?_
      refine TL.mv (.int _ _) rfl rfl rfl ?_
      refine TL.asg (.int _ _) rfl rfl rfl ?_
      refine TL.done ?_
      refine TQ.then ?_
      refine TC.ret ?_
      refine TQ.blockRet ?_
      refine TQ.thenRet ?_
      refine TQ.thenRet ?_
      refine TQ.blockRet ?_
      refine TQ.thenRet ?_
      refine FQ.ret1 (v := (.int _ _)) (Bs := [A]) [0] rfl rfl rfl ⟨rfl, trivial⟩ ?_
      first | exact ⟨rfl, .inl ⟨rfl, fun j hj => hO j (by omega)⟩⟩ | exact ⟨rfl, .inr ⟨i, rfl, by omega, by assumption, hO⟩⟩
    · skip
      refine TC.skip ?_
      refine TQ.inBlock ?_
      refine TQ.then ?_
      refine TC.region ?_
      refine TL.add (((i + 1 : Nat) : Int)) rfl rfl (wrN (by omega)) rfl rfl ?_
      refine TL.mv (.int _ _) rfl rfl rfl ?_
      refine TL.done ?_
      refine TQ.roundK (i + 1) ⟨⟨by omega, fun j hj => by rcases Nat.lt_or_ge j i with h | h; exact hO j h; obtain rfl : j = i := (by omega); assumption⟩, by omega⟩ ⟨rfl, trivial⟩ trivial (.cons rfl rfl (.cons rfl rfl (.cons rfl rfl trivial))) (.cons rfl rfl trivial)
  · skip
    refine TL.done ?_
    refine TQ.then ?_
    refine TC.seq ?_
    refine TC.condF rfl ?_
    refine TC.exit ?_
    refine TQ.thenExit ?_
    refine TQ.thenExit ?_
    refine TQ.blockHere ?_
    refine TQ.then ?_
    refine TC.seq ?_
    refine TC.region ?_
    refine TL.asg (.int _ _) rfl rfl rfl ?_
    refine TL.done ?_
    refine TQ.then ?_
    refine TC.ret ?_
    refine FQ.ret1 (v := (.int _ _)) (Bs := [A]) [0] rfl rfl rfl ⟨rfl, trivial⟩ ?_
    first | exact ⟨rfl, .inl ⟨rfl, fun j hj => hO j (by omega)⟩⟩ | exact ⟨rfl, .inr ⟨i, rfl, by omega, by assumption, hO⟩⟩

theorem values1_ok {a : Option Addr} {b off n c : Nat} {A : Assn} {f : Nat → Ans} (ha : 0 < n → a = some ⟨b, off, none⟩) (hn : n ≤ 40) (hA : RowOf A encA 9 b off n f) {bb bs l : Nat} {r : Loop} (hround : ∀ (x : Ans) (v : Value) (d : Array Ans), d.size < 40 → RoundFn Try.prog l [.agg (encA x).toArray] [pt l (.loop r), pt bs (.cells #[v] 22), ownA encA 9 29 v d] (fun u Bs => u = .bool true ∧ ∃ v2, Bs = [pt l (.loop r), pt bs (.cells #[v2] 22), ownA encA 9 29 v2 (d ++ #[x])])) : Go.Eng.Fn Try.prog 32 [.func (.yield l) #[] #[], .pointer (some ⟨bb, 0, none⟩)] [pt bb (.cells #[.slice a n c] 22), A, pt l (.loop r), pt bs (.cells #[.slice none 0 0] 22), ownA encA 9 29 (.slice none 0 0) #[]] (fun u Bs => u = .tuple #[] ∧ ∃ v2, Bs = [pt bb (.cells #[.slice a n c] 22), A, pt l (.loop r), pt bs (.cells #[v2] 22), ownA encA 9 29 v2 ((List.range n).map f).toArray]) := by
  refine Fn.enter (Try.func32) rfl rfl (fun w0 R => ?_)
  refine TC.seq ?_
  refine TC.region ?_
  refine TL.ld 0 (.slice _ _ _) rfl rfl rfl fc_s22 rfl rfl ?_
  refine TL.lenS rfl fc_l22_29_9 rfl rfl ?_
  refine TL.mv (.int _ _) rfl rfl rfl ?_
  refine TL.done ?_
  refine TQ.then ?_
  refine TC.block ?_
  refine TC.loopK (X := Nat × Value) [0, 5, 6] [0, 1, 2] (fun ⟨i, v⟩ => [(7, .int .i64 ((i : Nat) : Int))]) (fun ⟨i, v⟩ => [(3, pt bs (.cells #[v] 22)), (4, ownA encA 9 29 v ((List.range i).map f).toArray)]) (fun ⟨i, v⟩ => i ≤ n) (fun ⟨i, v⟩ => n - i) ((0, .slice none 0 0)) (Nat.zero_le _) ⟨rfl, trivial⟩ ⟨rfl, rfl, trivial⟩ (fun y hI => ?_)
  obtain ⟨i, v⟩ := y
  replace hI : i ≤ n := hI
  refine TC.sub (env' := [(7, _), (0, _), (5, _), (6, _)]) (L' := [(3, _), (4, _), (0, _), (1, _), (2, _)]) ⟨rfl, rfl, rfl, rfl, trivial⟩ ⟨rfl, rfl, rfl, rfl, rfl, trivial⟩ ?_
  refine TC.seq ?_
  refine TC.region ?_
  refine TL.lss rfl rfl rfl rfl (fun q1 => ?_) (fun q1 => ?_)
  · skip
    refine TL.done ?_
    refine TQ.then ?_
    refine TC.seq ?_
    refine TC.condT rfl ?_
    refine TC.skip ?_
    refine TQ.then ?_
    refine TC.seq ?_
    refine TC.block ?_
    refine TC.seq ?_
    refine TC.region ?_
    refine TL.iaO rfl ha rfl fc_l22_29_9 (by omega) rfl rfl ?_
    refine TL.ldR 1 rfl rfl hA (by omega) fc_a29_9 rfl rfl ?_
    refine TL.alloc 5 (cs := #[.int .i64 0, .int .i64 0, .int .i64 0, .int .i64 0, .int .i64 0, .int .i64 0, .int .i64 0, .bool false, .int .i64 0]) fc_z29 rfl rfl rfl (fun _ => trivial) (fun bk5 => ?_)
    refine TL.stW 5 9 [_, _, _, _, _, _, _, _, _] rfl rfl rfl rfl rfl rfl fc_a29_9 rfl rfl trivial ?_
    refine TL.done ?_
    refine TQ.then ?_
    refine TC.seq ?_
    refine TC.regionY [_, _] [_] rfl rfl ?_
    refine TL.mv _ rfl rfl rfl ?_
    refine TL.ldA 5 9 [_, _, _, _, _, _, _, _, _] rfl rfl rfl fc_a29_9 rfl rfl ?_
    refine TL.done ?_
    refine TQ.yield (l1 := [_, _]) (l2 := [_]) [2, 3, 4] [2, 3, 4] rfl rfl rfl rfl (hround (f i) v _ (by rw [rng_size]; omega)) rfl ⟨rfl, trivial⟩ ⟨rfl, rfl, rfl, trivial⟩ rfl rfl rfl rfl ?_
    rintro u Bs ⟨rfl, v2, rfl⟩
    refine ⟨rfl, ?_⟩
    refine TL.not true false rfl rfl rfl rfl ?_
    refine TL.done ?_
    refine TQ.then ?_
    refine TC.condF rfl ?_
    refine TC.skip ?_
    refine TQ.inBlock ?_
    refine TQ.then ?_
    refine TC.region ?_
    refine TL.add (((i + 1 : Nat) : Int)) rfl rfl (wrN (by omega)) rfl rfl ?_
    refine TL.mv (.int _ _) rfl rfl rfl ?_
    refine TL.done ?_
    refine TQ.roundK ((i + 1, v2)) ⟨(show i + 1 ≤ n by omega), (show n - (i + 1) < n - i by omega)⟩ ⟨rfl, trivial⟩ ⟨rfl, congrArg (fun z => some (ownA encA 9 29 v2 z)) (rng_succ f i), trivial⟩ (.cons rfl rfl (.cons rfl rfl (.cons rfl rfl trivial))) (.cons rfl rfl (.cons rfl rfl (.cons rfl rfl trivial)))
  · skip
    refine TL.done ?_
    refine TQ.then ?_
    refine TC.seq ?_
    refine TC.condF rfl ?_
    refine TC.exit ?_
    refine TQ.thenExit ?_
    refine TQ.thenExit ?_
    refine TQ.blockHere ?_
    refine FQ.end0 (Bs := [pt bb (.cells #[.slice a n c] 22), A, pt l (.loop r), _, _]) [0, 1, 2, 3, 4] rfl rfl ⟨rfl, rfl, rfl, rfl, rfl, trivial⟩ ?_
    obtain rfl : i = n := by omega
    exact ⟨rfl, v, rfl⟩

theorem appseq_ok {a : Option Addr} {b off n c : Nat} {A : Assn} {f : Nat → Ans} (ha : 0 < n → a = some ⟨b, off, none⟩) (hn : n ≤ 40) (hA : RowOf A encA 9 b off n f) {bb : Nat} : Go.Eng.Fn Try.prog 43 [.slice none 0 0, .func (.func 32) #[] #[.pointer (some ⟨bb, 0, none⟩)]] [pt bb (.cells #[.slice a n c] 22), A] (fun u Bs => Bs = [pt bb (.cells #[.slice a n c] 22), A, ownA encA 9 29 u ((List.range n).map f).toArray]) := by
  refine Fn.enterM (Try.func43) rfl rfl (fun w0 R => ?_)
  refine TC.seq ?_
  refine TC.region ?_
  refine TL.box1 2 (.slice _ _ _) rfl rfl rfl rfl (fun _ => trivial) (fun bs => ?_)
  refine TL.asg (.slice _ _ _) rfl rfl rfl ?_
  refine TL.done ?_
  refine TQ.then ?_
  refine TC.seq ?_
  refine TC.seq ?_
  refine TC.region ?_
  refine TL.mv (.func _ _ _) rfl rfl rfl ?_
  refine TL.done ?_
  refine TQ.then ?_
  refine TC.block ?_
  refine TC.nilA 3 (A := ownA encA 9 29 (.slice none 0 0) #[]) (.inl ⟨rfl, rfl⟩) ?_
  refine TC.rangeF 4 5 (cap := [_]) rfl fc_c32 (fun blk l fn tmps hag => ?_)
  refine ⟨_, _, [0, 1, 5, 2, 3], [0, 1, 5, 2, 3], values1_ok (bs := bs) ha hn hA (fun x v d hd => ?_), ⟨rfl, rfl, rfl, rfl, rfl, trivial⟩, rfl, rfl, rfl, ?_⟩
  · refine RoundFn.of1 _ rfl ((hag.put (d := some 7) rfl _).sub (subE_spec (env' := [(7, _), (2, .pointer (some ⟨bs, 0, none⟩))]) ⟨rfl, rfl, trivial⟩)) (fun w0 R => ?_)
    refine TR.region rfl ?_
    refine TL.alloc 3 (cs := #[.int .i64 0, .int .i64 0, .int .i64 0, .int .i64 0, .int .i64 0, .int .i64 0, .int .i64 0, .bool false, .int .i64 0]) fc_z29 rfl rfl rfl (fun _ => trivial) (fun b5 => ?_)
    refine TL.stW 3 9 [_, _, _, _, _, _, _, _, _] rfl rfl rfl rfl rfl rfl fc_a29_9 rfl rfl trivial ?_
    refine TL.done ?_
    refine TQ.begin 0 rfl rfl ?_
    refine TR.block ?_
    refine TR.region rfl ?_
    refine TL.ld 1 v rfl rfl rfl fc_s22 rfl rfl ?_
    refine TL.ldA 3 9 [_, _, _, _, _, _, _, _, _] rfl rfl rfl fc_a29_9 rfl rfl ?_
    refine TL.bsN 4 [_] (encA x) fc_l22_29_9 fc_z29 ⟨rfl, trivial⟩ rfl (lit1 rfl) rfl rfl (fun b10 => ⟨trivial, ?_⟩)
    refine TL.appR 2 4 (d2 := #[x]) rfl rfl (fun _ => rfl) rfl rfl (row1 rfl) encA_one (by decide) fc_k22_29_9 (by simp; omega) rfl rfl (fun v2 => ⟨trivial, ?_⟩)
    refine TL.ownV 2 rfl (fun a2 c2 hv2 => ?_)
    subst hv2
    refine TL.st 1 #[_] (.slice _ _ _) rfl rfl rfl rfl rfl rfl fc_s22 rfl rfl trivial ?_
    refine TL.done ?_
    refine TQ.inBlock ?_
    refine TQ.roundEnd 0 [0, 1, 2] (Bs := [_, _, _]) rfl rfl ⟨rfl, rfl, rfl, trivial⟩ ⟨rfl, _, rfl⟩
  · rintro v Bs ⟨rfl, v2, rfl⟩
    refine ⟨rfl, _, ?_, rfl, rfl, ?_⟩
    · intro hh; cases hh
    · intro a w ha2 hs2
      exact TC.loadRet 2 4 [0, 1, 3] (Bs := [_, _, _]) ha2 hs2 rfl rfl rfl fc_s22 rfl rfl rfl rfl rfl ⟨rfl, rfl, rfl, trivial⟩ rfl

theorem values_ok {a : Option Addr} {n c : Nat} : Go.Eng.Fn Try.prog 25 [.slice a n c] [] (fun v Bs => ∃ bb, v = .func (.func 32) #[] #[.pointer (some ⟨bb, 0, none⟩)] ∧ Bs = [pt bb (.cells #[.slice a n c] 22)]) := by
  refine Fn.enter (Try.func25) rfl rfl (fun w0 R => ?_)
  refine TC.seq ?_
  refine TC.region ?_
  refine TL.box1 0 (.slice _ _ _) rfl rfl rfl rfl (fun _ => trivial) (fun bk0 => ?_)
  refine TL.asg _ rfl rfl rfl ?_
  refine TL.done ?_
  refine TQ.then ?_
  refine TC.seq ?_
  refine TC.region ?_
  refine TL.mf (xs := []) (ys := [_]) [] [_] trivial ⟨rfl, trivial⟩ rfl rfl ?_
  refine TL.asg (.func _ _ _) rfl rfl rfl ?_
  refine TL.done ?_
  refine TQ.then ?_
  refine TC.ret ?_
  refine FQ.ret1 (v := (.func _ _ _)) (Bs := [_]) [0] rfl rfl rfl ⟨rfl, trivial⟩ ?_
  exact ⟨_, rfl, rfl⟩

theorem collect_ok {a : Option Addr} {b off n c : Nat} {A : Assn} {f : Nat → Ans} (ha : 0 < n → a = some ⟨b, off, none⟩) (hn : n ≤ 40) (hA : RowOf A encA 9 b off n f) {bb : Nat} : Go.Eng.Fn Try.prog 31 [.func (.func 32) #[] #[.pointer (some ⟨bb, 0, none⟩)]] [pt bb (.cells #[.slice a n c] 22), A] (fun u Bs => Bs = [pt bb (.cells #[.slice a n c] 22), A, ownA encA 9 29 u ((List.range n).map f).toArray]) := by
  refine Fn.enter (Try.func31) rfl rfl (fun w0 R => ?_)
  refine TC.seq ?_
  refine TC.region ?_
  refine TL.asg (.slice none 0 0) rfl rfl rfl ?_
  refine TL.done ?_
  refine TQ.then ?_
  refine TC.seq ?_
  refine TC.region ?_
  refine TL.mv (.func _ _ _) rfl rfl rfl ?_
  refine TL.call [0, 1] [0, 1, 2] (appseq_ok ha hn hA) ⟨rfl, rfl, trivial⟩ ⟨rfl, rfl, trivial⟩ fc_c43 rfl rfl rfl rfl ?_
  rintro v Bs rfl
  refine ⟨rfl, trivial, ?_⟩
  refine TL.asg _ rfl rfl rfl ?_
  refine TL.done ?_
  refine TQ.then ?_
  refine TC.ret ?_
  refine FQ.ret1 (v := _) (Bs := [pt bb (.cells #[.slice a n c] 22), A, _]) [0, 1, 2] rfl rfl rfl ⟨rfl, rfl, rfl, trivial⟩ ?_
  rfl

theorem sorted_ok {a : Option Addr} {b off n c : Nat} {A : Assn} {f : Nat → Ans} (ha : 0 < n → a = some ⟨b, off, none⟩) (hn : n ≤ 40) (hA : RowOf A encA 9 b off n f) {bb g : Nat} {cf : Ans → Ans → Int} (hcb : callB Try.prog g = true) (hcmp : ∀ x y, FnD Try.prog g [.agg (encA x).toArray, .agg (encA y).toArray] [] (.int .i64 (cf x y)) []) (hS : SWO (ltf cf)) : Go.Eng.Fn Try.prog 24 [.func (.func 32) #[] #[.pointer (some ⟨bb, 0, none⟩)], .func (.func g) #[] #[]] [pt bb (.cells #[.slice a n c] 22), A] (fun v Bs => ∃ a2 b2 c2 d2, v = .slice a2 n c2 ∧ n ≤ c2 ∧ (0 < n → a2 = some ⟨b2, 0, none⟩) ∧ Bs = [pt bb (.cells #[.slice a n c] 22), A, rw9 b2 0 n d2] ∧ PermIn 0 n ((List.range n).map f).toArray d2 ∧ SortedIn (ltf cf) 0 n d2) := by
  refine Fn.enter (Try.func24) rfl rfl (fun w0 R => ?_)
  refine TC.seq ?_
  refine TC.region ?_
  refine TL.asg (.slice none 0 0) rfl rfl rfl ?_
  refine TL.done ?_
  refine TQ.then ?_
  refine TC.seq ?_
  refine TC.region ?_
  refine TL.mv (.func _ _ _) rfl rfl rfl ?_
  refine TL.call [0, 1] [0, 1, 2] (collect_ok ha hn hA) ⟨rfl, trivial⟩ ⟨rfl, rfl, trivial⟩ fc_c31 rfl rfl rfl rfl ?_
  rintro v Bs rfl
  refine ⟨rfl, trivial, ?_⟩
  refine TL.own 2 (rng_size f n) rfl (fun _ => trivial) (fun a2 b2 c2 hv hca2 haa2 => ?_)
  subst hv
  refine TL.asg (.slice _ _ _) rfl rfl rfl ?_
  refine TL.done ?_
  refine TQ.then ?_
  refine TC.seq ?_
  refine TC.region ?_
  refine TL.mv (.slice _ _ _) rfl rfl rfl ?_
  refine TL.mv (.func _ _ _) rfl rfl rfl ?_
  refine TL.call [2] [2] (sortf_ok haa2 (by omega) hcb hcmp hn hS (rng_size f n)) ⟨rfl, rfl, trivial⟩ ⟨rfl, trivial⟩ fc_c21 rfl rfl rfl rfl ?_
  rintro v Bs ⟨d5, rfl, rfl, hT5⟩
  refine ⟨rfl, trivial, ?_⟩
  refine TL.done ?_
  refine TQ.then ?_
  refine TC.seq ?_
  refine TC.region ?_
  refine TL.mv (.slice _ _ _) rfl rfl rfl ?_
  refine TL.asg (.slice _ _ _) rfl rfl rfl ?_
  refine TL.done ?_
  refine TQ.then ?_
  refine TC.ret ?_
  refine FQ.ret1 (v := (.slice _ _ _)) (Bs := [pt bb (.cells #[.slice a n c] 22), A, _]) [0, 1, 2] rfl rfl rfl ⟨rfl, rfl, rfl, trivial⟩ ?_
  exact ⟨_, _, _, _, rfl, hca2, haa2, rfl, hT5.1, hT5.2⟩

set_option maxHeartbeats 4000000 in
theorem bybeg_ok {a : Option Addr} {b off n c : Nat} {A : Assn} {f : Nat → Ans} (ha : 0 < n → a = some ⟨b, off, none⟩) (hn : n ≤ 40) (hA : RowOf A encA 9 b off n f) : Go.Eng.Fn Try.prog 15 [.slice a n c] [A] (fun v Bs => ∃ a2 b2 c2 d2, v = .slice a2 n c2 ∧ n ≤ c2 ∧ (0 < n → a2 = some ⟨b2, 0, none⟩) ∧ Bs = [A, rw9 b2 0 n d2] ∧ ByBeg n f d2) := by
  refine Fn.enter (Try.func15) rfl rfl (fun w0 R => ?_)
  refine TC.seq ?_
  refine TC.region ?_
  refine TL.asg (.slice none 0 0) rfl rfl rfl ?_
  refine TL.done ?_
  refine TQ.then ?_
  refine TC.seq ?_
  refine TC.region ?_
  refine TL.mv (.slice _ _ _) rfl rfl rfl ?_
  refine TL.call [] [1] values_ok ⟨rfl, trivial⟩ trivial fc_c25 rfl rfl rfl rfl ?_
  rintro v Bs ⟨bb, rfl, rfl⟩
  refine ⟨rfl, trivial, ?_⟩
  refine TL.call [1, 0] [1, 0, 2] (sorted_ok ha hn hA fc_c26 (fun x y => byBeg_ok) (swo_cmp _)) ⟨rfl, rfl, trivial⟩ ⟨rfl, rfl, trivial⟩ fc_c24 rfl rfl rfl rfl ?_
  rintro v Bs ⟨a2, b2, c2, d2, rfl, hc2, ha2, rfl, hp2, hs2⟩
  refine ⟨rfl, trivial, ?_⟩
  refine TL.asg (.slice _ _ _) rfl rfl rfl ?_
  refine TL.done ?_
  refine TQ.then ?_
  refine TC.ret ?_
  refine FQ.ret1 (v := (.slice _ _ _)) (Bs := [A, _]) [0, 2] rfl rfl rfl ⟨rfl, rfl, trivial⟩ ?_
  exact ⟨_, _, _, _, rfl, hc2, ha2, rfl, byBeg_of hp2 hs2⟩

set_option maxHeartbeats 4000000 in
theorem hright_ok {a : Option Addr} {b off n c : Nat} {A : Assn} {f : Nat → Ans} (ha : 0 < n → a = some ⟨b, off, none⟩) (hn : n ≤ 40) (hA : RowOf A encA 9 b off n f) : FnD Try.prog 7 [.slice a n c] [A] (.bool (rightL n f)) [A] := by
  refine Fn.enter (Try.func7) rfl rfl (fun w0 R => ?_)
  refine TC.seq ?_
  refine TC.region ?_
  refine TL.asg (.bool false) rfl rfl rfl ?_
  refine TL.done ?_
  refine TQ.then ?_
  refine TC.seq ?_
  refine TC.region ?_
  refine TL.mv (.slice _ _ _) rfl rfl rfl ?_
  refine TL.call [0] [0, 1] (bybeg_ok ha hn hA) ⟨rfl, trivial⟩ ⟨rfl, trivial⟩ fc_c15 rfl rfl rfl rfl ?_
  rintro v Bs ⟨a2, b2, c2, d2, rfl, hc2, ha2, rfl, hd2⟩
  refine ⟨rfl, trivial, ?_⟩
  refine TL.asg (.slice _ _ _) rfl rfl rfl ?_
  refine TL.done ?_
  refine TQ.then ?_
  refine TC.seq ?_
  refine TC.seq ?_
  refine TC.region ?_
  refine TL.mv (.slice _ _ _) rfl rfl rfl ?_
  refine TL.lenS rfl fc_l22_29_9 rfl rfl ?_
  refine TL.mv (.int _ _) rfl rfl rfl ?_
  refine TL.done ?_
  refine TQ.then ?_
  refine TC.block ?_
  refine TC.loopK (X := Nat) [0, 9, 10] [0, 1] (fun i => [(11, .int .i64 ((i : Nat) : Int))]) (fun i => []) (fun i => i ≤ n ∧ ∀ j, j < i → rightA d2[j]! = true ∧ ∀ k, k < n - (j + 1) → unlikeA d2[j]! d2[j + 1 + k]! = true) (fun i => n - i) (0) ⟨Nat.zero_le _, fun j h => absurd h (Nat.not_lt_zero _)⟩ ⟨rfl, trivial⟩ trivial (fun i hI => ?_)
  obtain ⟨hi, hO⟩ := hI
  refine TC.sub (env' := [(11, _), (0, _), (9, _), (10, _)]) (L' := [(0, _), (1, _)]) ⟨rfl, rfl, rfl, rfl, trivial⟩ ⟨rfl, rfl, trivial⟩ ?_
  refine TC.seq ?_
  refine TC.region ?_
  refine TL.lss rfl rfl rfl rfl (fun q1 => ?_) (fun q1 => ?_)
  · skip
    refine TL.done ?_
    refine TQ.then ?_
    refine TC.seq ?_
    refine TC.condT rfl ?_
    refine TC.skip ?_
    refine TQ.then ?_
    refine TC.seq ?_
    refine TC.block ?_
    refine TC.seq ?_
    refine TC.region ?_
    refine TL.mv (.int _ _) rfl rfl rfl ?_
    refine TL.iaO rfl ha2 rfl fc_l22_29_9 (by omega) rfl rfl ?_
    refine TL.ldRx 1 [_, _, _, _, _, _, _, _, _] rfl rfl rowW_of (by omega) rfl fc_a29_9 rfl rfl ?_
    refine TL.alloc 2 (cs := #[.int .i64 0, .int .i64 0, .int .i64 0, .int .i64 0, .int .i64 0, .int .i64 0, .int .i64 0, .bool false, .int .i64 0]) fc_z29 rfl rfl rfl (fun _ => trivial) (fun bk2 => ?_)
    refine TL.asg (.int _ _) rfl rfl rfl ?_
    refine TL.stW 2 9 [_, _, _, _, _, _, _, _, _] rfl rfl rfl rfl rfl rfl fc_a29_9 rfl rfl trivial ?_
    refine TL.done ?_
    refine TQ.then ?_
    refine TC.seq ?_
    refine TC.seq ?_
    refine TC.region ?_
    refine TL.ldA 2 9 [_, _, _, _, _, _, _, _, _] rfl rfl rfl fc_a29_9 rfl rfl ?_
    refine TL.callD [] [] right_ok ⟨rfl, trivial⟩ trivial fc_c16 rfl rfl rfl rfl rfl trivial ?_
    refine TL.cases rfl (fun q2 => ?_) (fun q2 => ?_)
    · skip
      refine TL.not true false rfl rfl rfl rfl ?_
      refine TL.done ?_
      refine TQ.then ?_
      refine TC.condF rfl ?_
      refine TC.skip ?_
      refine TQ.then ?_
      refine TC.seq ?_
      refine TC.region ?_
      refine TL.mv (.slice _ _ _) rfl rfl rfl ?_
      refine TL.mv (.int _ _) rfl rfl rfl ?_
      refine TL.add (((i + 1 : Nat) : Int)) rfl rfl (wrN (by omega)) rfl rfl ?_
      refine TL.slLo rfl rfl fc_l22_29_9 (by omega) rfl rfl ?_
      refine TL.lenS rfl fc_l22_29_9 rfl rfl ?_
      refine TL.mv (.int _ _) rfl rfl rfl ?_
      refine TL.done ?_
      refine TQ.then ?_
      refine TC.block ?_
      refine TC.loopK (X := Nat) [0, 4, 9, 10, 11, 22, 23] [0, 1, 2] (fun k => [(24, .int .i64 ((k : Nat) : Int))]) (fun k => []) (fun k => k ≤ n - (i + 1) ∧ ∀ j, j < k → unlikeA d2[i]! d2[i + 1 + j]! = true) (fun k => n - (i + 1) - k) (0) ⟨Nat.zero_le _, fun j h => absurd h (Nat.not_lt_zero _)⟩ ⟨rfl, trivial⟩ trivial (fun k hI => ?_)
      obtain ⟨hk, hJ⟩ := hI
      refine TC.sub (env' := [(24, _), (0, _), (4, _), (9, _), (10, _), (11, _), (22, _), (23, _)]) (L' := [(0, _), (1, _), (2, _)]) ⟨rfl, rfl, rfl, rfl, rfl, rfl, rfl, rfl, trivial⟩ ⟨rfl, rfl, rfl, trivial⟩ ?_
      refine TC.seq ?_
      refine TC.region ?_
      refine TL.lss rfl rfl rfl rfl (fun q3 => ?_) (fun q3 => ?_)
      · skip
        refine TL.done ?_
        refine TQ.then ?_
        refine TC.seq ?_
        refine TC.condT rfl ?_
        refine TC.skip ?_
        refine TQ.then ?_
        refine TC.seq ?_
        refine TC.block ?_
        refine TC.seq ?_
        refine TC.region ?_
        refine TL.iaO rfl (fun h => slA_ok ha2 hc2 h) rfl fc_l22_29_9 (by omega) rfl rfl ?_
        refine TL.ldRx 1 [_, _, _, _, _, _, _, _, _] rfl rfl (rowW_of.drop (i + 1) (n - (i + 1)) (by omega)) (by omega) rfl fc_a29_9 rfl rfl ?_
        refine TL.alloc 3 (cs := #[.int .i64 0, .int .i64 0, .int .i64 0, .int .i64 0, .int .i64 0, .int .i64 0, .int .i64 0, .bool false, .int .i64 0]) fc_z29 rfl rfl rfl (fun _ => trivial) (fun bk3 => ?_)
        refine TL.stW 3 9 [_, _, _, _, _, _, _, _, _] rfl rfl rfl rfl rfl rfl fc_a29_9 rfl rfl trivial ?_
        refine TL.done ?_
        refine TQ.then ?_
        refine TC.seq ?_
        refine TC.region ?_
        refine TL.ldA 2 9 [_, _, _, _, _, _, _, _, _] rfl rfl rfl fc_a29_9 rfl rfl ?_
        refine TL.ldA 3 9 [_, _, _, _, _, _, _, _, _] rfl rfl rfl fc_a29_9 rfl rfl ?_
        refine TL.callD [] [] unlike_ok ⟨rfl, rfl, trivial⟩ trivial fc_c17 rfl rfl rfl rfl rfl trivial ?_
        refine TL.cases rfl (fun q4 => ?_) (fun q4 => ?_)
        · skip
          refine TL.not true false rfl rfl rfl rfl ?_
          refine TL.done ?_
          refine TQ.then ?_
          refine TC.condF rfl ?_
          refine TC.skip ?_
          refine TQ.inBlock ?_
          refine TQ.then ?_
          refine TC.region ?_
          refine TL.add (((k + 1 : Nat) : Int)) rfl rfl (wrN (by omega)) rfl rfl ?_
          refine TL.mv (.int _ _) rfl rfl rfl ?_
          refine TL.done ?_
          refine TQ.roundK (k + 1) ⟨⟨by omega, fun j hj => by rcases Nat.lt_or_ge j k with h | h; exact hJ j h; obtain rfl : j = k := (by omega); first | assumption | simp_all⟩, by omega⟩ ⟨rfl, trivial⟩ trivial (.cons rfl rfl (.cons rfl rfl (.cons rfl rfl (.cons rfl rfl (.cons rfl rfl (.cons rfl rfl (.cons rfl rfl trivial))))))) (.cons rfl rfl (.cons rfl rfl (.cons rfl rfl trivial)))
        · skip
          refine TL.not false true rfl rfl rfl rfl ?_
          refine TL.done ?_
          refine TQ.then ?_
          refine TC.condT rfl ?_
          refine TC.seq ?_
          refine TC.region ?_
          refine TL.asg (.bool false) rfl rfl rfl ?_
          refine TL.done ?_
          refine TQ.then ?_
          refine TC.ret ?_
          refine TQ.blockRet ?_
          refine TQ.thenRet ?_
          refine TQ.thenRet ?_
          refine TQ.blockRet ?_
          refine TQ.blockRet ?_
          refine TQ.thenRet ?_
          refine TQ.thenRet ?_
          refine TQ.blockRet ?_
          refine TQ.thenRet ?_
          refine FQ.ret1 (v := (.bool false)) (Bs := [A]) [0] rfl rfl rfl ⟨rfl, trivial⟩ ?_
          first | exact ⟨(show Value.bool true = _ from (rightS_eq hd2) ▸ congrArg Value.bool (decide_eq_true (fun j hj => hO j (by omega))).symm), rfl⟩ | exact ⟨(rightS_eq hd2) ▸ rightS_F2 (i := i) (k := k) (by omega) (by omega) (by first | assumption | simp_all), rfl⟩ | exact ⟨(rightS_eq hd2) ▸ rightS_F1 (i := i) (by omega) (by first | assumption | simp_all), rfl⟩
      · skip
        refine TL.done ?_
        refine TQ.then ?_
        refine TC.seq ?_
        refine TC.condF rfl ?_
        refine TC.exit ?_
        refine TQ.thenExit ?_
        refine TQ.thenExit ?_
        refine TQ.blockHere ?_
        refine TQ.inBlock ?_
        refine TQ.then ?_
        refine TC.region ?_
        refine TL.add (((i + 1 : Nat) : Int)) rfl rfl (wrN (by omega)) rfl rfl ?_
        refine TL.mv (.int _ _) rfl rfl rfl ?_
        refine TL.done ?_
        refine TQ.roundK (i + 1) ⟨⟨by omega, fun j hj => by rcases Nat.lt_or_ge j i with h | h; exact hO j h; obtain rfl : j = i := (by omega); exact ⟨by first | assumption | simp_all, fun k hk => hJ k (by omega)⟩⟩, by omega⟩ ⟨rfl, trivial⟩ trivial (.cons rfl rfl (.cons rfl rfl (.cons rfl rfl trivial))) (.cons rfl rfl (.cons rfl rfl trivial))
    · skip
      refine TL.not false true rfl rfl rfl rfl ?_
      refine TL.done ?_
      refine TQ.then ?_
      refine TC.condT rfl ?_
      refine TC.seq ?_
      refine TC.region ?_
      refine TL.asg (.bool false) rfl rfl rfl ?_
      refine TL.done ?_
      refine TQ.then ?_
      refine TC.ret ?_
      refine TQ.thenRet ?_
      refine TQ.blockRet ?_
      refine TQ.thenRet ?_
      refine TQ.thenRet ?_
      refine TQ.blockRet ?_
      refine TQ.thenRet ?_
      refine FQ.ret1 (v := (.bool false)) (Bs := [A]) [0] rfl rfl rfl ⟨rfl, trivial⟩ ?_
      first | exact ⟨(show Value.bool true = _ from (rightS_eq hd2) ▸ congrArg Value.bool (decide_eq_true (fun j hj => hO j (by omega))).symm), rfl⟩ | exact ⟨(rightS_eq hd2) ▸ rightS_F2 (i := i) (k := k) (by omega) (by omega) (by first | assumption | simp_all), rfl⟩ | exact ⟨(rightS_eq hd2) ▸ rightS_F1 (i := i) (by omega) (by first | assumption | simp_all), rfl⟩
  · skip
    refine TL.done ?_
    refine TQ.then ?_
    refine TC.seq ?_
    refine TC.condF rfl ?_
    refine TC.exit ?_
    refine TQ.thenExit ?_
    refine TQ.thenExit ?_
    refine TQ.blockHere ?_
    refine TQ.then ?_
    refine TC.seq ?_
    refine TC.region ?_
    refine TL.asg (.bool true) rfl rfl rfl ?_
    refine TL.done ?_
    refine TQ.then ?_
    refine TC.ret ?_
    refine FQ.ret1 (v := (.bool true)) (Bs := [A]) [0] rfl rfl rfl ⟨rfl, trivial⟩ ?_
    first | exact ⟨(show Value.bool true = _ from (rightS_eq hd2) ▸ congrArg Value.bool (decide_eq_true (fun j hj => hO j (by omega))).symm), rfl⟩ | exact ⟨(rightS_eq hd2) ▸ rightS_F2 (i := i) (k := k) (by omega) (by omega) (by first | assumption | simp_all), rfl⟩ | exact ⟨(rightS_eq hd2) ▸ rightS_F1 (i := i) (by omega) (by first | assumption | simp_all), rfl⟩

set_option maxHeartbeats 4000000 in
theorem clone_ok {a : Option Addr} {b off n c : Nat} {A : Assn} {f : Nat → Ans} (ha : 0 < n → a = some ⟨b, off, none⟩) (hn : n ≤ 40) (hA : RowOf A encA 9 b off n f) : Go.Eng.Fn Try.prog 20 [.slice a n c] [A] (fun v Bs => Bs = [A, ownA encA 9 29 v ((List.range n).map f).toArray]) := by
  refine Fn.enter (Try.func20) rfl rfl (fun w0 R => ?_)
  refine TC.seq ?_
  refine TC.region ?_
  refine TL.asg (.slice none 0 0) rfl rfl rfl ?_
  refine TL.done ?_
  refine TQ.then ?_
  refine TC.seq ?_
  refine TC.seq ?_
  refine TC.region ?_
  refine TL.mv (.slice _ _ _) rfl rfl rfl ?_
  refine TL.nilS rfl rfl fc_l22_29_9 rfl rfl ?_
  refine TL.cases rfl (fun q1 => ?_) (fun q1 => ?_)
  · skip
    refine TL.done ?_
    refine TQ.then ?_
    refine TC.condT rfl ?_
    refine TC.seq ?_
    obtain rfl : n = 0 := by
      rcases Nat.eq_zero_or_pos n with h | h
      · exact h
      · rw [ha h] at q1; simp at q1
    refine TC.nilA 1 (A := ownA encA 9 29 (.slice none 0 0) ((List.range 0).map f).toArray) (.inl ⟨rfl, rfl⟩) ?_
    refine TC.region ?_
    refine TL.asg (.slice none 0 0) rfl rfl rfl ?_
    refine TL.done ?_
    refine TQ.then ?_
    refine TC.ret ?_
    refine TQ.thenRet ?_
    refine FQ.ret1 (v := (.slice none 0 0)) (Bs := [A, _]) [0, 1] rfl rfl rfl ⟨rfl, rfl, trivial⟩ ?_
    rfl
  · skip
    refine TL.done ?_
    refine TQ.then ?_
    refine TC.condF rfl ?_
    refine TC.skip ?_
    refine TQ.then ?_
    refine TC.seq ?_
    refine TC.region ?_
    refine TL.bs0 2 encA fc_l22_29_9 rfl rfl (fun bk2 => ⟨trivial, ?_⟩)
    refine TL.mv (.slice _ _ _) rfl rfl rfl ?_
    obtain ⟨ad, rfl⟩ : ∃ ad, a = some ad := Option.ne_none_iff_exists'.1 (by rintro rfl; simp at q1)
    refine TL.appS 2 0 (d2 := ((List.range n).map f).toArray) rfl (rng_size f n) rfl (ha) rfl rfl (hA.congr fun i hi => (rng_get f hi).symm) encA_one (by decide) fc_k22_29_9 (by rw [rng_size]; show 0 + n ≤ 1000; omega) rfl rfl (fun v3 => ⟨trivial, ?_⟩)
    refine TL.conseq 2 (B := ownA encA 9 29 v3 ((List.range n).map f).toArray) rfl (fun h hh => by simpa using hh) trivial ?_
    refine TL.asg _ rfl rfl rfl ?_
    refine TL.done ?_
    refine TQ.then ?_
    refine TC.ret ?_
    refine FQ.ret1 (v := _) (Bs := [A, _]) [0, 2] rfl rfl rfl ⟨rfl, rfl, trivial⟩ ?_
    rfl

theorem idx2_ok {a : Option Addr} {b off n c : Nat} {A : Assn} {f : Nat → Ans} (ha : 0 < n → a = some ⟨b, off, none⟩) (hn : n ≤ 40) (hA : RowOf A encA 9 b off n f) {g : Nat} {pr : Ans → Bool} (hcb : callB Try.prog g = true) (hp : ∀ x, FnD Try.prog g [.agg (encA x).toArray] [] (.bool (pr x)) []) : Go.Eng.Fn Try.prog 27 [.slice a n c, .func (.func g) #[] #[]] [A] (fun v Bs => ∃ z : Int, v = .int .i64 z ∧ Bs = [A] ∧ (z = -1 → ∀ j, j < n → pr (f j) = false) ∧ (z ≠ -1 → ∃ i : Nat, z = i ∧ i < n ∧ pr (f i) = true ∧ ∀ j, j < i → pr (f j) = false)) := Fn_mono (idx_ok ha hn hA hcb hp) (by rintro v Bs ⟨rfl, ⟨rfl, h⟩ | ⟨i, rfl, h1, h2, h3⟩⟩; exact ⟨_, rfl, rfl, fun _ => h, fun h => absurd rfl h⟩; exact ⟨_, rfl, rfl, fun h => by omega, fun _ => ⟨i, rfl, h1, h2, h3⟩⟩)

set_option maxHeartbeats 4000000 in
theorem del_ok {a : Option Addr} {b off n c g : Nat} {d : Array Ans} {pr : Ans → Bool} (ha : 0 < n → a = some ⟨b, off, none⟩) (hn : n ≤ 40) (hc : n ≤ c) (hsz : d.size = n) (hcb : callB Try.prog g = true) (hp : ∀ x, FnD Try.prog g [.agg (encA x).toArray] [] (.bool (pr x)) []) : Go.Eng.Fn Try.prog 19 [.slice a n c, .func (.func g) #[] #[]] [rw9 b off n d] (fun v Bs => ∃ a3 m d2, v = .slice a3 m c ∧ m ≤ n ∧ (0 < m → a3 = some ⟨b, off, none⟩) ∧ Bs = [rw9 b off m d2] ∧ d2.size = m ∧ d2.toList = kp pr (fun q => d[q]!) n) := by
  refine Fn.enter (Try.func19) rfl rfl (fun w0 R => ?_)
  refine TC.seq ?_
  refine TC.region ?_
  refine TL.asg (.slice none 0 0) rfl rfl rfl ?_
  refine TL.done ?_
  refine TQ.then ?_
  refine TC.seq ?_
  refine TC.region ?_
  refine TL.mv (.slice _ _ _) rfl rfl rfl ?_
  refine TL.mv _ rfl rfl rfl ?_
  refine TL.call [0] [0] (idx2_ok ha hn rowW_of hcb hp) ⟨rfl, rfl, trivial⟩ ⟨rfl, trivial⟩ fc_c27 rfl rfl rfl rfl ?_
  rintro v Bs ⟨z, rfl, rfl, hz1, hz2⟩
  refine ⟨rfl, trivial, ?_⟩
  refine TL.asg (.int _ _) rfl rfl rfl ?_
  refine TL.done ?_
  refine TQ.then ?_
  refine TC.seq ?_
  refine TC.seq ?_
  refine TC.region ?_
  refine TL.mv (.int _ _) rfl rfl rfl ?_
  refine TL.eql rfl rfl rfl rfl (fun q1 => ?_) (fun q1 => ?_)
  · skip
    refine TL.done ?_
    refine TQ.then ?_
    refine TC.condT rfl ?_
    refine TC.seq ?_
    refine TC.region ?_
    refine TL.mv (.slice _ _ _) rfl rfl rfl ?_
    refine TL.asg (.slice _ _ _) rfl rfl rfl ?_
    refine TL.done ?_
    refine TQ.then ?_
    refine TC.ret ?_
    refine TQ.thenRet ?_
    refine FQ.ret1 (v := (.slice _ _ _)) (Bs := [_]) [0] rfl rfl rfl ⟨rfl, trivial⟩ ?_
    exact ⟨a, n, d, rfl, Nat.le_refl _, ha, rfl, hsz, by rw [kp_all (hz1 q1), arr_map hsz]⟩
  · skip
    refine TL.done ?_
    refine TQ.then ?_
    refine TC.condF rfl ?_
    refine TC.skip ?_
    refine TQ.then ?_
    refine TC.seq ?_
    refine TC.seq ?_
    obtain ⟨i0, rfl, hi0, hpi, hbe⟩ := hz2 q1
    refine TC.region ?_
    refine TL.mv (.int _ _) rfl rfl rfl ?_
    refine TL.add (((i0 + 1 : Nat) : Int)) rfl rfl (wrN (by omega)) rfl rfl ?_
    refine TL.asg (.int _ _) rfl rfl rfl ?_
    refine TL.done ?_
    refine TQ.then ?_
    refine TC.block ?_
    refine TC.loopK (X := Nat × Nat × Array Ans) [0, 1, 4] [] (fun ⟨i, j, d1⟩ => [(5, .int .i64 ((i : Nat) : Int)), (6, .int .i64 ((j : Nat) : Int))]) (fun ⟨i, j, d1⟩ => [(0, rw9 b off n d1)]) (fun ⟨i, j, d1⟩ => i < j ∧ j ≤ n ∧ DelI pr d i j d1) (fun ⟨i, j, d1⟩ => n - j) ((i0, i0 + 1, d)) ⟨Nat.lt_succ_self _, hi0, DelI.start hpi hbe⟩ ⟨rfl, rfl, trivial⟩ ⟨rfl, trivial⟩ (fun y hI => ?_)
    obtain ⟨i, j, d1⟩ := y
    obtain ⟨hij, hjn, hI⟩ := hI
    replace hij : i < j := hij
    replace hjn : j ≤ n := hjn
    replace hI : DelI pr d i j d1 := hI
    refine TC.sub (env' := [(5, _), (6, _), (0, _), (1, _), (4, _)]) (L' := [(0, _)]) ⟨rfl, rfl, rfl, rfl, rfl, trivial⟩ ⟨rfl, trivial⟩ ?_
    refine TC.seq ?_
    refine TC.seq ?_
    refine TC.region ?_
    refine TL.mv (.int _ _) rfl rfl rfl ?_
    refine TL.mv (.slice _ _ _) rfl rfl rfl ?_
    refine TL.lenS rfl fc_l22_29_9 rfl rfl ?_
    refine TL.lss rfl rfl rfl rfl (fun q2 => ?_) (fun q2 => ?_)
    · skip
      refine TL.done ?_
      refine TQ.then ?_
      refine TC.condT rfl ?_
      refine TC.skip ?_
      refine TQ.then ?_
      refine TC.seq ?_
      refine TC.block ?_
      refine TC.seq ?_
      refine TC.region ?_
      refine TL.mv (.slice _ _ _) rfl rfl rfl ?_
      refine TL.mv (.int _ _) rfl rfl rfl ?_
      refine TL.iaO rfl ha rfl fc_l22_29_9 (by omega) rfl rfl ?_
      refine TL.ldR 0 rfl rfl rowW_of (by omega) fc_a29_9 rfl rfl ?_
      refine TL.alloc 1 (cs := #[.int .i64 0, .int .i64 0, .int .i64 0, .int .i64 0, .int .i64 0, .int .i64 0, .int .i64 0, .bool false, .int .i64 0]) fc_z29 rfl rfl rfl (fun _ => trivial) (fun bk1 => ?_)
      refine TL.stW 1 9 [_, _, _, _, _, _, _, _, _] rfl rfl rfl rfl rfl rfl fc_a29_9 rfl rfl trivial ?_
      refine TL.done ?_
      refine TQ.then ?_
      refine TC.seq ?_
      refine TC.region ?_
      refine TL.mv _ rfl rfl rfl ?_
      refine TL.ldA 1 9 [_, _, _, _, _, _, _, _, _] rfl rfl rfl fc_a29_9 rfl rfl ?_
      refine TL.callC (c1 := []) (c2 := []) (vs := [_]) [] [] rfl (hp _) ⟨rfl, trivial⟩ trivial hcb rfl rfl rfl rfl rfl trivial ?_
      refine TL.not _ _ rfl rfl rfl rfl ?_
      refine TL.done ?_
      refine TQ.then ?_
      refine TC.cond rfl (fun q3 => ?_) (fun q3 => ?_)
      · skip
        refine TC.seq ?_
        refine TC.region ?_
        refine TL.mv (.slice _ _ _) rfl rfl rfl ?_
        refine TL.mv (.int _ _) rfl rfl rfl ?_
        refine TL.ldA 1 9 [_, _, _, _, _, _, _, _, _] rfl rfl rfl fc_a29_9 rfl rfl ?_
        refine TL.iaO rfl ha rfl fc_l22_29_9 (by omega) rfl rfl ?_
        refine TL.stR (v := d1[j]!) 0 rfl rfl rfl encA_ok (by omega) fc_a29_9 rfl rfl trivial ?_
        refine TL.done ?_
        refine TQ.then ?_
        refine TC.region ?_
        refine TL.mv (.int _ _) rfl rfl rfl ?_
        refine TL.add (((i + 1 : Nat) : Int)) rfl rfl (wrN (by omega)) rfl rfl ?_
        refine TL.asg (.int _ _) rfl rfl rfl ?_
        refine TL.done ?_
        refine TQ.inBlock ?_
        refine TQ.then ?_
        refine TC.region ?_
        refine TL.mv (.int _ _) rfl rfl rfl ?_
        refine TL.add (((j + 1 : Nat) : Int)) rfl rfl (wrN (by omega)) rfl rfl ?_
        refine TL.asg (.int _ _) rfl rfl rfl ?_
        refine TL.done ?_
        refine TQ.roundK ((i + 1, j + 1, d1.setIfInBounds i d1[j]!)) ⟨⟨(show i + 1 < j + 1 by omega), (show j + 1 ≤ n by omega), hI.keep hij (by omega) (by simp_all)⟩, (show n - (j + 1) < n - j by omega)⟩ ⟨rfl, rfl, trivial⟩ ⟨rfl, trivial⟩ (.cons rfl rfl (.cons rfl rfl (.cons rfl rfl trivial))) trivial
      · skip
        refine TC.skip ?_
        refine TQ.inBlock ?_
        refine TQ.then ?_
        refine TC.region ?_
        refine TL.mv (.int _ _) rfl rfl rfl ?_
        refine TL.add (((j + 1 : Nat) : Int)) rfl rfl (wrN (by omega)) rfl rfl ?_
        refine TL.asg (.int _ _) rfl rfl rfl ?_
        refine TL.done ?_
        refine TQ.roundK ((i, j + 1, d1)) ⟨⟨(show i < j + 1 by omega), (show j + 1 ≤ n by omega), hI.drop (by simp_all)⟩, (show n - (j + 1) < n - j by omega)⟩ ⟨rfl, rfl, trivial⟩ ⟨rfl, trivial⟩ (.cons rfl rfl (.cons rfl rfl (.cons rfl rfl trivial))) trivial
    · skip
      refine TL.done ?_
      refine TQ.then ?_
      refine TC.condF rfl ?_
      refine TC.exit ?_
      refine TQ.thenExit ?_
      refine TQ.thenExit ?_
      refine TQ.blockHere ?_
      refine TQ.then ?_
      refine TC.seq ?_
      obtain rfl : j = n := by omega
      refine TC.region ?_
      refine TL.mv (.slice _ _ _) rfl rfl rfl ?_
      refine TL.mv (.int _ _) rfl rfl rfl ?_
      refine TL.slLo rfl rfl fc_l22_29_9 (by omega) rfl rfl ?_
      refine TL.clr 0 (i := i) rfl (fun h => slA_ok ha hc h) (by omega) (hI.sz.trans hsz) rfl fc_l22_29_9 fc_z29 ⟨rfl, rfl⟩ rfl rfl trivial ?_
      refine TL.done ?_
      refine TQ.then ?_
      refine TC.seq ?_
      refine TC.region ?_
      refine TL.mv (.slice _ _ _) rfl rfl rfl ?_
      refine TL.mv (.int _ _) rfl rfl rfl ?_
      refine TL.slHi rfl rfl fc_l22_29_9 (by omega) rfl rfl ?_
      refine TL.asg (.slice _ _ _) rfl rfl rfl ?_
      refine TL.done ?_
      refine TQ.then ?_
      refine TC.ret ?_
      refine FQ.ret1 (v := (.slice _ _ _)) (Bs := [_]) [0] rfl rfl rfl ⟨rfl, trivial⟩ ?_
      exact ⟨_, i, _, rfl, by omega, fun h => by simpa using slA_ok (size := 9) ha hc (i := 0) (by omega), rfl, (hI.fin rfl (by omega) hsz).1, (hI.fin rfl (by omega) hsz).2⟩

set_option maxHeartbeats 4000000 in
theorem ended_ok {a : Option Addr} {b off n c : Nat} {A : Assn} {f : Nat → Ans} (ha : 0 < n → a = some ⟨b, off, none⟩) (hn : n ≤ 40) (hA : RowOf A encA 9 b off n f) : Go.Eng.Fn Try.prog 11 [.slice a n c] [A] (fun v Bs => ∃ a2 b2 c2 d2, v = .slice a2 d2.size c2 ∧ d2.size ≤ c2 ∧ (0 < d2.size → a2 = some ⟨b2, 0, none⟩) ∧ Bs = [A, rw9 b2 0 d2.size d2] ∧ d2.toList = endL n f) := by
  refine Fn.enter (Try.func11) rfl rfl (fun w0 R => ?_)
  refine TC.seq ?_
  refine TC.region ?_
  refine TL.asg (.slice none 0 0) rfl rfl rfl ?_
  refine TL.done ?_
  refine TQ.then ?_
  refine TC.seq ?_
  refine TC.region ?_
  refine TL.mv (.slice _ _ _) rfl rfl rfl ?_
  refine TL.call [0] [0, 1] (clone_ok ha hn hA) ⟨rfl, trivial⟩ ⟨rfl, trivial⟩ fc_c20 rfl rfl rfl rfl ?_
  rintro v Bs rfl
  refine ⟨rfl, trivial, ?_⟩
  refine TL.own 1 (rng_size f n) rfl (fun _ => trivial) (fun a2 b2 c2 hv hca2 haa2 => ?_)
  subst hv
  refine TL.call [1] [1] (del_ok (pr := goesA) haa2 hn hca2 (rng_size f n) fc_c18 (fun x => goes_ok)) ⟨rfl, rfl, trivial⟩ ⟨rfl, trivial⟩ fc_c19 rfl rfl rfl rfl ?_
  rintro v Bs ⟨a3, m, d2, rfl, hm, ha3, rfl, hd2, he2⟩
  refine ⟨rfl, trivial, ?_⟩
  subst hd2
  refine TL.asg (.slice _ _ _) rfl rfl rfl ?_
  refine TL.done ?_
  refine TQ.then ?_
  refine TC.ret ?_
  refine FQ.ret1 (v := (.slice _ _ _)) (Bs := [A, _]) [0, 1] rfl rfl rfl ⟨rfl, rfl, trivial⟩ ?_
  exact ⟨_, _, _, _, rfl, by omega, ha3, rfl, he2.trans (kp_congr fun q hq => rng_get f hq)⟩

set_option maxHeartbeats 4000000 in
theorem open_ok {a : Option Addr} {b off n c : Nat} {A : Assn} {f : Nat → Ans} (ha : 0 < n → a = some ⟨b, off, none⟩) (hn : n ≤ 40) (hA : RowOf A encA 9 b off n f) : FnD Try.prog 12 [.slice a n c] [A] (.int .i64 ((n : Int) - ((endL n f).length : Nat))) [A] := by
  have hkl := kp_len (pr := goesA) (g := f) (j := n)
  unfold endL
  refine Fn.enter (Try.func12) rfl rfl (fun w0 R => ?_)
  refine TC.seq ?_
  refine TC.region ?_
  refine TL.asg (.int _ _) rfl rfl rfl ?_
  refine TL.done ?_
  refine TQ.then ?_
  refine TC.seq ?_
  refine TC.region ?_
  refine TL.mv (.slice _ _ _) rfl rfl rfl ?_
  refine TL.lenS rfl fc_l22_29_9 rfl rfl ?_
  refine TL.mv (.slice _ _ _) rfl rfl rfl ?_
  refine TL.call [0] [0, 1] (ended_ok ha hn hA) ⟨rfl, trivial⟩ ⟨rfl, trivial⟩ fc_c11 rfl rfl rfl rfl ?_
  rintro v Bs ⟨a2, b2, c2, d2, rfl, hc2, ha2, rfl, he2⟩
  refine ⟨rfl, trivial, ?_⟩
  have hl2 : d2.size = (endL n f).length := by rw [← he2]; simp
  unfold endL at hl2
  refine TL.lenS rfl fc_l22_29_9 rfl rfl ?_
  refine TL.sub _ rfl rfl (wr64 (by omega)) rfl rfl ?_
  refine TL.asg (.int _ _) rfl rfl rfl ?_
  refine TL.done ?_
  refine TQ.then ?_
  refine TC.ret ?_
  refine FQ.ret1 (v := (.int _ _)) (Bs := [A]) [0] rfl rfl rfl ⟨rfl, trivial⟩ ?_
  exact ⟨iE (by omega), rfl⟩

set_option maxHeartbeats 4000000 in
theorem bypts_ok {a : Option Addr} {b off n c : Nat} {A : Assn} {f : Nat → Ans} (ha : 0 < n → a = some ⟨b, off, none⟩) (hn : n ≤ 40) (hA : RowOf A encA 9 b off n f) : Go.Eng.Fn Try.prog 13 [.slice a n c] [A] (fun v Bs => ∃ a2 b2 c2 d2, v = .slice a2 d2.size c2 ∧ d2.size ≤ c2 ∧ (0 < d2.size → a2 = some ⟨b2, 0, none⟩) ∧ Bs = [A, rw9 b2 0 d2.size d2] ∧ d2.toList.Perm (endL n f) ∧ SortedIn (ltf fun x y => cmpI x.point y.point) 0 d2.size d2) := by
  have hkl := kp_len (pr := goesA) (g := f) (j := n)
  refine Fn.enter (Try.func13) rfl rfl (fun w0 R => ?_)
  refine TC.seq ?_
  refine TC.region ?_
  refine TL.asg (.slice none 0 0) rfl rfl rfl ?_
  refine TL.done ?_
  refine TQ.then ?_
  refine TC.seq ?_
  refine TC.region ?_
  refine TL.mv (.slice _ _ _) rfl rfl rfl ?_
  refine TL.call [0] [0, 1] (ended_ok ha hn hA) ⟨rfl, trivial⟩ ⟨rfl, trivial⟩ fc_c11 rfl rfl rfl rfl ?_
  rintro v Bs ⟨a2, b2, c2, d2, rfl, hc2, ha2, rfl, he2⟩
  refine ⟨rfl, trivial, ?_⟩
  have hl2 : d2.size = (endL n f).length := by rw [← he2]; simp
  unfold endL at hl2
  refine TL.asg (.slice _ _ _) rfl rfl rfl ?_
  refine TL.done ?_
  refine TQ.then ?_
  refine TC.seq ?_
  refine TC.region ?_
  refine TL.mv (.slice _ _ _) rfl rfl rfl ?_
  refine TL.call [1] [1] (sortf_ok ha2 (by omega) fc_c22 (fun x y => byPoint_ok) (by omega) (swo_cmp _) rfl) ⟨rfl, rfl, trivial⟩ ⟨rfl, trivial⟩ fc_c21 rfl rfl rfl rfl ?_
  rintro v Bs ⟨d5, rfl, rfl, hT5⟩
  refine ⟨rfl, trivial, ?_⟩
  refine TL.done ?_
  refine TQ.then ?_
  refine TC.seq ?_
  refine TC.region ?_
  refine TL.mv (.slice _ _ _) rfl rfl rfl ?_
  refine TL.asg (.slice _ _ _) rfl rfl rfl ?_
  refine TL.done ?_
  refine TQ.then ?_
  refine TC.ret ?_
  refine FQ.ret1 (v := (.slice _ _ _)) (Bs := [A, _]) [0, 1] rfl rfl rfl ⟨rfl, rfl, trivial⟩ ?_
  have hq := perm_self hT5.1
  exact ⟨_, _, _, d5, by rw [hq.1], by rw [hq.1]; exact hc2, fun h => ha2 (by rw [← hq.1]; exact h), by rw [hq.1], by rw [← he2]; exact hq.2, by rw [hq.1]; exact hT5.2⟩

set_option maxHeartbeats 4000000 in
theorem awake_ok  : FnD Try.prog 9 [] [] (.bool true) [] := by
  refine Fn.enter (Try.func9) rfl rfl (fun w0 R => ?_)
  refine TC.seq ?_
  refine TC.region ?_
  refine TL.asg (.bool false) rfl rfl rfl ?_
  refine TL.done ?_
  refine TQ.then ?_
  refine TC.seq ?_
  refine TC.region ?_
  refine TL.bld [.int .i64 0, .int .i64 0, .int .i64 0, .int .i64 0, .int .i64 0, .int .i64 0, .int .i64 0, .bool false, .int .i64 0] [(.int _ _), (.int _ _), (.int _ _), (.int _ _)] [_, _, _, _, _, _, _, _, _] fc_z29 fc_q29 ⟨rfl, rfl, rfl, rfl, trivial⟩ ⟨rfl, rfl⟩ rfl rfl ?_
  refine TL.bld [.int .i64 0, .int .i64 0, .int .i64 0, .int .i64 0, .int .i64 0, .int .i64 0, .int .i64 0, .bool false, .int .i64 0] [(.int _ _), (.int _ _), (.int _ _), (.int _ _), (.bool true)] [_, _, _, _, _, _, _, _, _] fc_z29 fc_q29 ⟨rfl, rfl, rfl, rfl, rfl, trivial⟩ ⟨rfl, rfl⟩ rfl rfl ?_
  refine TL.bld [.int .i64 0, .int .i64 0, .int .i64 0, .int .i64 0, .int .i64 0, .int .i64 0, .int .i64 0, .bool false, .int .i64 0] [(.int _ _), (.int _ _)] [_, _, _, _, _, _, _, _, _] fc_z29 fc_q29 ⟨rfl, rfl, trivial⟩ ⟨rfl, rfl⟩ rfl rfl ?_
  refine TL.bsN 0 [_, _, _] (([aw1, aw2, aw3].map encA).flatten) fc_l22_29_9 fc_z29 ⟨rfl, rfl, rfl, trivial⟩ rfl (litN [aw1, aw2, aw3] (fun x => (encA_ok x).1)) rfl rfl (fun bk0 => ⟨trivial, ?_⟩)
  refine TL.asg (.slice _ _ _) rfl rfl rfl ?_
  refine TL.done ?_
  refine TQ.then ?_
  refine TC.seq ?_
  refine TC.region ?_
  refine TL.mv (.slice _ _ _) rfl rfl rfl ?_
  refine TL.call [0] [0, 1] (bypts_ok (f := (fun i => (#[aw1, aw2, aw3] : Array Ans)[i]!)) (n := 3) (b := bk0) (off := 0) (fun _ => rfl) (by decide) (rowsL #[aw1, aw2, aw3] (fun x => (encA_ok x).1))) ⟨rfl, trivial⟩ ⟨rfl, trivial⟩ fc_c13 rfl rfl rfl rfl ?_
  rintro v Bs ⟨ap, bp, cp, dp, rfl, hcp, hap, rfl, hpp, hsp⟩
  refine ⟨rfl, trivial, ?_⟩
  obtain ⟨hpz, hpy⟩ := aw_pts hpp hsp
  simp only [hpz] at hap hcp ⊢
  refine TL.asg (.slice _ _ _) rfl rfl rfl ?_
  refine TL.done ?_
  refine TQ.then ?_
  refine TC.seq ?_
  refine TC.draw [(0, true), (1, false), (2, true), (3, true), (4, true), (5, true), (6, true), (7, false), (8, false), (9, false), (10, true), (11, true), (12, true), (13, true), (14, true), (15, true), (16, true), (17, true), (18, true), (19, false), (20, true), (21, true), (22, true), (23, true), (24, true), (25, true), (26, true), (27, true), (28, false), (29, true), (30, true), (31, true), (32, true), (33, false), (34, true), (35, true), (36, true), (37, true), (38, true), (39, true), (40, true), (41, true), (42, true), (43, true), (44, true), (45, true), (46, true), (47, true), (48, true), (49, true), (50, false), (51, true), (52, true), (53, true), (54, true), (55, false), (56, true), (57, true), (58, true)] [0, 1] fc_m (by kernel_rfl) ?_
  refine TL.mv (.slice _ _ _) rfl rfl rfl ?_
  refine TL.callD [0] [0] (hright_ok (f := (fun i => (#[aw1, aw2, aw3] : Array Ans)[i]!)) (n := 3) (fun _ => rfl) (by decide) (rowsL #[aw1, aw2, aw3] (fun x => (encA_ok x).1))) ⟨rfl, trivial⟩ ⟨rfl, trivial⟩ fc_c7 rfl rfl rfl rfl rfl (.cons rfl rfl (.cons rfl rfl trivial)) ?_
  rw [aw_r3]
  refine TL.mv (.bool true) rfl rfl rfl ?_
  refine TL.mv (.slice _ _ _) rfl rfl rfl ?_
  refine TL.mv (.slice _ _ _) rfl rfl rfl ?_
  refine TL.iaO rfl (fun _ => rfl) rfl fc_l22_29_9 (by decide) rfl rfl ?_
  refine TL.ldRx 0 [_, _, _, _, _, _, _, _, _] rfl rfl (rowsL #[aw1, aw2, aw3] (fun x => (encA_ok x).1)) (by decide) rfl fc_a29_9 rfl rfl ?_
  refine TL.bsN 2 [_] (encA aw1) fc_l22_29_9 fc_z29 ⟨rfl, trivial⟩ rfl (lit1 rfl) rfl rfl (fun bk2 => ⟨(.cons rfl rfl (.cons rfl rfl trivial)), ?_⟩)
  refine TL.appN 4 0 2 (d1 := #[aw1, aw2, aw3]) (d2 := #[aw1]) rfl rfl (fun _ => rfl) (fun _ => rfl) rfl rfl ((rowsL #[aw1, aw2, aw3] (fun x => (encA_ok x).1))) (row1 rfl) encA_one (by decide) fc_k22_29_9 (by decide) (by decide) rfl rfl (fun v4 => ⟨(.cons rfl rfl (.cons rfl rfl trivial)), ?_⟩)
  refine TL.own 4 (sz := 4) rfl rfl (fun _ => (.cons rfl rfl (.cons rfl rfl trivial))) (fun a4 b4 c4 hv hc4 ha4 => ?_)
  subst hv
  refine TL.callD [4] [4] (hright_ok (f := (fun i => (#[aw1, aw2, aw3] ++ #[aw1] : Array Ans)[i]!)) (n := 4) ha4 (by decide) rowW_of) ⟨rfl, trivial⟩ ⟨rfl, trivial⟩ fc_c7 rfl rfl rfl rfl rfl (.cons rfl rfl (.cons rfl rfl trivial)) ?_
  rw [aw_r4]
  refine TL.not false true rfl rfl rfl rfl ?_
  refine TL.pickT (.bool true) rfl rfl rfl rfl ?_
  refine TL.mv (.bool true) rfl rfl rfl ?_
  refine TL.mv (.slice _ _ _) rfl rfl rfl ?_
  refine TL.iaO rfl (fun _ => rfl) rfl fc_l22_29_9 (by decide) rfl rfl ?_
  refine TL.ldRx 0 [_, _, _, _, _, _, _, _, _] rfl rfl (rowsL #[aw1, aw2, aw3] (fun x => (encA_ok x).1)) (by decide) rfl fc_a29_9 rfl rfl ?_
  refine TL.mv (.slice _ _ _) rfl rfl rfl ?_
  refine TL.iaO rfl (fun _ => rfl) rfl fc_l22_29_9 (by decide) rfl rfl ?_
  refine TL.ldRx 0 [_, _, _, _, _, _, _, _, _] rfl rfl (rowsL #[aw1, aw2, aw3] (fun x => (encA_ok x).1)) (by decide) rfl fc_a29_9 rfl rfl ?_
  refine TL.callD [] [] (ahead_ok (x := aw1) (y := aw3)) ⟨rfl, rfl, trivial⟩ trivial fc_c10 rfl rfl rfl rfl rfl (.cons rfl rfl (.cons rfl rfl trivial)) ?_
  rw [show aheadA aw1 aw3 = true from by decide]
  refine TL.pickT (.bool true) rfl rfl rfl rfl ?_
  refine TL.mv (.bool true) rfl rfl rfl ?_
  refine TL.mv (.slice _ _ _) rfl rfl rfl ?_
  refine TL.iaO rfl (fun _ => rfl) rfl fc_l22_29_9 (by decide) rfl rfl ?_
  refine TL.ldRx 0 [_, _, _, _, _, _, _, _, _] rfl rfl (rowsL #[aw1, aw2, aw3] (fun x => (encA_ok x).1)) (by decide) rfl fc_a29_9 rfl rfl ?_
  refine TL.mv (.slice _ _ _) rfl rfl rfl ?_
  refine TL.iaO rfl (fun _ => rfl) rfl fc_l22_29_9 (by decide) rfl rfl ?_
  refine TL.ldRx 0 [_, _, _, _, _, _, _, _, _] rfl rfl (rowsL #[aw1, aw2, aw3] (fun x => (encA_ok x).1)) (by decide) rfl fc_a29_9 rfl rfl ?_
  refine TL.callD [] [] (ahead_ok (x := aw1) (y := aw2)) ⟨rfl, rfl, trivial⟩ trivial fc_c10 rfl rfl rfl rfl rfl (.cons rfl rfl (.cons rfl rfl trivial)) ?_
  rw [show aheadA aw1 aw2 = false from by decide]
  refine TL.not false true rfl rfl rfl rfl ?_
  refine TL.pickT (.bool true) rfl rfl rfl rfl ?_
  refine TL.mv (.bool true) rfl rfl rfl ?_
  refine TL.mv (.slice _ _ _) rfl rfl rfl ?_
  refine TL.call [0] [0, 5] (ended_ok (f := (fun i => (#[aw1, aw2, aw3] : Array Ans)[i]!)) (n := 3) (fun _ => rfl) (by decide) (rowsL #[aw1, aw2, aw3] (fun x => (encA_ok x).1))) ⟨rfl, trivial⟩ ⟨rfl, trivial⟩ fc_c11 rfl rfl rfl rfl ?_
  rintro v Bs ⟨a2, b2, c2, d2, rfl, hc2, ha2, rfl, he2⟩
  refine ⟨rfl, (.cons rfl rfl (.cons rfl rfl trivial)), ?_⟩
  have hpe := aw_ended he2
  refine TL.lenS rfl fc_l22_29_9 rfl rfl ?_
  refine TL.eqlT rfl rfl (by omega) rfl rfl ?_
  refine TL.pickT (.bool true) rfl rfl rfl rfl ?_
  refine TL.mv (.bool true) rfl rfl rfl ?_
  refine TL.mv (.slice _ _ _) rfl rfl rfl ?_
  refine TL.lenS rfl fc_l22_29_9 rfl rfl ?_
  refine TL.eqlT rfl rfl (by decide) rfl rfl ?_
  refine TL.pickT (.bool true) rfl rfl rfl rfl ?_
  refine TL.mv (.bool true) rfl rfl rfl ?_
  refine TL.mv (.slice _ _ _) rfl rfl rfl ?_
  refine TL.iaO rfl hap rfl fc_l22_29_9 (by decide) rfl rfl ?_
  refine TL.fa 7 rfl fc_f29_5_7 rfl rfl ?_
  refine TL.ldRF 1 (.bool _) rfl rfl rowW_of (by decide) (encA_ok _).1 rfl fc_s4 rfl rfl ?_
  rw [hpy]
  refine TL.pickT (.bool _) rfl rfl rfl rfl ?_
  refine TL.mv (.bool _) rfl rfl rfl ?_
  refine TL.cases rfl (fun q1 => ?_) (fun q1 => ?_)
  · skip
    refine TL.mv (.slice _ _ _) rfl rfl rfl ?_
    refine TL.callD [0] [0] (open_ok (f := (fun i => (#[aw1, aw2, aw3] : Array Ans)[i]!)) (n := 3) (fun _ => rfl) (by decide) (rowsL #[aw1, aw2, aw3] (fun x => (encA_ok x).1))) ⟨rfl, trivial⟩ ⟨rfl, trivial⟩ fc_c12 rfl rfl rfl rfl rfl (.cons rfl rfl (.cons rfl rfl trivial)) ?_
    refine TL.eqlT rfl rfl (by decide) rfl rfl ?_
    refine TL.pickT (.bool true) rfl rfl rfl rfl ?_
    refine TL.mv (.bool true) rfl rfl rfl ?_
    refine TL.mv (.slice _ _ _) rfl rfl rfl ?_
    refine TL.callD [0] [0] (width_ok (f := (fun i => (#[aw1, aw2, aw3] : Array Ans)[i]!)) (n := 3) (fun _ => rfl) (by decide) (rowsL #[aw1, aw2, aw3] (fun x => (encA_ok x).1))) ⟨rfl, trivial⟩ ⟨rfl, trivial⟩ fc_c14 rfl rfl rfl rfl rfl (.cons rfl rfl (.cons rfl rfl trivial)) ?_
    refine TL.eqlT rfl rfl (by decide) rfl rfl ?_
    refine TL.pickT (.bool true) rfl rfl rfl rfl ?_
    refine TL.asg (.bool true) rfl rfl rfl ?_
    refine TL.done ?_
    refine TQ.then ?_
    refine TC.ret ?_
    refine FQ.ret1 (v := (.bool true)) (Bs := []) [] rfl rfl rfl trivial ?_
    first | exact ⟨rfl, rfl⟩ | contradiction | (simp_all; done)
  · skip
    refine TL.off rfl rfl ?_
    refine TL.off rfl rfl ?_
    refine TL.off rfl rfl ?_
    refine TL.pickF (.bool false) rfl rfl rfl rfl ?_
    refine TL.mv (.bool false) rfl rfl rfl ?_
    refine TL.off rfl rfl ?_
    refine TL.off rfl rfl ?_
    refine TL.off rfl rfl ?_
    refine TL.pickF (.bool false) rfl rfl rfl rfl ?_
    refine TL.asg (.bool false) rfl rfl rfl ?_
    refine TL.done ?_
    refine TQ.then ?_
    refine TC.ret ?_
    refine FQ.ret1 (v := (.bool false)) (Bs := []) [] rfl rfl rfl trivial ?_
    first | exact ⟨rfl, rfl⟩ | contradiction | (simp_all; done)

set_option maxHeartbeats 4000000 in
theorem right_law {a : Option Addr} {b off n c : Nat} {A : Assn} {f : Nat → Ans} (ha : 0 < n → a = some ⟨b, off, none⟩) (hA : RowOf A encA 9 b off n f) : FnD Try.prog 3 [.slice a n c] [A] (.bool true) [A] := by
  refine Fn.enter (Try.func3) rfl rfl (fun w0 R => ?_)
  refine TC.seq ?_
  refine TC.region ?_
  refine TL.asg (.bool false) rfl rfl rfl ?_
  refine TL.done ?_
  refine TQ.then ?_
  refine TC.seq ?_
  refine TC.seq ?_
  refine TC.region ?_
  refine TL.mv (.slice _ _ _) rfl rfl rfl ?_
  refine TL.lenS rfl fc_l22_29_9 rfl rfl ?_
  refine TL.gtr rfl rfl rfl rfl (fun q1 => ?_) (fun q1 => ?_)
  · skip
    refine TL.mv (.bool true) rfl rfl rfl ?_
    refine TL.off rfl rfl ?_
    refine TL.off rfl rfl ?_
    refine TL.off rfl rfl ?_
    refine TL.off rfl rfl ?_
    refine TL.off rfl rfl ?_
    refine TL.pickT (.bool true) rfl rfl rfl rfl ?_
    refine TL.done ?_
    refine TQ.then ?_
    refine TC.condT rfl ?_
    refine TC.seq ?_
    refine TC.region ?_
    refine TL.mv (.slice _ _ _) rfl rfl rfl ?_
    refine TL.lenS rfl fc_l22_29_9 rfl rfl ?_
    refine TL.gtrT rfl rfl (by omega) rfl rfl ?_
    refine TL.mv (.bool true) rfl rfl rfl ?_
    refine TL.callD [] [] awake_ok trivial trivial fc_c9 rfl rfl rfl rfl rfl trivial ?_
    refine TL.pickT (.bool true) rfl rfl rfl rfl ?_
    refine TL.asg (.bool true) rfl rfl rfl ?_
    refine TL.done ?_
    refine TQ.then ?_
    refine TC.ret ?_
    refine TQ.thenRet ?_
    refine FQ.ret1 (v := (.bool true)) (Bs := [A]) [0] rfl rfl rfl ⟨rfl, trivial⟩ ?_
    exact ⟨rfl, rfl⟩
  · skip
    refine TL.mv (.bool false) rfl rfl rfl ?_
    refine TL.mv (.slice _ _ _) rfl rfl rfl ?_
    refine TL.callD [0] [0] (hright_ok ha (by omega) hA) ⟨rfl, trivial⟩ ⟨rfl, trivial⟩ fc_c7 rfl rfl rfl rfl rfl trivial ?_
    refine TL.mv (.slice _ _ _) rfl rfl rfl ?_
    refine TL.callD [0] [0] (lright_ok ha (by omega) hA) ⟨rfl, trivial⟩ ⟨rfl, trivial⟩ fc_c8 rfl rfl rfl rfl rfl trivial ?_
    refine TL.neqB rfl rfl fc_b4 rfl rfl ?_
    rw [show (!(rightL n f == rightL n f)) = false by simp]
    refine TL.pickF (.bool false) rfl rfl rfl rfl ?_
    refine TL.done ?_
    refine TQ.then ?_
    refine TC.condF rfl ?_
    refine TC.skip ?_
    refine TQ.then ?_
    refine TC.seq ?_
    refine TC.seq ?_
    refine TC.region ?_
    refine TL.mv (.slice _ _ _) rfl rfl rfl ?_
    refine TL.lenS rfl fc_l22_29_9 rfl rfl ?_
    refine TL.mv (.int _ _) rfl rfl rfl ?_
    refine TL.done ?_
    refine TQ.then ?_
    refine TC.block ?_
    refine TC.loopK (X := Nat) [0, 23, 24] [0] (fun i => [(25, .int .i64 ((i : Nat) : Int))]) (fun i => []) (fun i => i ≤ n) (fun i => n - i) (0) (Nat.zero_le _) ⟨rfl, trivial⟩ trivial (fun i hI => ?_)
    have hi := hI
    refine TC.sub (env' := [(25, _), (0, _), (23, _), (24, _)]) (L' := [(0, _)]) ⟨rfl, rfl, rfl, rfl, trivial⟩ ⟨rfl, trivial⟩ ?_
    refine TC.seq ?_
    refine TC.region ?_
    refine TL.lss rfl rfl rfl rfl (fun q2 => ?_) (fun q2 => ?_)
    · skip
      refine TL.done ?_
      refine TQ.then ?_
      refine TC.seq ?_
      refine TC.condT rfl ?_
      refine TC.skip ?_
      refine TQ.then ?_
      refine TC.seq ?_
      refine TC.block ?_
      refine TC.seq ?_
      refine TC.region ?_
      refine TL.iaO rfl ha rfl fc_l22_29_9 (by omega) rfl rfl ?_
      refine TL.ldRx 0 [_, _, _, _, _, _, _, _, _] rfl rfl hA (by omega) rfl fc_a29_9 rfl rfl ?_
      refine TL.alloc 1 (cs := #[.int .i64 0, .int .i64 0, .int .i64 0, .int .i64 0, .int .i64 0, .int .i64 0, .int .i64 0, .bool false, .int .i64 0]) fc_z29 rfl rfl rfl (fun _ => trivial) (fun bk1 => ?_)
      refine TL.stW 1 9 [_, _, _, _, _, _, _, _, _] rfl rfl rfl rfl rfl rfl fc_a29_9 rfl rfl trivial ?_
      refine TL.done ?_
      refine TQ.then ?_
      refine TC.seq ?_
      refine TC.region ?_
      refine TL.mv (.slice _ _ _) rfl rfl rfl ?_
      refine TL.lenS rfl fc_l22_29_9 rfl rfl ?_
      refine TL.mv (.int _ _) rfl rfl rfl ?_
      refine TL.done ?_
      refine TQ.then ?_
      refine TC.block ?_
      refine TC.loopK (X := Nat) [0, 4, 23, 24, 25, 29, 30] [0, 1] (fun k => [(31, .int .i64 ((k : Nat) : Int))]) (fun k => []) (fun k => k ≤ n) (fun k => n - k) (0) (Nat.zero_le _) ⟨rfl, trivial⟩ trivial (fun k hI => ?_)
      have hk := hI
      refine TC.sub (env' := [(31, _), (0, _), (4, _), (23, _), (24, _), (25, _), (29, _), (30, _)]) (L' := [(0, _), (1, _)]) ⟨rfl, rfl, rfl, rfl, rfl, rfl, rfl, rfl, trivial⟩ ⟨rfl, rfl, trivial⟩ ?_
      refine TC.seq ?_
      refine TC.region ?_
      refine TL.lss rfl rfl rfl rfl (fun q3 => ?_) (fun q3 => ?_)
      · skip
        refine TL.done ?_
        refine TQ.then ?_
        refine TC.seq ?_
        refine TC.condT rfl ?_
        refine TC.skip ?_
        refine TQ.then ?_
        refine TC.seq ?_
        refine TC.block ?_
        refine TC.seq ?_
        refine TC.region ?_
        refine TL.iaO rfl ha rfl fc_l22_29_9 (by omega) rfl rfl ?_
        refine TL.ldRx 0 [_, _, _, _, _, _, _, _, _] rfl rfl hA (by omega) rfl fc_a29_9 rfl rfl ?_
        refine TL.alloc 2 (cs := #[.int .i64 0, .int .i64 0, .int .i64 0, .int .i64 0, .int .i64 0, .int .i64 0, .int .i64 0, .bool false, .int .i64 0]) fc_z29 rfl rfl rfl (fun _ => trivial) (fun bk2 => ?_)
        refine TL.stW 2 9 [_, _, _, _, _, _, _, _, _] rfl rfl rfl rfl rfl rfl fc_a29_9 rfl rfl trivial ?_
        refine TL.done ?_
        refine TQ.then ?_
        refine TC.seq ?_
        refine TC.draw [(0, true), (1, true), (3, true), (4, true), (5, true), (2, false), (6, true), (7, true), (8, true), (9, true), (10, true), (11, true), (12, true), (13, true)] [1, 2] fc_m (by kernel_rfl) ?_
        refine TL.ldA 1 9 [_, _, _, _, _, _, _, _, _] rfl rfl rfl fc_a29_9 rfl rfl ?_
        refine TL.ldA 2 9 [_, _, _, _, _, _, _, _, _] rfl rfl rfl fc_a29_9 rfl rfl ?_
        refine TL.fa 6 rfl fc_f29_4_6 rfl rfl ?_
        refine TL.ld 1 (.int _ _) rfl rfl rfl fc_s3 rfl rfl ?_
        refine TL.neq rfl rfl rfl rfl (fun q4 => ?_) (fun q4 => ?_)
        · skip
          refine TL.callD [] [] (ahead_ok (x := f i) (y := f k)) ⟨rfl, rfl, trivial⟩ trivial fc_c10 rfl rfl rfl rfl rfl (.cons rfl rfl (.cons rfl rfl trivial)) ?_
          refine TL.mv (.bool true) rfl rfl rfl ?_
          refine TL.fa 6 rfl fc_f29_4_6 rfl rfl ?_
          refine TL.ld 1 (.int _ _) rfl rfl rfl fc_s3 rfl rfl ?_
          refine TL.fa 4 rfl fc_f29_2_4 rfl rfl ?_
          refine TL.ld 2 (.int _ _) rfl rfl rfl fc_s3 rfl rfl ?_
          refine TL.lssV rfl rfl rfl rfl ?_
          refine TL.pickT (.bool _) rfl rfl rfl rfl ?_
          refine TL.neqB rfl rfl fc_b4 rfl rfl ?_
          rw [show (!(aheadA (f i) (f k) == decide ((f i).fin < (f k).beg))) = false by simp [aheadA, goesA, *]]
          refine TL.done ?_
          refine TQ.then ?_
          refine TC.condF rfl ?_
          refine TC.skip ?_
          refine TQ.inBlock ?_
          refine TQ.then ?_
          refine TC.region ?_
          refine TL.add (((k + 1 : Nat) : Int)) rfl rfl (wrN (by omega)) rfl rfl ?_
          refine TL.mv (.int _ _) rfl rfl rfl ?_
          refine TL.done ?_
          refine TQ.roundK (k + 1) ⟨by omega, by omega⟩ ⟨rfl, trivial⟩ trivial (.cons rfl rfl (.cons rfl rfl (.cons rfl rfl (.cons rfl rfl (.cons rfl rfl (.cons rfl rfl (.cons rfl rfl trivial))))))) (.cons rfl rfl (.cons rfl rfl trivial))
        · skip
          refine TL.callD [] [] (ahead_ok (x := f i) (y := f k)) ⟨rfl, rfl, trivial⟩ trivial fc_c10 rfl rfl rfl rfl rfl (.cons rfl rfl (.cons rfl rfl trivial)) ?_
          refine TL.mv (.bool false) rfl rfl rfl ?_
          refine TL.off rfl rfl ?_
          refine TL.off rfl rfl ?_
          refine TL.off rfl rfl ?_
          refine TL.off rfl rfl ?_
          refine TL.off rfl rfl ?_
          refine TL.pickF (.bool false) rfl rfl rfl rfl ?_
          refine TL.neqB rfl rfl fc_b4 rfl rfl ?_
          rw [show (!(aheadA (f i) (f k) == false)) = false by simp [aheadA, goesA, *]]
          refine TL.done ?_
          refine TQ.then ?_
          refine TC.condF rfl ?_
          refine TC.skip ?_
          refine TQ.inBlock ?_
          refine TQ.then ?_
          refine TC.region ?_
          refine TL.add (((k + 1 : Nat) : Int)) rfl rfl (wrN (by omega)) rfl rfl ?_
          refine TL.mv (.int _ _) rfl rfl rfl ?_
          refine TL.done ?_
          refine TQ.roundK (k + 1) ⟨by omega, by omega⟩ ⟨rfl, trivial⟩ trivial (.cons rfl rfl (.cons rfl rfl (.cons rfl rfl (.cons rfl rfl (.cons rfl rfl (.cons rfl rfl (.cons rfl rfl trivial))))))) (.cons rfl rfl (.cons rfl rfl trivial))
      · skip
        refine TL.done ?_
        refine TQ.then ?_
        refine TC.seq ?_
        refine TC.condF rfl ?_
        refine TC.exit ?_
        refine TQ.thenExit ?_
        refine TQ.thenExit ?_
        refine TQ.blockHere ?_
        refine TQ.inBlock ?_
        refine TQ.then ?_
        refine TC.region ?_
        refine TL.add (((i + 1 : Nat) : Int)) rfl rfl (wrN (by omega)) rfl rfl ?_
        refine TL.mv (.int _ _) rfl rfl rfl ?_
        refine TL.done ?_
        refine TQ.roundK (i + 1) ⟨by omega, by omega⟩ ⟨rfl, trivial⟩ trivial (.cons rfl rfl (.cons rfl rfl (.cons rfl rfl trivial))) (.cons rfl rfl trivial)
    · skip
      refine TL.done ?_
      refine TQ.then ?_
      refine TC.seq ?_
      refine TC.condF rfl ?_
      refine TC.exit ?_
      refine TQ.thenExit ?_
      refine TQ.thenExit ?_
      refine TQ.blockHere ?_
      refine TQ.then ?_
      refine TC.seq ?_
      refine TC.region ?_
      refine TL.callD [] [] awake_ok trivial trivial fc_c9 rfl rfl rfl rfl rfl trivial ?_
      refine TL.asg (.bool true) rfl rfl rfl ?_
      refine TL.done ?_
      refine TQ.then ?_
      refine TC.ret ?_
      refine FQ.ret1 (v := (.bool true)) (Bs := [A]) [0] rfl rfl rfl ⟨rfl, trivial⟩ ?_
      exact ⟨rfl, rfl⟩

theorem eqC_run (d : Nat) (a b c a' b' c' : Int) (w : World) : (Op.equalIn (d + 2) 26 (.agg #[.int .i64 a, .int .i64 b, .int .i64 c]) (.agg #[.int .i64 a', .int .i64 b', .int .i64 c'])).run Try.prog w = .ok (a == a' && (b == b' && c == c')) w := by
  have u3 := Try.underlying3
  have a3 := Try.isAgg3
  have z3 := Try.sizeOf3
  have hS : Try.prog.underlying 26 = some (.struct (Try.prog.fieldsOf 26)) := by kernel_rfl
  have hp : Try.prog.stoodInHeld 26 = false := by kernel_rfl
  rw [run_equalIn_agg w (d + 1) 26 _ _ hS hp]
  simp only [Program.fieldsOf, Try.underlying26]
  go_simp
  by_cases h1 : a = a' <;> by_cases h2 : b = b' <;> by_cases h3 : c = c' <;> simp [h1, h2, h3]
theorem eqA_run (x y : Ans) (w : World) : (Op.equalIn 10000 29 (.agg (encA x).toArray) (.agg (encA y).toArray)).run Try.prog w = .ok (decide (x = y)) w := by
  have u3 := Try.underlying3
  have a3 := Try.isAgg3
  have z3 := Try.sizeOf3
  have u4 := Try.underlying4
  have a4 := Try.isAgg4
  have z4 := Try.sizeOf4
  have u27 := Try.underlying27
  have a27 := Try.isAgg27
  have z27 := Try.sizeOf27
  have a26 := Try.isAgg26
  have z26 := Try.sizeOf26
  have hS : Try.prog.underlying 29 = some (.struct (Try.prog.fieldsOf 29)) := by kernel_rfl
  have hp : Try.prog.stoodInHeld 29 = false := by kernel_rfl
  have hC := eqC_run 9997
  obtain ⟨x1, x2, x3, x4, x5, x6, x7, x8, x9⟩ := x
  obtain ⟨y1, y2, y3, y4, y5, y6, y7, y8, y9⟩ := y
  rw [show (10000 : Nat) = 9999 + 1 from rfl, run_equalIn_agg w 9999 29 _ _ hS hp]
  simp only [Program.fieldsOf, Try.underlying29, encA]
  go_simp
  by_cases h : x1 = y1 ∧ x2 = y2 ∧ x3 = y3
  · obtain ⟨rfl, rfl, rfl⟩ := h
    simp only [true_implies, not_true_eq_false, if_false, decide_true, Bool.true_and]
    repeat' split
    all_goals simp_all
  · rw [if_pos (by intro h1 h2 h3; exact h ⟨h1, h2, h3⟩)]
    congr 1
    symm
    rw [Bool.eq_false_iff]
    intro hc
    simp only [Bool.and_eq_true, decide_eq_true_eq] at hc
    exact h ⟨hc.1, hc.2.1, hc.2.2.1⟩

set_option maxHeartbeats 4000000 in
theorem parts_law {a : Option Addr} {b off n c : Nat} {A : Assn} {f : Nat → Ans} (ha : 0 < n → a = some ⟨b, off, none⟩) (hA : RowOf A encA 9 b off n f) : FnD Try.prog 4 [.slice a n c] [A] (.bool true) [A] := by
  refine Fn.enter (Try.func4) rfl rfl (fun w0 R => ?_)
  refine TC.seq ?_
  refine TC.region ?_
  refine TL.asg (.bool false) rfl rfl rfl ?_
  refine TL.done ?_
  refine TQ.then ?_
  refine TC.seq ?_
  refine TC.seq ?_
  refine TC.region ?_
  refine TL.mv (.slice _ _ _) rfl rfl rfl ?_
  refine TL.lenS rfl fc_l22_29_9 rfl rfl ?_
  refine TL.gtr rfl rfl rfl rfl (fun q1 => ?_) (fun q1 => ?_)
  · skip
    refine TL.done ?_
    refine TQ.then ?_
    refine TC.condT rfl ?_
    refine TC.seq ?_
    refine TC.region ?_
    refine TL.callD [] [] awake_ok trivial trivial fc_c9 rfl rfl rfl rfl rfl trivial ?_
    refine TL.asg (.bool true) rfl rfl rfl ?_
    refine TL.done ?_
    refine TQ.then ?_
    refine TC.ret ?_
    refine TQ.thenRet ?_
    refine FQ.ret1 (v := (.bool true)) (Bs := [A]) [0] rfl rfl rfl ⟨rfl, trivial⟩ ?_
    exact ⟨rfl, rfl⟩
  · skip
    refine TL.done ?_
    refine TQ.then ?_
    refine TC.condF rfl ?_
    refine TC.skip ?_
    refine TQ.then ?_
    refine TC.seq ?_
    refine TC.region ?_
    refine TL.asg (.slice none 0 0) rfl rfl rfl ?_
    refine TL.done ?_
    refine TQ.then ?_
    refine TC.seq ?_
    refine TC.seq ?_
    refine TC.nilA 1 (A := ownA encA 9 29 (.slice none 0 0) #[]) (.inl ⟨rfl, rfl⟩) ?_
    refine TC.region ?_
    refine TL.mv (.slice _ _ _) rfl rfl rfl ?_
    refine TL.lenS rfl fc_l22_29_9 rfl rfl ?_
    refine TL.mv (.int _ _) rfl rfl rfl ?_
    refine TL.done ?_
    refine TQ.then ?_
    refine TC.block ?_
    refine TC.loopK (X := Nat × Value) [0, 2, 20, 21] [0] (fun ⟨i, v⟩ => [(22, .int .i64 ((i : Nat) : Int)), (3, v)]) (fun ⟨i, v⟩ => [(1, ownA encA 9 29 v (kp goesA f i).toArray)]) (fun ⟨i, v⟩ => i ≤ n) (fun ⟨i, v⟩ => n - i) ((0, .slice none 0 0)) (Nat.zero_le _) ⟨rfl, rfl, trivial⟩ ⟨rfl, trivial⟩ (fun y hI => ?_)
    obtain ⟨i, v⟩ := y
    replace hI : i ≤ n := hI
    refine TC.sub (env' := [(22, _), (3, _), (0, _), (2, _), (20, _), (21, _)]) (L' := [(1, _), (0, _)]) ⟨rfl, rfl, rfl, rfl, rfl, rfl, trivial⟩ ⟨rfl, rfl, trivial⟩ ?_
    refine TC.seq ?_
    refine TC.region ?_
    refine TL.lss rfl rfl rfl rfl (fun q2 => ?_) (fun q2 => ?_)
    · skip
      refine TL.done ?_
      refine TQ.then ?_
      refine TC.seq ?_
      refine TC.condT rfl ?_
      refine TC.skip ?_
      refine TQ.then ?_
      refine TC.seq ?_
      refine TC.block ?_
      refine TC.seq ?_
      refine TC.region ?_
      refine TL.iaO rfl ha rfl fc_l22_29_9 (by omega) rfl rfl ?_
      refine TL.ldRx 0 [_, _, _, _, _, _, _, _, _] rfl rfl hA (by omega) rfl fc_a29_9 rfl rfl ?_
      refine TL.alloc 2 (cs := #[.int .i64 0, .int .i64 0, .int .i64 0, .int .i64 0, .int .i64 0, .int .i64 0, .int .i64 0, .bool false, .int .i64 0]) fc_z29 rfl rfl rfl (fun _ => trivial) (fun bk2 => ?_)
      refine TL.stW 2 9 [_, _, _, _, _, _, _, _, _] rfl rfl rfl rfl rfl rfl fc_a29_9 rfl rfl trivial ?_
      refine TL.done ?_
      refine TQ.then ?_
      refine TC.seq ?_
      refine TC.region ?_
      refine TL.fa 6 rfl fc_f29_4_6 rfl rfl ?_
      refine TL.ld 2 (.int _ _) rfl rfl rfl fc_s3 rfl rfl ?_
      refine TL.neq rfl rfl rfl rfl (fun q3 => ?_) (fun q3 => ?_)
      · skip
        refine TL.done ?_
        refine TQ.then ?_
        refine TC.condT rfl ?_
        refine TC.region ?_
        refine TL.mv _ rfl rfl rfl ?_
        refine TL.ldA 2 9 [_, _, _, _, _, _, _, _, _] rfl rfl rfl fc_a29_9 rfl rfl ?_
        refine TL.bsN 3 [_] (encA (f i)) fc_l22_29_9 fc_z29 ⟨rfl, trivial⟩ rfl (lit1 rfl) rfl rfl (fun bk3 => ⟨trivial, ?_⟩)
        refine TL.appS 1 3 (d2 := #[f i]) rfl (rfl) rfl (fun _ => rfl) rfl rfl (row1 rfl) encA_one (by decide) fc_k22_29_9 (by have := kp_len (pr := goesA) (g := f) (j := i); simp; omega) rfl rfl (fun v4 => ⟨trivial, ?_⟩)
        refine TL.asg _ rfl rfl rfl ?_
        refine TL.done ?_
        refine TQ.inBlock ?_
        refine TQ.then ?_
        refine TC.region ?_
        refine TL.add (((i + 1 : Nat) : Int)) rfl rfl (wrN (by omega)) rfl rfl ?_
        refine TL.mv (.int _ _) rfl rfl rfl ?_
        refine TL.done ?_
        refine TQ.roundK ((i + 1, _)) ⟨(show i + 1 ≤ n by omega), (show n - (i + 1) < n - i by omega)⟩ ⟨rfl, rfl, trivial⟩ ⟨congrArg (fun z => some (ownA encA 9 29 _ z)) (kpA_F (by simp_all [goesA])), trivial⟩ (.cons rfl rfl (.cons rfl rfl (.cons rfl rfl (.cons rfl rfl trivial)))) (.cons rfl rfl trivial)
      · skip
        refine TL.done ?_
        refine TQ.then ?_
        refine TC.condF rfl ?_
        refine TC.skip ?_
        refine TQ.inBlock ?_
        refine TQ.then ?_
        refine TC.region ?_
        refine TL.add (((i + 1 : Nat) : Int)) rfl rfl (wrN (by omega)) rfl rfl ?_
        refine TL.mv (.int _ _) rfl rfl rfl ?_
        refine TL.done ?_
        refine TQ.roundK ((i + 1, _)) ⟨(show i + 1 ≤ n by omega), (show n - (i + 1) < n - i by omega)⟩ ⟨rfl, rfl, trivial⟩ ⟨congrArg (fun z => some (ownA encA 9 29 _ z)) (kpA_T (by simp_all [goesA])), trivial⟩ (.cons rfl rfl (.cons rfl rfl (.cons rfl rfl (.cons rfl rfl trivial)))) (.cons rfl rfl trivial)
    · skip
      refine TL.done ?_
      refine TQ.then ?_
      refine TC.seq ?_
      refine TC.condF rfl ?_
      refine TC.exit ?_
      refine TQ.thenExit ?_
      refine TQ.thenExit ?_
      refine TQ.blockHere ?_
      refine TQ.then ?_
      refine TC.seq ?_
      obtain rfl : n = i := by omega
      have hkl := kp_len (pr := goesA) (g := f) (j := n)
      refine TC.ownS 1 (sz := (kp goesA f n).length) (by simp) rfl (fun ae be ce hve hce hae => ?_)
      subst hve
      refine TC.region ?_
      refine TL.mv (.slice _ _ _) rfl rfl rfl ?_
      refine TL.call [0] [0, 5] (ended_ok ha (by omega) hA) ⟨rfl, trivial⟩ ⟨rfl, trivial⟩ fc_c11 rfl rfl rfl rfl ?_
      rintro v Bs ⟨ag, bg, cg, dg, rfl, hcg, hag, rfl, heg⟩
      refine ⟨rfl, trivial, ?_⟩
      obtain rfl : dg = (kp goesA f n).toArray := by rw [← Array.toArray_toList (xs := dg), heg]; rfl
      have hlg : (kp goesA f n).toArray.size = (kp goesA f n).length := by simp
      refine TL.asg (.slice _ _ _) rfl rfl rfl ?_
      refine TL.done ?_
      refine TQ.then ?_
      refine TC.seq ?_
      refine TC.seq ?_
      refine TC.region ?_
      refine TL.mv (.slice _ _ _) rfl rfl rfl ?_
      refine TL.lenS rfl fc_l22_29_9 rfl rfl ?_
      refine TL.mv (.slice _ _ _) rfl rfl rfl ?_
      refine TL.lenS rfl fc_l22_29_9 rfl rfl ?_
      refine TL.neqF rfl rfl (by omega) rfl rfl ?_
      refine TL.mv (.bool false) rfl rfl rfl ?_
      refine TL.mv (.slice _ _ _) rfl rfl rfl ?_
      refine TL.callD [0] [0] (open_ok ha (by omega) hA) ⟨rfl, trivial⟩ ⟨rfl, trivial⟩ fc_c12 rfl rfl rfl rfl rfl trivial ?_
      refine TL.mv (.slice _ _ _) rfl rfl rfl ?_
      refine TL.lenS rfl fc_l22_29_9 rfl rfl ?_
      refine TL.mv (.slice _ _ _) rfl rfl rfl ?_
      refine TL.lenS rfl fc_l22_29_9 rfl rfl ?_
      refine TL.sub _ rfl rfl (wr64 (by omega)) rfl rfl ?_
      refine TL.neqF rfl rfl (by unfold endL; omega) rfl rfl ?_
      refine TL.pickF (.bool false) rfl rfl rfl rfl ?_
      refine TL.done ?_
      refine TQ.then ?_
      refine TC.condF rfl ?_
      refine TC.skip ?_
      refine TQ.then ?_
      refine TC.seq ?_
      refine TC.seq ?_
      refine TC.region ?_
      refine TL.mv (.slice _ _ _) rfl rfl rfl ?_
      refine TL.lenS rfl fc_l22_29_9 rfl rfl ?_
      refine TL.mv (.int _ _) rfl rfl rfl ?_
      refine TL.done ?_
      refine TQ.then ?_
      refine TC.block ?_
      refine TC.loopK (X := Nat) [0, 3, 6, 52] [0, 1, 5] (fun i => [(53, .int .i64 ((i : Nat) : Int))]) (fun i => []) (fun i => True) (fun i => (kp goesA f n).length - i) (0) (by trivial) ⟨rfl, trivial⟩ trivial (fun i hI => ?_)
      refine TC.sub (env' := [(53, _), (0, _), (3, _), (6, _), (52, _)]) (L' := [(0, _), (1, _), (5, _)]) ⟨rfl, rfl, rfl, rfl, rfl, trivial⟩ ⟨rfl, rfl, rfl, trivial⟩ ?_
      refine TC.seq ?_
      refine TC.region ?_
      refine TL.lss rfl rfl rfl rfl (fun q3 => ?_) (fun q3 => ?_)
      · skip
        refine TL.done ?_
        refine TQ.then ?_
        refine TC.seq ?_
        refine TC.condT rfl ?_
        refine TC.skip ?_
        refine TQ.then ?_
        refine TC.seq ?_
        refine TC.block ?_
        refine TC.seq ?_
        refine TC.region ?_
        refine TL.mv (.int _ _) rfl rfl rfl ?_
        refine TL.asg (.int _ _) rfl rfl rfl ?_
        refine TL.done ?_
        refine TQ.then ?_
        refine TC.seq ?_
        refine TC.draw [(0, true), (1, true), (2, true), (3, true), (4, true), (5, true), (6, true), (7, true), (8, true)] [1, 5] fc_m (by kernel_rfl) ?_
        refine TL.mv (.slice _ _ _) rfl rfl rfl ?_
        refine TL.mv (.int _ _) rfl rfl rfl ?_
        refine TL.iaO rfl hag rfl fc_l22_29_9 (by omega) rfl rfl ?_
        refine TL.ldRx 5 [_, _, _, _, _, _, _, _, _] rfl rfl rowW_of (by omega) rfl fc_a29_9 rfl rfl ?_
        refine TL.mv (.slice _ _ _) rfl rfl rfl ?_
        refine TL.mv (.int _ _) rfl rfl rfl ?_
        refine TL.iaO rfl hae rfl fc_l22_29_9 (by omega) rfl rfl ?_
        refine TL.ldRx 1 [_, _, _, _, _, _, _, _, _] rfl rfl rowW_of (by omega) rfl fc_a29_9 rfl rfl ?_
        refine TL.neqA rfl rfl (eqA_run (kp goesA f n).toArray[i]! (kp goesA f n).toArray[i]!) fc_eg29 rfl rfl ?_
        rw [show (!(decide ((kp goesA f n).toArray[i]! = (kp goesA f n).toArray[i]!))) = false by simp]
        refine TL.done ?_
        refine TQ.then ?_
        refine TC.condF rfl ?_
        refine TC.skip ?_
        refine TQ.inBlock ?_
        refine TQ.then ?_
        refine TC.region ?_
        refine TL.add (((i + 1 : Nat) : Int)) rfl rfl (wrN (by omega)) rfl rfl ?_
        refine TL.mv (.int _ _) rfl rfl rfl ?_
        refine TL.done ?_
        refine TQ.roundK (i + 1) ⟨trivial, by omega⟩ ⟨rfl, trivial⟩ trivial (.cons rfl rfl (.cons rfl rfl (.cons rfl rfl (.cons rfl rfl trivial)))) (.cons rfl rfl (.cons rfl rfl (.cons rfl rfl trivial)))
      · skip
        refine TL.done ?_
        refine TQ.then ?_
        refine TC.seq ?_
        refine TC.condF rfl ?_
        refine TC.exit ?_
        refine TQ.thenExit ?_
        refine TQ.thenExit ?_
        refine TQ.blockHere ?_
        refine TQ.then ?_
        refine TC.seq ?_
        refine TC.seq ?_
        refine TC.region ?_
        refine TL.mv (.slice _ _ _) rfl rfl rfl ?_
        refine TL.callD [0] [0] (lright_ok ha (by omega) hA) ⟨rfl, trivial⟩ ⟨rfl, trivial⟩ fc_c8 rfl rfl rfl rfl rfl trivial ?_
        refine TL.cases rfl (fun q4 => ?_) (fun q4 => ?_)
        · skip
          refine TL.not true false rfl rfl rfl rfl ?_
          refine TL.done ?_
          refine TQ.then ?_
          refine TC.condF rfl ?_
          refine TC.skip ?_
          refine TQ.then ?_
          refine TC.seq ?_
          refine TC.region ?_
          refine TL.mv (.slice _ _ _) rfl rfl rfl ?_
          refine TL.call [0] [0, 6] (bypts_ok ha (by omega) hA) ⟨rfl, trivial⟩ ⟨rfl, trivial⟩ fc_c13 rfl rfl rfl rfl ?_
          rintro v Bs ⟨ap, bp, cp, dp, rfl, hcp, hap, rfl, hpp, hsp⟩
          refine ⟨rfl, trivial, ?_⟩
          have hlp : dp.size = (kp goesA f n).length := by have := hpp.length_eq; rw [Array.length_toList] at this; exact this
          obtain ⟨hpt1, hpt2, hpt3⟩ := parts_ok (by assumption) hpp hsp
          refine TL.asg (.slice _ _ _) rfl rfl rfl ?_
          refine TL.done ?_
          refine TQ.then ?_
          refine TC.seq ?_
          refine TC.seq ?_
          refine TC.region ?_
          refine TL.mv (.slice _ _ _) rfl rfl rfl ?_
          refine TL.lenS rfl fc_l22_29_9 rfl rfl ?_
          refine TL.mv (.slice _ _ _) rfl rfl rfl ?_
          refine TL.lenS rfl fc_l22_29_9 rfl rfl ?_
          refine TL.neqF rfl rfl (by omega) rfl rfl ?_
          refine TL.done ?_
          refine TQ.then ?_
          refine TC.condF rfl ?_
          refine TC.skip ?_
          refine TQ.then ?_
          refine TC.seq ?_
          refine TC.seq ?_
          refine TC.region ?_
          refine TL.mv (.slice _ _ _) rfl rfl rfl ?_
          refine TL.lenS rfl fc_l22_29_9 rfl rfl ?_
          refine TL.mv (.int _ _) rfl rfl rfl ?_
          refine TL.done ?_
          refine TQ.then ?_
          refine TC.block ?_
          refine TC.loopK (X := Nat) [3, 8, 77, 78] [0, 1, 5, 6] (fun i => [(79, .int .i64 ((i : Nat) : Int))]) (fun i => []) (fun i => True) (fun i => dp.size - i) (0) (by trivial) ⟨rfl, trivial⟩ trivial (fun i hI => ?_)
          refine TC.sub (env' := [(79, _), (3, _), (8, _), (77, _), (78, _)]) (L' := [(0, _), (1, _), (5, _), (6, _)]) ⟨rfl, rfl, rfl, rfl, rfl, trivial⟩ ⟨rfl, rfl, rfl, rfl, trivial⟩ ?_
          refine TC.seq ?_
          refine TC.region ?_
          refine TL.lss rfl rfl rfl rfl (fun q5 => ?_) (fun q5 => ?_)
          · skip
            refine TL.done ?_
            refine TQ.then ?_
            refine TC.seq ?_
            refine TC.condT rfl ?_
            refine TC.skip ?_
            refine TQ.then ?_
            refine TC.seq ?_
            refine TC.block ?_
            refine TC.seq ?_
            refine TC.region ?_
            refine TL.mv (.int _ _) rfl rfl rfl ?_
            refine TL.iaO rfl hap rfl fc_l22_29_9 (by omega) rfl rfl ?_
            refine TL.ldRx 6 [_, _, _, _, _, _, _, _, _] rfl rfl rowW_of (by omega) rfl fc_a29_9 rfl rfl ?_
            refine TL.alloc 7 (cs := #[.int .i64 0, .int .i64 0, .int .i64 0, .int .i64 0, .int .i64 0, .int .i64 0, .int .i64 0, .bool false, .int .i64 0]) fc_z29 rfl rfl rfl (fun _ => trivial) (fun bk7 => ?_)
            refine TL.asg (.int _ _) rfl rfl rfl ?_
            refine TL.stW 7 9 [_, _, _, _, _, _, _, _, _] rfl rfl rfl rfl rfl rfl fc_a29_9 rfl rfl trivial ?_
            refine TL.done ?_
            refine TQ.then ?_
            refine TC.seq ?_
            refine TC.region ?_
            refine TL.asg (.bool false) rfl rfl rfl ?_
            refine TL.done ?_
            refine TQ.then ?_
            refine TC.seq ?_
            refine TC.seq ?_
            refine TC.region ?_
            refine TL.mv (.slice _ _ _) rfl rfl rfl ?_
            refine TL.lenS rfl fc_l22_29_9 rfl rfl ?_
            refine TL.mv (.int _ _) rfl rfl rfl ?_
            refine TL.done ?_
            refine TQ.then ?_
            refine TC.block ?_
            refine TC.loopK (X := Nat × Bool) [3, 8, 9, 10, 77, 78, 79, 84, 85] [0, 1, 5, 6, 7] (fun ⟨k, fb⟩ => [(86, .int .i64 ((k : Nat) : Int)), (11, .bool fb)]) (fun ⟨k, fb⟩ => []) (fun ⟨k, fb⟩ => k ≤ (kp goesA f n).length ∧ ((∃ j, j < k ∧ dp[i]! = (kp goesA f n).toArray[j]!) → fb = true)) (fun ⟨k, fb⟩ => (kp goesA f n).length - k) ((0, false)) ⟨Nat.zero_le _, fun ⟨j, h, _⟩ => absurd h (Nat.not_lt_zero _)⟩ ⟨rfl, rfl, trivial⟩ trivial (fun y hI => ?_)
            obtain ⟨k, fb⟩ := y
            obtain ⟨hk, hF⟩ := hI
            replace hk : k ≤ (kp goesA f n).length := hk
            replace hF : (∃ j, j < k ∧ dp[i]! = (kp goesA f n).toArray[j]!) → fb = true := hF
            refine TC.sub (env' := [(86, _), (11, _), (3, _), (8, _), (9, _), (10, _), (77, _), (78, _), (79, _), (84, _), (85, _)]) (L' := [(0, _), (1, _), (5, _), (6, _), (7, _)]) ⟨rfl, rfl, rfl, rfl, rfl, rfl, rfl, rfl, rfl, rfl, rfl, trivial⟩ ⟨rfl, rfl, rfl, rfl, rfl, trivial⟩ ?_
            refine TC.seq ?_
            refine TC.region ?_
            refine TL.lss rfl rfl rfl rfl (fun q6 => ?_) (fun q6 => ?_)
            · skip
              refine TL.done ?_
              refine TQ.then ?_
              refine TC.seq ?_
              refine TC.condT rfl ?_
              refine TC.skip ?_
              refine TQ.then ?_
              refine TC.seq ?_
              refine TC.block ?_
              refine TC.seq ?_
              refine TC.region ?_
              refine TL.iaO rfl hae rfl fc_l22_29_9 (by omega) rfl rfl ?_
              refine TL.ldRx 1 [_, _, _, _, _, _, _, _, _] rfl rfl rowW_of (by omega) rfl fc_a29_9 rfl rfl ?_
              refine TL.alloc 8 (cs := #[.int .i64 0, .int .i64 0, .int .i64 0, .int .i64 0, .int .i64 0, .int .i64 0, .int .i64 0, .bool false, .int .i64 0]) fc_z29 rfl rfl rfl (fun _ => trivial) (fun bk8 => ?_)
              refine TL.stW 8 9 [_, _, _, _, _, _, _, _, _] rfl rfl rfl rfl rfl rfl fc_a29_9 rfl rfl trivial ?_
              refine TL.done ?_
              refine TQ.then ?_
              refine TC.region ?_
              refine TL.mv (.bool _) rfl rfl rfl ?_
              refine TL.cases rfl (fun q7 => ?_) (fun q7 => ?_)
              · skip
                refine TL.mv (.bool true) rfl rfl rfl ?_
                refine TL.off rfl rfl ?_
                refine TL.off rfl rfl ?_
                refine TL.off rfl rfl ?_
                refine TL.pickT (.bool true) rfl rfl rfl rfl ?_
                refine TL.asg (.bool true) rfl rfl rfl ?_
                refine TL.done ?_
                refine TQ.inBlock ?_
                refine TQ.then ?_
                refine TC.region ?_
                refine TL.add (((k + 1 : Nat) : Int)) rfl rfl (wrN (by omega)) rfl rfl ?_
                refine TL.mv (.int _ _) rfl rfl rfl ?_
                refine TL.done ?_
                refine TQ.roundK ((k + 1, _)) ⟨⟨(show k + 1 ≤ (kp goesA f n).length by omega), fun _ => rfl⟩, (show (kp goesA f n).length - (k + 1) < (kp goesA f n).length - k by omega)⟩ ⟨rfl, rfl, trivial⟩ trivial (.cons rfl rfl (.cons rfl rfl (.cons rfl rfl (.cons rfl rfl (.cons rfl rfl (.cons rfl rfl (.cons rfl rfl (.cons rfl rfl (.cons rfl rfl trivial))))))))) (.cons rfl rfl (.cons rfl rfl (.cons rfl rfl (.cons rfl rfl (.cons rfl rfl trivial)))))
              · skip
                refine TL.mv (.bool false) rfl rfl rfl ?_
                refine TL.ldA 7 9 [_, _, _, _, _, _, _, _, _] rfl rfl rfl fc_a29_9 rfl rfl ?_
                refine TL.ldA 8 9 [_, _, _, _, _, _, _, _, _] rfl rfl rfl fc_a29_9 rfl rfl ?_
                refine TL.eqlA rfl rfl (eqA_run dp[i]! (kp goesA f n).toArray[k]!) fc_eg29 rfl rfl ?_
                refine TL.pickF (.bool _) rfl rfl rfl rfl ?_
                refine TL.asg (.bool _) rfl rfl rfl ?_
                refine TL.done ?_
                refine TQ.inBlock ?_
                refine TQ.then ?_
                refine TC.region ?_
                refine TL.add (((k + 1 : Nat) : Int)) rfl rfl (wrN (by omega)) rfl rfl ?_
                refine TL.mv (.int _ _) rfl rfl rfl ?_
                refine TL.done ?_
                refine TQ.roundK ((k + 1, _)) ⟨⟨(show k + 1 ≤ (kp goesA f n).length by omega), fun ⟨j, hj, he⟩ => by rcases Nat.lt_or_ge j k with h | h; exact absurd (hF ⟨j, h, he⟩) (by simp_all); obtain rfl : j = k := (by omega); exact decide_eq_true he⟩, (show (kp goesA f n).length - (k + 1) < (kp goesA f n).length - k by omega)⟩ ⟨rfl, rfl, trivial⟩ trivial (.cons rfl rfl (.cons rfl rfl (.cons rfl rfl (.cons rfl rfl (.cons rfl rfl (.cons rfl rfl (.cons rfl rfl (.cons rfl rfl (.cons rfl rfl trivial))))))))) (.cons rfl rfl (.cons rfl rfl (.cons rfl rfl (.cons rfl rfl (.cons rfl rfl trivial)))))
            · skip
              refine TL.done ?_
              refine TQ.then ?_
              refine TC.seq ?_
              refine TC.condF rfl ?_
              refine TC.exit ?_
              refine TQ.thenExit ?_
              refine TQ.thenExit ?_
              refine TQ.blockHere ?_
              refine TQ.then ?_
              refine TC.seq ?_
              refine TC.seq ?_
              obtain rfl : fb = true := hF (by obtain ⟨j, hj, he⟩ := hpt1 i (by omega); exact ⟨j, by omega, he⟩)
              refine TC.draw [(0, true), (1, true), (2, true), (3, true), (4, true), (5, true), (6, true), (7, true), (8, true), (9, true), (10, true), (11, true), (12, true), (13, true), (14, true), (15, true), (16, true)] [6, 7] fc_m (by kernel_rfl) ?_
              refine TL.mv (.bool true) rfl rfl rfl ?_
              refine TL.not true false rfl rfl rfl rfl ?_
              refine TL.mv (.bool false) rfl rfl rfl ?_
              refine TL.mv (.int _ _) rfl rfl rfl ?_
              refine TL.gtr rfl rfl rfl rfl (fun q7 => ?_) (fun q7 => ?_)
              · skip
                refine TL.mv (.bool true) rfl rfl rfl ?_
                refine TL.mv (.slice _ _ _) rfl rfl rfl ?_
                refine TL.mv (.int _ _) rfl rfl rfl ?_
                refine TL.sub (((i - 1 : Nat) : Int)) rfl rfl (wrN (by omega)) rfl rfl ?_
                refine TL.iaO rfl hap rfl fc_l22_29_9 (by omega) rfl rfl ?_
                refine TL.fa 5 rfl fc_f29_3_5 rfl rfl ?_
                refine TL.ldRF 6 (.int _ _) rfl rfl rowW_of (by omega) (encA_ok _).1 rfl fc_s3 rfl rfl ?_
                refine TL.fa 5 rfl fc_f29_3_5 rfl rfl ?_
                refine TL.ld 7 (.int _ _) rfl rfl rfl fc_s3 rfl rfl ?_
                refine TL.geqF rfl rfl (hpt2 i (by omega) (by omega)) rfl rfl ?_
                refine TL.pickT (.bool false) rfl rfl rfl rfl ?_
                refine TL.pickF (.bool false) rfl rfl rfl rfl ?_
                refine TL.done ?_
                refine TQ.then ?_
                refine TC.condF rfl ?_
                refine TC.skip ?_
                refine TQ.then ?_
                refine TC.seq ?_
                refine TC.region ?_
                refine TL.mv (.slice _ _ _) rfl rfl rfl ?_
                refine TL.mv (.int _ _) rfl rfl rfl ?_
                refine TL.slHi rfl rfl fc_l22_29_9 (by omega) rfl rfl ?_
                refine TL.lenS rfl fc_l22_29_9 rfl rfl ?_
                refine TL.mv (.int _ _) rfl rfl rfl ?_
                refine TL.done ?_
                refine TQ.then ?_
                refine TC.block ?_
                refine TC.loopK (X := Nat) [3, 8, 10, 77, 78, 79, 116, 117] [0, 1, 5, 6, 7] (fun j => [(118, .int .i64 ((j : Nat) : Int))]) (fun j => []) (fun j => True) (fun j => i - j) (0) (by trivial) ⟨rfl, trivial⟩ trivial (fun j hI => ?_)
                refine TC.sub (env' := [(118, _), (3, _), (8, _), (10, _), (77, _), (78, _), (79, _), (116, _), (117, _)]) (L' := [(0, _), (1, _), (5, _), (6, _), (7, _)]) ⟨rfl, rfl, rfl, rfl, rfl, rfl, rfl, rfl, rfl, trivial⟩ ⟨rfl, rfl, rfl, rfl, rfl, trivial⟩ ?_
                refine TC.seq ?_
                refine TC.region ?_
                refine TL.lss rfl rfl rfl rfl (fun q8 => ?_) (fun q8 => ?_)
                · skip
                  refine TL.done ?_
                  refine TQ.then ?_
                  refine TC.seq ?_
                  refine TC.condT rfl ?_
                  refine TC.skip ?_
                  refine TQ.then ?_
                  refine TC.seq ?_
                  refine TC.block ?_
                  refine TC.seq ?_
                  refine TC.region ?_
                  refine TL.iaO rfl (fun h => slA_ok (len := dp.size) hap hcp (by omega)) rfl fc_l22_29_9 (by omega) rfl rfl ?_
                  refine TL.ldRx 6 [_, _, _, _, _, _, _, _, _] rfl rfl (rowW_of.take (m := i) (by omega)) (by omega) rfl fc_a29_9 rfl rfl ?_
                  refine TL.alloc 9 (cs := #[.int .i64 0, .int .i64 0, .int .i64 0, .int .i64 0, .int .i64 0, .int .i64 0, .int .i64 0, .bool false, .int .i64 0]) fc_z29 rfl rfl rfl (fun _ => trivial) (fun bk9 => ?_)
                  refine TL.stW 9 9 [_, _, _, _, _, _, _, _, _] rfl rfl rfl rfl rfl rfl fc_a29_9 rfl rfl trivial ?_
                  refine TL.done ?_
                  refine TQ.then ?_
                  refine TC.seq ?_
                  refine TC.region ?_
                  refine TL.fa 6 rfl fc_f29_4_6 rfl rfl ?_
                  refine TL.ld 7 (.int _ _) rfl rfl rfl fc_s3 rfl rfl ?_
                  refine TL.fa 4 rfl fc_f29_2_4 rfl rfl ?_
                  refine TL.ld 9 (.int _ _) rfl rfl rfl fc_s3 rfl rfl ?_
                  refine TL.lssF rfl rfl (hpt3 i j (by omega) (by omega)) rfl rfl ?_
                  refine TL.done ?_
                  refine TQ.then ?_
                  refine TC.condF rfl ?_
                  refine TC.skip ?_
                  refine TQ.inBlock ?_
                  refine TQ.then ?_
                  refine TC.region ?_
                  refine TL.add (((j + 1 : Nat) : Int)) rfl rfl (wrN (by omega)) rfl rfl ?_
                  refine TL.mv (.int _ _) rfl rfl rfl ?_
                  refine TL.done ?_
                  refine TQ.roundK (j + 1) ⟨trivial, by omega⟩ ⟨rfl, trivial⟩ trivial (.cons rfl rfl (.cons rfl rfl (.cons rfl rfl (.cons rfl rfl (.cons rfl rfl (.cons rfl rfl (.cons rfl rfl (.cons rfl rfl trivial)))))))) (.cons rfl rfl (.cons rfl rfl (.cons rfl rfl (.cons rfl rfl (.cons rfl rfl trivial)))))
                · skip
                  refine TL.done ?_
                  refine TQ.then ?_
                  refine TC.seq ?_
                  refine TC.condF rfl ?_
                  refine TC.exit ?_
                  refine TQ.thenExit ?_
                  refine TQ.thenExit ?_
                  refine TQ.blockHere ?_
                  refine TQ.inBlock ?_
                  refine TQ.then ?_
                  refine TC.region ?_
                  refine TL.add (((i + 1 : Nat) : Int)) rfl rfl (wrN (by omega)) rfl rfl ?_
                  refine TL.mv (.int _ _) rfl rfl rfl ?_
                  refine TL.done ?_
                  refine TQ.roundK (i + 1) ⟨trivial, by omega⟩ ⟨rfl, trivial⟩ trivial (.cons rfl rfl (.cons rfl rfl (.cons rfl rfl (.cons rfl rfl trivial)))) (.cons rfl rfl (.cons rfl rfl (.cons rfl rfl (.cons rfl rfl trivial))))
              · skip
                refine TL.mv (.bool false) rfl rfl rfl ?_
                refine TL.off rfl rfl ?_
                refine TL.off rfl rfl ?_
                refine TL.off rfl rfl ?_
                refine TL.off rfl rfl ?_
                refine TL.off rfl rfl ?_
                refine TL.off rfl rfl ?_
                refine TL.off rfl rfl ?_
                refine TL.off rfl rfl ?_
                refine TL.off rfl rfl ?_
                refine TL.pickF (.bool false) rfl rfl rfl rfl ?_
                refine TL.pickF (.bool false) rfl rfl rfl rfl ?_
                refine TL.done ?_
                refine TQ.then ?_
                refine TC.condF rfl ?_
                refine TC.skip ?_
                refine TQ.then ?_
                refine TC.seq ?_
                refine TC.region ?_
                refine TL.mv (.slice _ _ _) rfl rfl rfl ?_
                refine TL.mv (.int _ _) rfl rfl rfl ?_
                refine TL.slHi rfl rfl fc_l22_29_9 (by omega) rfl rfl ?_
                refine TL.lenS rfl fc_l22_29_9 rfl rfl ?_
                refine TL.mv (.int _ _) rfl rfl rfl ?_
                refine TL.done ?_
                refine TQ.then ?_
                refine TC.block ?_
                refine TC.loopK (X := Nat) [3, 8, 10, 77, 78, 79, 116, 117] [0, 1, 5, 6, 7] (fun j => [(118, .int .i64 ((j : Nat) : Int))]) (fun j => []) (fun j => True) (fun j => i - j) (0) (by trivial) ⟨rfl, trivial⟩ trivial (fun j hI => ?_)
                refine TC.sub (env' := [(118, _), (3, _), (8, _), (10, _), (77, _), (78, _), (79, _), (116, _), (117, _)]) (L' := [(0, _), (1, _), (5, _), (6, _), (7, _)]) ⟨rfl, rfl, rfl, rfl, rfl, rfl, rfl, rfl, rfl, trivial⟩ ⟨rfl, rfl, rfl, rfl, rfl, trivial⟩ ?_
                refine TC.seq ?_
                refine TC.region ?_
                refine TL.lss rfl rfl rfl rfl (fun q8 => ?_) (fun q8 => ?_)
                · skip
                  refine TL.done ?_
                  refine TQ.then ?_
                  refine TC.seq ?_
                  refine TC.condT rfl ?_
                  refine TC.skip ?_
                  refine TQ.then ?_
                  refine TC.seq ?_
                  refine TC.block ?_
                  refine TC.seq ?_
                  refine TC.region ?_
                  refine TL.iaO rfl (fun h => slA_ok (len := dp.size) hap hcp (by omega)) rfl fc_l22_29_9 (by omega) rfl rfl ?_
                  refine TL.ldRx 6 [_, _, _, _, _, _, _, _, _] rfl rfl (rowW_of.take (m := i) (by omega)) (by omega) rfl fc_a29_9 rfl rfl ?_
                  refine TL.alloc 10 (cs := #[.int .i64 0, .int .i64 0, .int .i64 0, .int .i64 0, .int .i64 0, .int .i64 0, .int .i64 0, .bool false, .int .i64 0]) fc_z29 rfl rfl rfl (fun _ => trivial) (fun bk10 => ?_)
                  refine TL.stW 10 9 [_, _, _, _, _, _, _, _, _] rfl rfl rfl rfl rfl rfl fc_a29_9 rfl rfl trivial ?_
                  refine TL.done ?_
                  refine TQ.then ?_
                  refine TC.seq ?_
                  refine TC.region ?_
                  refine TL.fa 6 rfl fc_f29_4_6 rfl rfl ?_
                  refine TL.ld 7 (.int _ _) rfl rfl rfl fc_s3 rfl rfl ?_
                  refine TL.fa 4 rfl fc_f29_2_4 rfl rfl ?_
                  refine TL.ld 10 (.int _ _) rfl rfl rfl fc_s3 rfl rfl ?_
                  refine TL.lssF rfl rfl (hpt3 i j (by omega) (by omega)) rfl rfl ?_
                  refine TL.done ?_
                  refine TQ.then ?_
                  refine TC.condF rfl ?_
                  refine TC.skip ?_
                  refine TQ.inBlock ?_
                  refine TQ.then ?_
                  refine TC.region ?_
                  refine TL.add (((j + 1 : Nat) : Int)) rfl rfl (wrN (by omega)) rfl rfl ?_
                  refine TL.mv (.int _ _) rfl rfl rfl ?_
                  refine TL.done ?_
                  refine TQ.roundK (j + 1) ⟨trivial, by omega⟩ ⟨rfl, trivial⟩ trivial (.cons rfl rfl (.cons rfl rfl (.cons rfl rfl (.cons rfl rfl (.cons rfl rfl (.cons rfl rfl (.cons rfl rfl (.cons rfl rfl trivial)))))))) (.cons rfl rfl (.cons rfl rfl (.cons rfl rfl (.cons rfl rfl (.cons rfl rfl trivial)))))
                · skip
                  refine TL.done ?_
                  refine TQ.then ?_
                  refine TC.seq ?_
                  refine TC.condF rfl ?_
                  refine TC.exit ?_
                  refine TQ.thenExit ?_
                  refine TQ.thenExit ?_
                  refine TQ.blockHere ?_
                  refine TQ.inBlock ?_
                  refine TQ.then ?_
                  refine TC.region ?_
                  refine TL.add (((i + 1 : Nat) : Int)) rfl rfl (wrN (by omega)) rfl rfl ?_
                  refine TL.mv (.int _ _) rfl rfl rfl ?_
                  refine TL.done ?_
                  refine TQ.roundK (i + 1) ⟨trivial, by omega⟩ ⟨rfl, trivial⟩ trivial (.cons rfl rfl (.cons rfl rfl (.cons rfl rfl (.cons rfl rfl trivial)))) (.cons rfl rfl (.cons rfl rfl (.cons rfl rfl (.cons rfl rfl trivial))))
          · skip
            refine TL.done ?_
            refine TQ.then ?_
            refine TC.seq ?_
            refine TC.condF rfl ?_
            refine TC.exit ?_
            refine TQ.thenExit ?_
            refine TQ.thenExit ?_
            refine TQ.blockHere ?_
            refine TQ.then ?_
            refine TC.seq ?_
            refine TC.region ?_
            refine TL.callD [] [] awake_ok trivial trivial fc_c9 rfl rfl rfl rfl rfl trivial ?_
            refine TL.asg (.bool true) rfl rfl rfl ?_
            refine TL.done ?_
            refine TQ.then ?_
            refine TC.ret ?_
            refine FQ.ret1 (v := (.bool true)) (Bs := [A]) [0] rfl rfl rfl ⟨rfl, trivial⟩ ?_
            exact ⟨rfl, rfl⟩
        · skip
          refine TL.not false true rfl rfl rfl rfl ?_
          refine TL.done ?_
          refine TQ.then ?_
          refine TC.condT rfl ?_
          refine TC.seq ?_
          refine TC.region ?_
          refine TL.callD [] [] awake_ok trivial trivial fc_c9 rfl rfl rfl rfl rfl trivial ?_
          refine TL.asg (.bool true) rfl rfl rfl ?_
          refine TL.done ?_
          refine TQ.then ?_
          refine TC.ret ?_
          refine TQ.thenRet ?_
          refine FQ.ret1 (v := (.bool true)) (Bs := [A]) [0] rfl rfl rfl ⟨rfl, trivial⟩ ?_
          exact ⟨rfl, rfl⟩

set_option maxHeartbeats 4000000 in
theorem width_law {a : Option Addr} {b off n c : Nat} {A : Assn} {f : Nat → Ans} (ha : 0 < n → a = some ⟨b, off, none⟩) (hA : RowOf A encA 9 b off n f) : FnD Try.prog 5 [.slice a n c] [A] (.bool true) [A] := by
  refine Fn.enter (Try.func5) rfl rfl (fun w0 R => ?_)
  refine TC.seq ?_
  refine TC.region ?_
  refine TL.asg (.bool false) rfl rfl rfl ?_
  refine TL.done ?_
  refine TQ.then ?_
  refine TC.seq ?_
  refine TC.seq ?_
  refine TC.region ?_
  refine TL.mv (.slice _ _ _) rfl rfl rfl ?_
  refine TL.lenS rfl fc_l22_29_9 rfl rfl ?_
  refine TL.gtr rfl rfl rfl rfl (fun q1 => ?_) (fun q1 => ?_)
  · skip
    refine TL.mv (.bool true) rfl rfl rfl ?_
    refine TL.off rfl rfl ?_
    refine TL.off rfl rfl ?_
    refine TL.off rfl rfl ?_
    refine TL.pickT (.bool true) rfl rfl rfl rfl ?_
    refine TL.done ?_
    refine TQ.then ?_
    refine TC.condT rfl ?_
    refine TC.seq ?_
    refine TC.region ?_
    refine TL.callD [] [] awake_ok trivial trivial fc_c9 rfl rfl rfl rfl rfl trivial ?_
    refine TL.asg (.bool true) rfl rfl rfl ?_
    refine TL.done ?_
    refine TQ.then ?_
    refine TC.ret ?_
    refine TQ.thenRet ?_
    refine FQ.ret1 (v := (.bool true)) (Bs := [A]) [0] rfl rfl rfl ⟨rfl, trivial⟩ ?_
    exact ⟨rfl, rfl⟩
  · skip
    refine TL.mv (.bool false) rfl rfl rfl ?_
    refine TL.mv (.slice _ _ _) rfl rfl rfl ?_
    refine TL.callD [0] [0] (lright_ok ha (by omega) hA) ⟨rfl, trivial⟩ ⟨rfl, trivial⟩ fc_c8 rfl rfl rfl rfl rfl trivial ?_
    refine TL.cases rfl (fun q2 => ?_) (fun q2 => ?_)
    · skip
      refine TL.not true false rfl rfl rfl rfl ?_
      refine TL.pickF (.bool false) rfl rfl rfl rfl ?_
      refine TL.done ?_
      refine TQ.then ?_
      refine TC.condF rfl ?_
      refine TC.skip ?_
      refine TQ.then ?_
      refine TC.seq ?_
      refine TC.region ?_
      refine TL.asg (.int _ _) rfl rfl rfl ?_
      refine TL.done ?_
      refine TQ.then ?_
      refine TC.seq ?_
      refine TC.region ?_
      refine TL.mkM 1 rfl rfl (fun bk1 => ⟨trivial, ?_⟩)
      refine TL.asg (.map _) rfl rfl rfl ?_
      refine TL.done ?_
      refine TQ.then ?_
      refine TC.seq ?_
      refine TC.seq ?_
      refine TC.region ?_
      refine TL.mv (.slice _ _ _) rfl rfl rfl ?_
      refine TL.lenS rfl fc_l22_29_9 rfl rfl ?_
      refine TL.mv (.int _ _) rfl rfl rfl ?_
      refine TL.done ?_
      refine TQ.then ?_
      refine TC.block ?_
      refine TC.loopK (X := Nat) [0, 2, 4, 22, 23] [0] (fun i => [(24, .int .i64 ((i : Nat) : Int)), (3, .int .i64 (mostA n f i))]) (fun i => [(1, mapI bk1 (keysA f i))]) (fun i => i ≤ n) (fun i => n - i) (0) (Nat.zero_le _) ⟨rfl, rfl, trivial⟩ ⟨rfl, trivial⟩ (fun i hI => ?_)
      have hi := hI
      refine TC.sub (env' := [(24, _), (3, _), (0, _), (2, _), (4, _), (22, _), (23, _)]) (L' := [(1, _), (0, _)]) ⟨rfl, rfl, rfl, rfl, rfl, rfl, rfl, trivial⟩ ⟨rfl, rfl, trivial⟩ ?_
      refine TC.seq ?_
      refine TC.region ?_
      refine TL.lss rfl rfl rfl rfl (fun q3 => ?_) (fun q3 => ?_)
      · skip
        refine TL.done ?_
        refine TQ.then ?_
        refine TC.seq ?_
        refine TC.condT rfl ?_
        refine TC.skip ?_
        refine TQ.then ?_
        refine TC.seq ?_
        refine TC.block ?_
        refine TC.seq ?_
        refine TC.region ?_
        refine TL.iaO rfl ha rfl fc_l22_29_9 (by omega) rfl rfl ?_
        refine TL.ldRx 0 [_, _, _, _, _, _, _, _, _] rfl rfl hA (by omega) rfl fc_a29_9 rfl rfl ?_
        refine TL.alloc 2 (cs := #[.int .i64 0, .int .i64 0, .int .i64 0, .int .i64 0, .int .i64 0, .int .i64 0, .int .i64 0, .bool false, .int .i64 0]) fc_z29 rfl rfl rfl (fun _ => trivial) (fun bk2 => ?_)
        refine TL.stW 2 9 [_, _, _, _, _, _, _, _, _] rfl rfl rfl rfl rfl rfl fc_a29_9 rfl rfl trivial ?_
        refine TL.done ?_
        refine TQ.then ?_
        refine TC.seq ?_
        refine TC.region ?_
        refine TL.mv (.map _) rfl rfl rfl ?_
        refine TL.fa 3 rfl fc_f29_1_3 rfl rfl ?_
        refine TL.ld 2 (.int _ _) rfl rfl rfl fc_s3 rfl rfl ?_
        refine TL.mu 1 rfl rfl rfl rfl fc_j33 rfl rfl trivial ?_
        refine TL.done ?_
        refine TQ.then ?_
        refine TC.seq ?_
        refine TC.region ?_
        refine TL.fa 4 rfl fc_f29_2_4 rfl rfl ?_
        refine TL.ld 2 (.int _ _) rfl rfl rfl fc_s3 rfl rfl ?_
        refine TL.fa 6 rfl fc_f29_4_6 rfl rfl ?_
        refine TL.ld 2 (.int _ _) rfl rfl rfl fc_s3 rfl rfl ?_
        refine TL.bsN 3 [_, _] ([.int .i64 (f i).beg, .int .i64 (f i).fin]) fc_l34_3_1 fc_z3 ⟨rfl, rfl, trivial⟩ rfl (lit2) rfl rfl (fun bk3 => ⟨trivial, ?_⟩)
        refine TL.lenS rfl fc_l34_3_1 rfl rfl ?_
        refine TL.mv (.int _ _) rfl rfl rfl ?_
        refine TL.done ?_
        refine TQ.then ?_
        refine TC.block ?_
        refine TC.loopK (X := Nat) [0, 2, 4, 22, 23, 24, 35, 36] [0, 1, 2, 3] (fun q => [(37, .int .i64 ((q : Nat) : Int)), (3, .int .i64 (mostB n f i q))]) (fun q => []) (fun q => q ≤ 2) (fun q => 2 - q) (0) (Nat.zero_le _) ⟨rfl, rfl, trivial⟩ trivial (fun q hI => ?_)
        have hq := hI
        refine TC.sub (env' := [(37, _), (3, _), (0, _), (2, _), (4, _), (22, _), (23, _), (24, _), (35, _), (36, _)]) (L' := [(0, _), (1, _), (2, _), (3, _)]) ⟨rfl, rfl, rfl, rfl, rfl, rfl, rfl, rfl, rfl, rfl, trivial⟩ ⟨rfl, rfl, rfl, rfl, trivial⟩ ?_
        refine TC.seq ?_
        refine TC.region ?_
        refine TL.lss rfl rfl rfl rfl (fun q4 => ?_) (fun q4 => ?_)
        · skip
          refine TL.done ?_
          refine TQ.then ?_
          refine TC.seq ?_
          refine TC.condT rfl ?_
          refine TC.skip ?_
          refine TQ.then ?_
          refine TC.seq ?_
          refine TC.block ?_
          refine TC.seq ?_
          refine TC.region ?_
          refine TL.iaO rfl (fun _ => rfl) rfl fc_l34_3_1 (by omega) rfl rfl ?_
          refine TL.ldRS 3 (.int _ _) rfl rfl row2 (by omega) rfl fc_s3 rfl rfl ?_
          refine TL.asg (.int _ _) rfl rfl rfl ?_
          refine TL.done ?_
          refine TQ.then ?_
          refine TC.seq ?_
          refine TC.region ?_
          refine TL.asg (.int _ _) rfl rfl rfl ?_
          refine TL.done ?_
          refine TQ.then ?_
          refine TC.seq ?_
          refine TC.seq ?_
          refine TC.region ?_
          refine TL.mv (.slice _ _ _) rfl rfl rfl ?_
          refine TL.lenS rfl fc_l22_29_9 rfl rfl ?_
          refine TL.mv (.int _ _) rfl rfl rfl ?_
          refine TL.done ?_
          refine TQ.then ?_
          refine TC.block ?_
          refine TC.loopK (X := Nat) [0, 2, 3, 4, 8, 22, 23, 24, 35, 36, 37, 41, 42] [0, 1, 2, 3] (fun k => [(43, .int .i64 ((k : Nat) : Int)), (9, .int .i64 (cntA f ((#[(f i).beg, (f i).fin] : Array Int)[q]!) k))]) (fun k => []) (fun k => k ≤ n) (fun k => n - k) (0) (Nat.zero_le _) ⟨rfl, rfl, trivial⟩ trivial (fun k hI => ?_)
          have hk := hI
          refine TC.sub (env' := [(43, _), (9, _), (0, _), (2, _), (3, _), (4, _), (8, _), (22, _), (23, _), (24, _), (35, _), (36, _), (37, _), (41, _), (42, _)]) (L' := [(0, _), (1, _), (2, _), (3, _)]) ⟨rfl, rfl, rfl, rfl, rfl, rfl, rfl, rfl, rfl, rfl, rfl, rfl, rfl, rfl, rfl, trivial⟩ ⟨rfl, rfl, rfl, rfl, trivial⟩ ?_
          refine TC.seq ?_
          refine TC.region ?_
          refine TL.lss rfl rfl rfl rfl (fun q5 => ?_) (fun q5 => ?_)
          · skip
            refine TL.done ?_
            refine TQ.then ?_
            refine TC.seq ?_
            refine TC.condT rfl ?_
            refine TC.skip ?_
            refine TQ.then ?_
            refine TC.seq ?_
            refine TC.block ?_
            refine TC.seq ?_
            refine TC.region ?_
            refine TL.iaO rfl ha rfl fc_l22_29_9 (by omega) rfl rfl ?_
            refine TL.ldRx 0 [_, _, _, _, _, _, _, _, _] rfl rfl hA (by omega) rfl fc_a29_9 rfl rfl ?_
            refine TL.alloc 4 (cs := #[.int .i64 0, .int .i64 0, .int .i64 0, .int .i64 0, .int .i64 0, .int .i64 0, .int .i64 0, .bool false, .int .i64 0]) fc_z29 rfl rfl rfl (fun _ => trivial) (fun bk4 => ?_)
            refine TL.stW 4 9 [_, _, _, _, _, _, _, _, _] rfl rfl rfl rfl rfl rfl fc_a29_9 rfl rfl trivial ?_
            refine TL.done ?_
            refine TQ.then ?_
            refine TC.seq ?_
            refine TC.region ?_
            refine TL.mv (.int _ _) rfl rfl rfl ?_
            refine TL.gtr rfl rfl rfl rfl (fun q6 => ?_) (fun q6 => ?_)
            · skip
              refine TL.mv (.bool true) rfl rfl rfl ?_
              refine TL.fa 4 rfl fc_f29_2_4 rfl rfl ?_
              refine TL.ld 4 (.int _ _) rfl rfl rfl fc_s3 rfl rfl ?_
              refine TL.mv (.int _ _) rfl rfl rfl ?_
              refine TL.leq rfl rfl rfl rfl (fun q7 => ?_) (fun q7 => ?_)
              · skip
                refine TL.pickT (.bool true) rfl rfl rfl rfl ?_
                refine TL.mv (.bool true) rfl rfl rfl ?_
                refine TL.fa 6 rfl fc_f29_4_6 rfl rfl ?_
                refine TL.ld 4 (.int _ _) rfl rfl rfl fc_s3 rfl rfl ?_
                refine TL.eql rfl rfl rfl rfl (fun q8 => ?_) (fun q8 => ?_)
                · skip
                  refine TL.mv (.bool true) rfl rfl rfl ?_
                  refine TL.off rfl rfl ?_
                  refine TL.off rfl rfl ?_
                  refine TL.off rfl rfl ?_
                  refine TL.off rfl rfl ?_
                  refine TL.pickT (.bool true) rfl rfl rfl rfl ?_
                  refine TL.pickT (.bool true) rfl rfl rfl rfl ?_
                  refine TL.done ?_
                  refine TQ.then ?_
                  refine TC.condT rfl ?_
                  refine TC.region ?_
                  have hbd := cntA_bd f ((#[(f i).beg, (f i).fin] : Array Int)[q]!) k
                  refine TL.mv (.int _ _) rfl rfl rfl ?_
                  refine TL.add _ rfl rfl (wr64 (by omega)) rfl rfl ?_
                  refine TL.asg (.int _ _) rfl rfl rfl ?_
                  refine TL.done ?_
                  refine TQ.inBlock ?_
                  refine TQ.then ?_
                  refine TC.region ?_
                  refine TL.add (((k + 1 : Nat) : Int)) rfl rfl (wrN (by omega)) rfl rfl ?_
                  refine TL.mv (.int _ _) rfl rfl rfl ?_
                  refine TL.done ?_
                  refine TQ.roundK (k + 1) ⟨by omega, by omega⟩ ⟨rfl, (by generalize (#[(f i).beg, (f i).fin] : Array Int)[q]! = at0 at *; first | exact congrArg (fun z => some (Value.int IntKind.i64 z)) (cntA_T (by clear hI hk; first | (simp_all [atA]; done) | (simp_all [atA] <;> omega))) | exact congrArg (fun z => some (Value.int IntKind.i64 z)) (cntA_F (by clear hI hk; first | (simp_all [atA]; done) | (simp_all [atA] <;> omega)))), trivial⟩ trivial (.cons rfl rfl (.cons rfl rfl (.cons rfl rfl (.cons rfl rfl (.cons rfl rfl (.cons rfl rfl (.cons rfl rfl (.cons rfl rfl (.cons rfl rfl (.cons rfl rfl (.cons rfl rfl (.cons rfl rfl (.cons rfl rfl trivial))))))))))))) (.cons rfl rfl (.cons rfl rfl (.cons rfl rfl (.cons rfl rfl trivial))))
                · skip
                  refine TL.mv (.bool false) rfl rfl rfl ?_
                  refine TL.fa 6 rfl fc_f29_4_6 rfl rfl ?_
                  refine TL.ld 4 (.int _ _) rfl rfl rfl fc_s3 rfl rfl ?_
                  refine TL.mv (.int _ _) rfl rfl rfl ?_
                  refine TL.geq rfl rfl rfl rfl (fun q9 => ?_) (fun q9 => ?_)
                  · skip
                    refine TL.pickF (.bool true) rfl rfl rfl rfl ?_
                    refine TL.pickT (.bool true) rfl rfl rfl rfl ?_
                    refine TL.done ?_
                    refine TQ.then ?_
                    refine TC.condT rfl ?_
                    refine TC.region ?_
                    have hbd := cntA_bd f ((#[(f i).beg, (f i).fin] : Array Int)[q]!) k
                    refine TL.mv (.int _ _) rfl rfl rfl ?_
                    refine TL.add _ rfl rfl (wr64 (by omega)) rfl rfl ?_
                    refine TL.asg (.int _ _) rfl rfl rfl ?_
                    refine TL.done ?_
                    refine TQ.inBlock ?_
                    refine TQ.then ?_
                    refine TC.region ?_
                    refine TL.add (((k + 1 : Nat) : Int)) rfl rfl (wrN (by omega)) rfl rfl ?_
                    refine TL.mv (.int _ _) rfl rfl rfl ?_
                    refine TL.done ?_
                    refine TQ.roundK (k + 1) ⟨by omega, by omega⟩ ⟨rfl, (by generalize (#[(f i).beg, (f i).fin] : Array Int)[q]! = at0 at *; first | exact congrArg (fun z => some (Value.int IntKind.i64 z)) (cntA_T (by clear hI hk; first | (simp_all [atA]; done) | (simp_all [atA] <;> omega))) | exact congrArg (fun z => some (Value.int IntKind.i64 z)) (cntA_F (by clear hI hk; first | (simp_all [atA]; done) | (simp_all [atA] <;> omega)))), trivial⟩ trivial (.cons rfl rfl (.cons rfl rfl (.cons rfl rfl (.cons rfl rfl (.cons rfl rfl (.cons rfl rfl (.cons rfl rfl (.cons rfl rfl (.cons rfl rfl (.cons rfl rfl (.cons rfl rfl (.cons rfl rfl (.cons rfl rfl trivial))))))))))))) (.cons rfl rfl (.cons rfl rfl (.cons rfl rfl (.cons rfl rfl trivial))))
                  · skip
                    refine TL.pickF (.bool false) rfl rfl rfl rfl ?_
                    refine TL.pickT (.bool false) rfl rfl rfl rfl ?_
                    refine TL.done ?_
                    refine TQ.then ?_
                    refine TC.condF rfl ?_
                    refine TC.skip ?_
                    refine TQ.inBlock ?_
                    refine TQ.then ?_
                    refine TC.region ?_
                    refine TL.add (((k + 1 : Nat) : Int)) rfl rfl (wrN (by omega)) rfl rfl ?_
                    refine TL.mv (.int _ _) rfl rfl rfl ?_
                    refine TL.done ?_
                    refine TQ.roundK (k + 1) ⟨by omega, by omega⟩ ⟨rfl, (by generalize (#[(f i).beg, (f i).fin] : Array Int)[q]! = at0 at *; first | exact congrArg (fun z => some (Value.int IntKind.i64 z)) (cntA_T (by clear hI hk; first | (simp_all [atA]; done) | (simp_all [atA] <;> omega))) | exact congrArg (fun z => some (Value.int IntKind.i64 z)) (cntA_F (by clear hI hk; first | (simp_all [atA]; done) | (simp_all [atA] <;> omega)))), trivial⟩ trivial (.cons rfl rfl (.cons rfl rfl (.cons rfl rfl (.cons rfl rfl (.cons rfl rfl (.cons rfl rfl (.cons rfl rfl (.cons rfl rfl (.cons rfl rfl (.cons rfl rfl (.cons rfl rfl (.cons rfl rfl (.cons rfl rfl trivial))))))))))))) (.cons rfl rfl (.cons rfl rfl (.cons rfl rfl (.cons rfl rfl trivial))))
              · skip
                refine TL.pickT (.bool false) rfl rfl rfl rfl ?_
                refine TL.mv (.bool false) rfl rfl rfl ?_
                refine TL.off rfl rfl ?_
                refine TL.off rfl rfl ?_
                refine TL.off rfl rfl ?_
                refine TL.off rfl rfl ?_
                refine TL.off rfl rfl ?_
                refine TL.off rfl rfl ?_
                refine TL.off rfl rfl ?_
                refine TL.off rfl rfl ?_
                refine TL.off rfl rfl ?_
                refine TL.pickF (.bool false) rfl rfl rfl rfl ?_
                refine TL.done ?_
                refine TQ.then ?_
                refine TC.condF rfl ?_
                refine TC.skip ?_
                refine TQ.inBlock ?_
                refine TQ.then ?_
                refine TC.region ?_
                refine TL.add (((k + 1 : Nat) : Int)) rfl rfl (wrN (by omega)) rfl rfl ?_
                refine TL.mv (.int _ _) rfl rfl rfl ?_
                refine TL.done ?_
                refine TQ.roundK (k + 1) ⟨by omega, by omega⟩ ⟨rfl, (by generalize (#[(f i).beg, (f i).fin] : Array Int)[q]! = at0 at *; first | exact congrArg (fun z => some (Value.int IntKind.i64 z)) (cntA_T (by clear hI hk; first | (simp_all [atA]; done) | (simp_all [atA] <;> omega))) | exact congrArg (fun z => some (Value.int IntKind.i64 z)) (cntA_F (by clear hI hk; first | (simp_all [atA]; done) | (simp_all [atA] <;> omega)))), trivial⟩ trivial (.cons rfl rfl (.cons rfl rfl (.cons rfl rfl (.cons rfl rfl (.cons rfl rfl (.cons rfl rfl (.cons rfl rfl (.cons rfl rfl (.cons rfl rfl (.cons rfl rfl (.cons rfl rfl (.cons rfl rfl (.cons rfl rfl trivial))))))))))))) (.cons rfl rfl (.cons rfl rfl (.cons rfl rfl (.cons rfl rfl trivial))))
            · skip
              refine TL.mv (.bool false) rfl rfl rfl ?_
              refine TL.off rfl rfl ?_
              refine TL.off rfl rfl ?_
              refine TL.off rfl rfl ?_
              refine TL.off rfl rfl ?_
              refine TL.pickF (.bool false) rfl rfl rfl rfl ?_
              refine TL.mv (.bool false) rfl rfl rfl ?_
              refine TL.off rfl rfl ?_
              refine TL.off rfl rfl ?_
              refine TL.off rfl rfl ?_
              refine TL.off rfl rfl ?_
              refine TL.off rfl rfl ?_
              refine TL.off rfl rfl ?_
              refine TL.off rfl rfl ?_
              refine TL.off rfl rfl ?_
              refine TL.off rfl rfl ?_
              refine TL.pickF (.bool false) rfl rfl rfl rfl ?_
              refine TL.done ?_
              refine TQ.then ?_
              refine TC.condF rfl ?_
              refine TC.skip ?_
              refine TQ.inBlock ?_
              refine TQ.then ?_
              refine TC.region ?_
              refine TL.add (((k + 1 : Nat) : Int)) rfl rfl (wrN (by omega)) rfl rfl ?_
              refine TL.mv (.int _ _) rfl rfl rfl ?_
              refine TL.done ?_
              refine TQ.roundK (k + 1) ⟨by omega, by omega⟩ ⟨rfl, (by generalize (#[(f i).beg, (f i).fin] : Array Int)[q]! = at0 at *; first | exact congrArg (fun z => some (Value.int IntKind.i64 z)) (cntA_T (by clear hI hk; first | (simp_all [atA]; done) | (simp_all [atA] <;> omega))) | exact congrArg (fun z => some (Value.int IntKind.i64 z)) (cntA_F (by clear hI hk; first | (simp_all [atA]; done) | (simp_all [atA] <;> omega)))), trivial⟩ trivial (.cons rfl rfl (.cons rfl rfl (.cons rfl rfl (.cons rfl rfl (.cons rfl rfl (.cons rfl rfl (.cons rfl rfl (.cons rfl rfl (.cons rfl rfl (.cons rfl rfl (.cons rfl rfl (.cons rfl rfl (.cons rfl rfl trivial))))))))))))) (.cons rfl rfl (.cons rfl rfl (.cons rfl rfl (.cons rfl rfl trivial))))
          · skip
            refine TL.done ?_
            refine TQ.then ?_
            refine TC.seq ?_
            refine TC.condF rfl ?_
            refine TC.exit ?_
            refine TQ.thenExit ?_
            refine TQ.thenExit ?_
            refine TQ.blockHere ?_
            refine TQ.then ?_
            refine TC.region ?_
            refine TL.mv (.int _ _) rfl rfl rfl ?_
            refine TL.mv (.int _ _) rfl rfl rfl ?_
            refine TL.max2 rfl rfl rfl rfl ?_
            refine TL.asg (.int _ _) rfl rfl rfl ?_
            refine TL.done ?_
            refine TQ.inBlock ?_
            refine TQ.then ?_
            refine TC.region ?_
            refine TL.add (((q + 1 : Nat) : Int)) rfl rfl (wrN (by omega)) rfl rfl ?_
            refine TL.mv (.int _ _) rfl rfl rfl ?_
            refine TL.done ?_
            refine TQ.roundK (q + 1) ⟨by omega, by omega⟩ ⟨rfl, (by obtain rfl : k = n := (by omega); rfl), trivial⟩ trivial (.cons rfl rfl (.cons rfl rfl (.cons rfl rfl (.cons rfl rfl (.cons rfl rfl (.cons rfl rfl (.cons rfl rfl (.cons rfl rfl trivial)))))))) (.cons rfl rfl (.cons rfl rfl (.cons rfl rfl (.cons rfl rfl trivial))))
        · skip
          refine TL.done ?_
          refine TQ.then ?_
          refine TC.seq ?_
          refine TC.condF rfl ?_
          refine TC.exit ?_
          refine TQ.thenExit ?_
          refine TQ.thenExit ?_
          refine TQ.blockHere ?_
          refine TQ.inBlock ?_
          refine TQ.then ?_
          refine TC.region ?_
          refine TL.add (((i + 1 : Nat) : Int)) rfl rfl (wrN (by omega)) rfl rfl ?_
          refine TL.mv (.int _ _) rfl rfl rfl ?_
          refine TL.done ?_
          refine TQ.roundK (i + 1) ⟨by omega, by omega⟩ ⟨rfl, (by obtain rfl : q = 2 := (by omega); rfl), trivial⟩ ⟨rfl, trivial⟩ (.cons rfl rfl (.cons rfl rfl (.cons rfl rfl (.cons rfl rfl (.cons rfl rfl trivial))))) (.cons rfl rfl trivial)
      · skip
        refine TL.done ?_
        refine TQ.then ?_
        refine TC.seq ?_
        refine TC.condF rfl ?_
        refine TC.exit ?_
        refine TQ.thenExit ?_
        refine TQ.thenExit ?_
        refine TQ.blockHere ?_
        refine TQ.then ?_
        refine TC.seq ?_
        obtain rfl : n = i := by omega
        obtain ⟨hw1, hw2⟩ := width_plain (n := n) (f := f) (by assumption)
        refine TC.region ?_
        refine TL.mv (.slice _ _ _) rfl rfl rfl ?_
        refine TL.callD [0] [0] (width_ok ha (by omega) hA) ⟨rfl, trivial⟩ ⟨rfl, trivial⟩ fc_c14 rfl rfl rfl rfl rfl trivial ?_
        refine TL.mv (.int _ _) rfl rfl rfl ?_
        refine TL.eqlT rfl rfl hw1 rfl rfl ?_
        refine TL.mv (.bool true) rfl rfl rfl ?_
        refine TL.mv (.int _ _) rfl rfl rfl ?_
        refine TL.mv (.map _) rfl rfl rfl ?_
        refine TL.lenM 1 rfl rfl fc_j33 rfl rfl ?_ trivial
        refine TL.leqT rfl rfl hw2 rfl rfl ?_
        refine TL.pickT (.bool true) rfl rfl rfl rfl ?_
        refine TL.mv (.bool true) rfl rfl rfl ?_
        refine TL.callD [] [] awake_ok trivial trivial fc_c9 rfl rfl rfl rfl rfl trivial ?_
        refine TL.pickT (.bool true) rfl rfl rfl rfl ?_
        refine TL.asg (.bool true) rfl rfl rfl ?_
        refine TL.done ?_
        refine TQ.then ?_
        refine TC.ret ?_
        refine FQ.ret1 (v := (.bool true)) (Bs := [A]) [0] rfl rfl rfl ⟨rfl, trivial⟩ ?_
        exact ⟨rfl, rfl⟩
    · skip
      refine TL.not false true rfl rfl rfl rfl ?_
      refine TL.pickF (.bool true) rfl rfl rfl rfl ?_
      refine TL.done ?_
      refine TQ.then ?_
      refine TC.condT rfl ?_
      refine TC.seq ?_
      refine TC.region ?_
      refine TL.callD [] [] awake_ok trivial trivial fc_c9 rfl rfl rfl rfl rfl trivial ?_
      refine TL.asg (.bool true) rfl rfl rfl ?_
      refine TL.done ?_
      refine TQ.then ?_
      refine TC.ret ?_
      refine TQ.thenRet ?_
      refine FQ.ret1 (v := (.bool true)) (Bs := [A]) [0] rfl rfl rfl ⟨rfl, trivial⟩ ?_
      exact ⟨rfl, rfl⟩


end Go.Proofs.Ytaccjjpfmnbaaaa
