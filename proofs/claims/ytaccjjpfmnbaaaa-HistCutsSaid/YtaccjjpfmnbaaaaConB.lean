import Derived.Test.YtaccjjpfmnbaaaaConA
set_option linter.unusedVariables false
set_option linter.unusedSimpArgs false
set_option maxRecDepth 20000
namespace Go.Proofs.Ytaccjjpfmnbaaaa
open Go.Eng Go.Sort
set_option maxHeartbeats 4000000 in
theorem part_ok {a : Option Addr} {b off n c g : Nat} {d : Array Ans} {cf : Ans → Ans → Int} (ha : 0 < n → a = some ⟨b, off, none⟩) (hn : n ≤ 1000) (hcb : callB Try.prog g = true) (hcmp : ∀ x y, FnD Try.prog g [.agg (encA x).toArray, .agg (encA y).toArray] [] (.int .i64 (cf x y)) []) {lo hi pv : Nat} (hlo : lo < hi) (hhi : hi ≤ n) (hpv : pv < n) : FnD Try.prog 40 [.slice a n c, .int .i64 ((lo : Nat) : Int), .int .i64 ((hi : Nat) : Int), .int .i64 ((pv : Nat) : Int), .func (.func g) #[] #[]] [rw9 b off n d] (.tuple #[.int .i64 (((partition (ltf cf) d lo hi pv).1 : Nat) : Int), .bool (partition (ltf cf) d lo hi pv).2.1]) [rw9 b off n ((partition (ltf cf) d lo hi pv).2.2)] := by
  refine Fn.enter (Try.func40) rfl rfl (fun w0 R => ?_)
  refine TC.seq ?_
  refine TC.region ?_
  refine TL.asg (.int _ _) rfl rfl rfl ?_
  refine TL.asg (.bool false) rfl rfl rfl ?_
  refine TL.done ?_
  refine TQ.then ?_
  refine TC.seq ?_
  refine TC.draw2 [(0, true), (1, true), (2, true), (3, true), (4, true), (5, true), (6, true), (7, true), (8, true), (9, true), (10, true), (11, true), (12, true)] 13 [(14, true), (15, false)] [0] fc_m (by kernel_rfl) ?_
  refine TL.mv (.slice _ _ _) rfl rfl rfl ?_
  refine TL.mv (.int _ _) rfl rfl rfl ?_
  refine TL.mv (.slice _ _ _) rfl rfl rfl ?_
  refine TL.mv (.int _ _) rfl rfl rfl ?_
  refine TL.mv (.slice _ _ _) rfl rfl rfl ?_
  refine TL.mv (.int _ _) rfl rfl rfl ?_
  refine TL.iaO rfl ha rfl fc_l22_29_9 (by omega) rfl rfl ?_
  refine TL.ldR 0 rfl rfl rowW_of (by omega) fc_a29_9 rfl rfl ?_
  refine TL.mv (.slice _ _ _) rfl rfl rfl ?_
  refine TL.mv (.int _ _) rfl rfl rfl ?_
  refine TL.iaO rfl ha rfl fc_l22_29_9 (by omega) rfl rfl ?_
  refine TL.ldR 0 rfl rfl rowW_of (by omega) fc_a29_9 rfl rfl ?_
  refine TL.iaO rfl ha rfl fc_l22_29_9 (by omega) rfl rfl ?_
  refine TL.late ?_
  refine TL.stR 0 rfl rfl rfl encA_ok (by omega) fc_a29_9 rfl rfl trivial ?_
  refine TL.iaO rfl ha rfl fc_l22_29_9 (by omega) rfl rfl ?_
  refine TL.stR 0 rfl rfl rfl encA_ok (by omega) fc_a29_9 rfl rfl trivial ?_
  refine TL.done ?_
  refine TQ.then ?_
  refine TC.seq ?_
  refine TC.region ?_
  refine TL.mv (.int _ _) rfl rfl rfl ?_
  refine TL.add (((lo + 1 : Nat) : Int)) rfl rfl (wrN (by omega)) rfl rfl ?_
  refine TL.mv (.int _ _) rfl rfl rfl ?_
  refine TL.sub (((hi - 1 : Nat) : Int)) rfl rfl (wrN (by omega)) rfl rfl ?_
  refine TL.asg (.int _ _) rfl rfl rfl ?_
  refine TL.asg (.int _ _) rfl rfl rfl ?_
  refine TL.done ?_
  refine TQ.then ?_
  refine TC.seq ?_
  refine TC.block ?_
  refine TC.loopK (X := Nat) [0, 1, 4, 10, 11, 13] [] (fun i => [(12, .int .i64 ((i : Nat) : Int))]) (fun i => [(0, rw9 b off n (swp d lo pv))]) (fun i => lo + 1 ≤ i ∧ i ≤ n ∧ scanUp (fun x => ltf cf x (swp d lo pv)[lo]!) (swp d lo pv) (hi - 1) (i) = scanUp (fun x => ltf cf x (swp d lo pv)[lo]!) (swp d lo pv) (hi - 1) (lo + 1)) (fun i => hi - 1 + 1 - i) (lo + 1) ⟨by omega, by omega, rfl⟩ ⟨rfl, trivial⟩ ⟨rfl, trivial⟩ (fun i hI => ?_)
  obtain ⟨g1a, g1b, g1⟩ := hI
  refine TC.sub (env' := [(12, _), (0, _), (1, _), (4, _), (10, _), (11, _), (13, _)]) (L' := [(0, _)]) ⟨rfl, rfl, rfl, rfl, rfl, rfl, rfl, trivial⟩ ⟨rfl, trivial⟩ ?_
  refine TC.seq ?_
  refine TC.seq ?_
  refine TC.draw [(0, true), (1, true), (2, true), (3, true), (4, true), (5, true), (6, true), (7, true), (8, true), (9, true), (10, true), (11, true), (12, true), (13, false), (14, true), (15, true)] [0] fc_m (by kernel_rfl) ?_
  refine TL.mv (.int _ _) rfl rfl rfl ?_
  refine TL.mv (.int _ _) rfl rfl rfl ?_
  refine TL.leq rfl rfl rfl rfl (fun q1 => ?_) (fun q1 => ?_)
  · skip
    refine TL.mv (.bool true) rfl rfl rfl ?_
    refine TL.mv _ rfl rfl rfl ?_
    refine TL.mv (.slice _ _ _) rfl rfl rfl ?_
    refine TL.mv (.int _ _) rfl rfl rfl ?_
    refine TL.iaO rfl ha rfl fc_l22_29_9 (by omega) rfl rfl ?_
    refine TL.ldR 0 rfl rfl rowW_of (by omega) fc_a29_9 rfl rfl ?_
    refine TL.mv (.slice _ _ _) rfl rfl rfl ?_
    refine TL.mv (.int _ _) rfl rfl rfl ?_
    refine TL.iaO rfl ha rfl fc_l22_29_9 (by omega) rfl rfl ?_
    refine TL.ldR 0 rfl rfl rowW_of (by omega) fc_a29_9 rfl rfl ?_
    refine TL.callC (c1 := []) (c2 := []) (vs := [_, _]) [] [] rfl (hcmp _ _) ⟨rfl, rfl, trivial⟩ trivial hcb rfl rfl rfl rfl rfl (.cons rfl rfl trivial) ?_
    refine TL.lss rfl rfl rfl rfl (fun q2 => ?_) (fun q2 => ?_)
    · skip
      refine TL.pickT (.bool true) rfl rfl rfl rfl ?_
      refine TL.done ?_
      refine TQ.then ?_
      refine TC.condT rfl ?_
      refine TC.skip ?_
      refine TQ.then ?_
      refine TC.block ?_
      refine TC.region ?_
      refine TL.mv (.int _ _) rfl rfl rfl ?_
      refine TL.add (((i + 1 : Nat) : Int)) rfl rfl (wrN (by omega)) rfl rfl ?_
      refine TL.asg (.int _ _) rfl rfl rfl ?_
      refine TL.done ?_
      refine TQ.inBlock ?_
      refine TQ.roundK (i + 1) ⟨⟨by omega, by omega, (scanUp_go (p := (fun x => ltf cf x (swp d lo pv)[lo]!)) (d := swp d lo pv) (by omega) (ltT (by assumption))).trans g1⟩, by omega⟩ ⟨rfl, trivial⟩ ⟨rfl, trivial⟩ (.cons rfl rfl (.cons rfl rfl (.cons rfl rfl (.cons rfl rfl (.cons rfl rfl (.cons rfl rfl trivial)))))) trivial
    · skip
      refine TL.pickT (.bool false) rfl rfl rfl rfl ?_
      refine TL.done ?_
      refine TQ.then ?_
      refine TC.condF rfl ?_
      refine TC.exit ?_
      refine TQ.thenExit ?_
      refine TQ.thenExit ?_
      refine TQ.blockHere ?_
      refine TQ.then ?_
      refine TC.seq ?_
      refine TC.block ?_
      refine TC.loopK (X := Nat) [0, 1, 4, 10, 11, 12] [] (fun j => [(13, .int .i64 ((j : Nat) : Int))]) (fun j => [(0, rw9 b off n (swp d lo pv))]) (fun j => j ≤ hi - 1 ∧ scanDown (fun x => !ltf cf x (swp d lo pv)[lo]!) (swp d lo pv) (i) (j) = scanDown (fun x => !ltf cf x (swp d lo pv)[lo]!) (swp d lo pv) (i) (hi - 1)) (fun j => j) (hi - 1) ⟨by omega, rfl⟩ ⟨rfl, trivial⟩ ⟨rfl, trivial⟩ (fun j hI => ?_)
      obtain ⟨g2a, g2⟩ := hI
      refine TC.sub (env' := [(13, _), (0, _), (1, _), (4, _), (10, _), (11, _), (12, _)]) (L' := [(0, _)]) ⟨rfl, rfl, rfl, rfl, rfl, rfl, rfl, trivial⟩ ⟨rfl, trivial⟩ ?_
      refine TC.seq ?_
      refine TC.seq ?_
      refine TC.draw [(0, true), (1, true), (2, true), (3, true), (4, true), (5, true), (6, true), (7, true), (8, true), (9, true), (10, true), (11, true), (12, true), (13, false), (14, true), (15, true), (16, true)] [0] fc_m (by kernel_rfl) ?_
      refine TL.mv (.int _ _) rfl rfl rfl ?_
      refine TL.mv (.int _ _) rfl rfl rfl ?_
      refine TL.leq rfl rfl rfl rfl (fun q3 => ?_) (fun q3 => ?_)
      · skip
        refine TL.mv (.bool true) rfl rfl rfl ?_
        refine TL.mv _ rfl rfl rfl ?_
        refine TL.mv (.slice _ _ _) rfl rfl rfl ?_
        refine TL.mv (.int _ _) rfl rfl rfl ?_
        refine TL.iaO rfl ha rfl fc_l22_29_9 (by omega) rfl rfl ?_
        refine TL.ldR 0 rfl rfl rowW_of (by omega) fc_a29_9 rfl rfl ?_
        refine TL.mv (.slice _ _ _) rfl rfl rfl ?_
        refine TL.mv (.int _ _) rfl rfl rfl ?_
        refine TL.iaO rfl ha rfl fc_l22_29_9 (by omega) rfl rfl ?_
        refine TL.ldR 0 rfl rfl rowW_of (by omega) fc_a29_9 rfl rfl ?_
        refine TL.callC (c1 := []) (c2 := []) (vs := [_, _]) [] [] rfl (hcmp _ _) ⟨rfl, rfl, trivial⟩ trivial hcb rfl rfl rfl rfl rfl (.cons rfl rfl trivial) ?_
        refine TL.lss rfl rfl rfl rfl (fun q4 => ?_) (fun q4 => ?_)
        · skip
          refine TL.not true false rfl rfl rfl rfl ?_
          refine TL.pickT (.bool false) rfl rfl rfl rfl ?_
          refine TL.done ?_
          refine TQ.then ?_
          refine TC.condF rfl ?_
          refine TC.exit ?_
          refine TQ.thenExit ?_
          refine TQ.thenExit ?_
          refine TQ.blockHere ?_
          refine TQ.then ?_
          refine TC.seq ?_
          refine TC.seq ?_
          refine TC.region ?_
          refine TL.mv (.int _ _) rfl rfl rfl ?_
          refine TL.mv (.int _ _) rfl rfl rfl ?_
          refine TL.gtr rfl rfl rfl rfl (fun q5 => ?_) (fun q5 => ?_)
          · skip
            refine TL.done ?_
            refine TQ.then ?_
            refine TC.condT rfl ?_
            refine TC.seq ?_
            refine TC.draw2 [(0, true), (1, true), (2, true), (3, true), (4, true), (5, true), (6, true), (7, true), (8, true), (9, true), (10, true), (11, true), (12, true)] 13 [(14, true), (15, false)] [0] fc_m (by kernel_rfl) ?_
            refine TL.mv (.slice _ _ _) rfl rfl rfl ?_
            refine TL.mv (.int _ _) rfl rfl rfl ?_
            refine TL.mv (.slice _ _ _) rfl rfl rfl ?_
            refine TL.mv (.int _ _) rfl rfl rfl ?_
            refine TL.mv (.slice _ _ _) rfl rfl rfl ?_
            refine TL.mv (.int _ _) rfl rfl rfl ?_
            refine TL.iaO rfl ha rfl fc_l22_29_9 (by omega) rfl rfl ?_
            refine TL.ldR 0 rfl rfl rowW_of (by omega) fc_a29_9 rfl rfl ?_
            refine TL.mv (.slice _ _ _) rfl rfl rfl ?_
            refine TL.mv (.int _ _) rfl rfl rfl ?_
            refine TL.iaO rfl ha rfl fc_l22_29_9 (by omega) rfl rfl ?_
            refine TL.ldR 0 rfl rfl rowW_of (by omega) fc_a29_9 rfl rfl ?_
            refine TL.iaO rfl ha rfl fc_l22_29_9 (by omega) rfl rfl ?_
            refine TL.late ?_
            refine TL.stR 0 rfl rfl rfl encA_ok (by omega) fc_a29_9 rfl rfl trivial ?_
            refine TL.iaO rfl ha rfl fc_l22_29_9 (by omega) rfl rfl ?_
            refine TL.stR 0 rfl rfl rfl encA_ok (by omega) fc_a29_9 rfl rfl trivial ?_
            refine TL.done ?_
            refine TQ.then ?_
            refine TC.seq ?_
            refine TC.region ?_
            refine TL.mv (.int _ _) rfl rfl rfl ?_
            refine TL.asg (.int _ _) rfl rfl rfl ?_
            refine TL.asg (.bool true) rfl rfl rfl ?_
            refine TL.done ?_
            refine TQ.then ?_
            refine TC.ret ?_
            refine TQ.thenRet ?_
            refine FQ.ret2 (v := (.int _ _)) (x := (.bool true)) (Bs := [_]) [0] rfl rfl rfl rfl ⟨rfl, trivial⟩ ?_
            first | (have e3 := ploop_end hI (g3.symm.trans (scanUp_stop (by first | exact .inl (by omega) | exact .inr (ltF (by assumption))))) (g4.symm.trans (scanDown_stop (by first | exact .inl (by omega) | exact .inr (nT (by assumption))))) (by omega); have e := part_F (g1.symm.trans (scanUp_stop (by first | exact .inl (by omega) | exact .inr (ltF (by assumption))))) (g2.symm.trans (scanDown_stop (by first | exact .inl (by omega) | exact .inr (nT (by assumption))))) (by omega) e3; exact ⟨by rw [e] <;> rfl, by rw [e] <;> rfl⟩) | (have e := part_T (g1.symm.trans (scanUp_stop (by first | exact .inl (by omega) | exact .inr (ltF (by assumption))))) (g2.symm.trans (scanDown_stop (by first | exact .inl (by omega) | exact .inr (nT (by assumption))))) (by omega); exact ⟨by rw [e] <;> rfl, by rw [e] <;> rfl⟩)
          · skip
            refine TL.done ?_
            refine TQ.then ?_
            refine TC.condF rfl ?_
            refine TC.skip ?_
            refine TQ.then ?_
            refine TC.seq ?_
            refine TC.draw2 [(0, true), (1, true), (2, true), (3, true), (4, true), (5, true), (6, true), (7, true), (8, true), (9, true), (10, true), (11, true), (12, true)] 13 [(14, true), (15, false)] [0] fc_m (by kernel_rfl) ?_
            refine TL.mv (.slice _ _ _) rfl rfl rfl ?_
            refine TL.mv (.int _ _) rfl rfl rfl ?_
            refine TL.mv (.slice _ _ _) rfl rfl rfl ?_
            refine TL.mv (.int _ _) rfl rfl rfl ?_
            refine TL.mv (.slice _ _ _) rfl rfl rfl ?_
            refine TL.mv (.int _ _) rfl rfl rfl ?_
            refine TL.iaO rfl ha rfl fc_l22_29_9 (by omega) rfl rfl ?_
            refine TL.ldR 0 rfl rfl rowW_of (by omega) fc_a29_9 rfl rfl ?_
            refine TL.mv (.slice _ _ _) rfl rfl rfl ?_
            refine TL.mv (.int _ _) rfl rfl rfl ?_
            refine TL.iaO rfl ha rfl fc_l22_29_9 (by omega) rfl rfl ?_
            refine TL.ldR 0 rfl rfl rowW_of (by omega) fc_a29_9 rfl rfl ?_
            refine TL.iaO rfl ha rfl fc_l22_29_9 (by omega) rfl rfl ?_
            refine TL.late ?_
            refine TL.stR 0 rfl rfl rfl encA_ok (by omega) fc_a29_9 rfl rfl trivial ?_
            refine TL.iaO rfl ha rfl fc_l22_29_9 (by omega) rfl rfl ?_
            refine TL.stR 0 rfl rfl rfl encA_ok (by omega) fc_a29_9 rfl rfl trivial ?_
            refine TL.done ?_
            refine TQ.then ?_
            refine TC.seq ?_
            refine TC.region ?_
            refine TL.mv (.int _ _) rfl rfl rfl ?_
            refine TL.add (((i + 1 : Nat) : Int)) rfl rfl (wrN (by omega)) rfl rfl ?_
            refine TL.asg (.int _ _) rfl rfl rfl ?_
            refine TL.done ?_
            refine TQ.then ?_
            refine TC.seq ?_
            refine TC.region ?_
            refine TL.mv (.int _ _) rfl rfl rfl ?_
            refine TL.sub (((j - 1 : Nat) : Int)) rfl rfl (wrN (by omega)) rfl rfl ?_
            refine TL.asg (.int _ _) rfl rfl rfl ?_
            refine TL.done ?_
            refine TQ.then ?_
            refine TC.seq ?_
            refine TC.block ?_
            refine TC.loopK (X := Nat × Nat × Array Ans) [0, 1, 4, 10, 11] [] (fun ⟨i2, j2, d2⟩ => [(12, .int .i64 ((i2 : Nat) : Int)), (13, .int .i64 ((j2 : Nat) : Int))]) (fun ⟨i2, j2, d2⟩ => [(0, rw9 b off n d2)]) (fun ⟨i2, j2, d2⟩ => lo < i2 ∧ i2 ≤ n ∧ j2 < n ∧ partLoop (ltf cf) lo i2 j2 d2 = partLoop (ltf cf) lo (i + 1) (j - 1) (swp (swp d lo pv) i j)) (fun ⟨i2, j2, d2⟩ => j2 + 1 - i2) ((i + 1, j - 1, swp (swp d lo pv) i j)) ⟨by omega, by omega, by omega, rfl⟩ ⟨rfl, rfl, trivial⟩ ⟨rfl, trivial⟩ (fun y hI => ?_)
            obtain ⟨i2, j2, d2⟩ := y
            obtain ⟨u1, u2, u3, hI⟩ := hI
            replace u1 : lo < i2 := u1
            replace u2 : i2 ≤ n := u2
            replace u3 : j2 < n := u3
            replace hI : partLoop (ltf cf) lo i2 j2 d2 = partLoop (ltf cf) lo (i + 1) (j - 1) (swp (swp d lo pv) i j) := hI
            refine TC.sub (env' := [(12, _), (13, _), (0, _), (1, _), (4, _), (10, _), (11, _)]) (L' := [(0, _)]) ⟨rfl, rfl, rfl, rfl, rfl, rfl, rfl, trivial⟩ ⟨rfl, trivial⟩ ?_
            refine TC.block ?_
            refine TC.seq ?_
            refine TC.block ?_
            refine TC.loopK (X := Nat) [0, 1, 4, 10, 11, 13] [] (fun i3 => [(12, .int .i64 ((i3 : Nat) : Int))]) (fun i3 => [(0, rw9 b off n (d2))]) (fun i3 => i2 ≤ i3 ∧ i3 ≤ n ∧ scanUp (fun x => ltf cf x (d2)[lo]!) (d2) (j2) (i3) = scanUp (fun x => ltf cf x (d2)[lo]!) (d2) (j2) (i2)) (fun i3 => j2 + 1 - i3) (i2) ⟨by omega, by omega, rfl⟩ ⟨rfl, trivial⟩ ⟨rfl, trivial⟩ (fun i3 hI => ?_)
            obtain ⟨g3a, g3b, g3⟩ := hI
            refine TC.sub (env' := [(12, _), (0, _), (1, _), (4, _), (10, _), (11, _), (13, _)]) (L' := [(0, _)]) ⟨rfl, rfl, rfl, rfl, rfl, rfl, rfl, trivial⟩ ⟨rfl, trivial⟩ ?_
            refine TC.seq ?_
            refine TC.seq ?_
            refine TC.draw [(0, true), (1, true), (2, true), (3, true), (4, true), (5, true), (6, true), (7, true), (8, true), (9, true), (10, true), (11, true), (12, true), (13, false), (14, true), (15, true)] [0] fc_m (by kernel_rfl) ?_
            refine TL.mv (.int _ _) rfl rfl rfl ?_
            refine TL.mv (.int _ _) rfl rfl rfl ?_
            refine TL.leq rfl rfl rfl rfl (fun q6 => ?_) (fun q6 => ?_)
            · skip
              refine TL.mv (.bool true) rfl rfl rfl ?_
              refine TL.mv _ rfl rfl rfl ?_
              refine TL.mv (.slice _ _ _) rfl rfl rfl ?_
              refine TL.mv (.int _ _) rfl rfl rfl ?_
              refine TL.iaO rfl ha rfl fc_l22_29_9 (by omega) rfl rfl ?_
              refine TL.ldR 0 rfl rfl rowW_of (by omega) fc_a29_9 rfl rfl ?_
              refine TL.mv (.slice _ _ _) rfl rfl rfl ?_
              refine TL.mv (.int _ _) rfl rfl rfl ?_
              refine TL.iaO rfl ha rfl fc_l22_29_9 (by omega) rfl rfl ?_
              refine TL.ldR 0 rfl rfl rowW_of (by omega) fc_a29_9 rfl rfl ?_
              refine TL.callC (c1 := []) (c2 := []) (vs := [_, _]) [] [] rfl (hcmp _ _) ⟨rfl, rfl, trivial⟩ trivial hcb rfl rfl rfl rfl rfl (.cons rfl rfl trivial) ?_
              refine TL.lss rfl rfl rfl rfl (fun q7 => ?_) (fun q7 => ?_)
              · skip
                refine TL.pickT (.bool true) rfl rfl rfl rfl ?_
                refine TL.done ?_
                refine TQ.then ?_
                refine TC.condT rfl ?_
                refine TC.skip ?_
                refine TQ.then ?_
                refine TC.block ?_
                refine TC.region ?_
                refine TL.mv (.int _ _) rfl rfl rfl ?_
                refine TL.add (((i3 + 1 : Nat) : Int)) rfl rfl (wrN (by omega)) rfl rfl ?_
                refine TL.asg (.int _ _) rfl rfl rfl ?_
                refine TL.done ?_
                refine TQ.inBlock ?_
                refine TQ.roundK (i3 + 1) ⟨⟨by omega, by omega, (scanUp_go (p := (fun x => ltf cf x (d2)[lo]!)) (d := d2) (by omega) (ltT (by assumption))).trans g3⟩, by omega⟩ ⟨rfl, trivial⟩ ⟨rfl, trivial⟩ (.cons rfl rfl (.cons rfl rfl (.cons rfl rfl (.cons rfl rfl (.cons rfl rfl (.cons rfl rfl trivial)))))) trivial
              · skip
                refine TL.pickT (.bool false) rfl rfl rfl rfl ?_
                refine TL.done ?_
                refine TQ.then ?_
                refine TC.condF rfl ?_
                refine TC.exit ?_
                refine TQ.thenExit ?_
                refine TQ.thenExit ?_
                refine TQ.blockHere ?_
                refine TQ.then ?_
                refine TC.seq ?_
                refine TC.block ?_
                refine TC.loopK (X := Nat) [0, 1, 4, 10, 11, 12] [] (fun j3 => [(13, .int .i64 ((j3 : Nat) : Int))]) (fun j3 => [(0, rw9 b off n (d2))]) (fun j3 => j3 ≤ j2 ∧ scanDown (fun x => !ltf cf x (d2)[lo]!) (d2) (i3) (j3) = scanDown (fun x => !ltf cf x (d2)[lo]!) (d2) (i3) (j2)) (fun j3 => j3) (j2) ⟨by omega, rfl⟩ ⟨rfl, trivial⟩ ⟨rfl, trivial⟩ (fun j3 hI => ?_)
                obtain ⟨g4a, g4⟩ := hI
                refine TC.sub (env' := [(13, _), (0, _), (1, _), (4, _), (10, _), (11, _), (12, _)]) (L' := [(0, _)]) ⟨rfl, rfl, rfl, rfl, rfl, rfl, rfl, trivial⟩ ⟨rfl, trivial⟩ ?_
                refine TC.seq ?_
                refine TC.seq ?_
                refine TC.draw [(0, true), (1, true), (2, true), (3, true), (4, true), (5, true), (6, true), (7, true), (8, true), (9, true), (10, true), (11, true), (12, true), (13, false), (14, true), (15, true), (16, true)] [0] fc_m (by kernel_rfl) ?_
                refine TL.mv (.int _ _) rfl rfl rfl ?_
                refine TL.mv (.int _ _) rfl rfl rfl ?_
                refine TL.leq rfl rfl rfl rfl (fun q8 => ?_) (fun q8 => ?_)
                · skip
                  refine TL.mv (.bool true) rfl rfl rfl ?_
                  refine TL.mv _ rfl rfl rfl ?_
                  refine TL.mv (.slice _ _ _) rfl rfl rfl ?_
                  refine TL.mv (.int _ _) rfl rfl rfl ?_
                  refine TL.iaO rfl ha rfl fc_l22_29_9 (by omega) rfl rfl ?_
                  refine TL.ldR 0 rfl rfl rowW_of (by omega) fc_a29_9 rfl rfl ?_
                  refine TL.mv (.slice _ _ _) rfl rfl rfl ?_
                  refine TL.mv (.int _ _) rfl rfl rfl ?_
                  refine TL.iaO rfl ha rfl fc_l22_29_9 (by omega) rfl rfl ?_
                  refine TL.ldR 0 rfl rfl rowW_of (by omega) fc_a29_9 rfl rfl ?_
                  refine TL.callC (c1 := []) (c2 := []) (vs := [_, _]) [] [] rfl (hcmp _ _) ⟨rfl, rfl, trivial⟩ trivial hcb rfl rfl rfl rfl rfl (.cons rfl rfl trivial) ?_
                  refine TL.lss rfl rfl rfl rfl (fun q9 => ?_) (fun q9 => ?_)
                  · skip
                    refine TL.not true false rfl rfl rfl rfl ?_
                    refine TL.pickT (.bool false) rfl rfl rfl rfl ?_
                    refine TL.done ?_
                    refine TQ.then ?_
                    refine TC.condF rfl ?_
                    refine TC.exit ?_
                    refine TQ.thenExit ?_
                    refine TQ.thenExit ?_
                    refine TQ.blockHere ?_
                    refine TQ.then ?_
                    refine TC.seq ?_
                    refine TC.seq ?_
                    refine TC.region ?_
                    refine TL.mv (.int _ _) rfl rfl rfl ?_
                    refine TL.mv (.int _ _) rfl rfl rfl ?_
                    refine TL.gtr rfl rfl rfl rfl (fun q10 => ?_) (fun q10 => ?_)
                    · skip
                      refine TL.done ?_
                      refine TQ.then ?_
                      refine TC.condT rfl ?_
                      refine TC.exit ?_
                      refine TQ.thenExit ?_
                      refine TQ.blockOut rfl ?_
                      refine TQ.thenExit ?_
                      refine TQ.blockHere ?_
                      refine TQ.then ?_
                      refine TC.seq ?_
                      refine TC.draw2 [(0, true), (1, true), (2, true), (3, true), (4, true), (5, true), (6, true), (7, true), (8, true), (9, true), (10, true), (11, true), (12, true)] 13 [(14, true), (15, false)] [0] fc_m (by kernel_rfl) ?_
                      refine TL.mv (.slice _ _ _) rfl rfl rfl ?_
                      refine TL.mv (.int _ _) rfl rfl rfl ?_
                      refine TL.mv (.slice _ _ _) rfl rfl rfl ?_
                      refine TL.mv (.int _ _) rfl rfl rfl ?_
                      refine TL.mv (.slice _ _ _) rfl rfl rfl ?_
                      refine TL.mv (.int _ _) rfl rfl rfl ?_
                      refine TL.iaO rfl ha rfl fc_l22_29_9 (by omega) rfl rfl ?_
                      refine TL.ldR 0 rfl rfl rowW_of (by omega) fc_a29_9 rfl rfl ?_
                      refine TL.mv (.slice _ _ _) rfl rfl rfl ?_
                      refine TL.mv (.int _ _) rfl rfl rfl ?_
                      refine TL.iaO rfl ha rfl fc_l22_29_9 (by omega) rfl rfl ?_
                      refine TL.ldR 0 rfl rfl rowW_of (by omega) fc_a29_9 rfl rfl ?_
                      refine TL.iaO rfl ha rfl fc_l22_29_9 (by omega) rfl rfl ?_
                      refine TL.late ?_
                      refine TL.stR 0 rfl rfl rfl encA_ok (by omega) fc_a29_9 rfl rfl trivial ?_
                      refine TL.iaO rfl ha rfl fc_l22_29_9 (by omega) rfl rfl ?_
                      refine TL.stR 0 rfl rfl rfl encA_ok (by omega) fc_a29_9 rfl rfl trivial ?_
                      refine TL.done ?_
                      refine TQ.then ?_
                      refine TC.seq ?_
                      refine TC.region ?_
                      refine TL.mv (.int _ _) rfl rfl rfl ?_
                      refine TL.asg (.int _ _) rfl rfl rfl ?_
                      refine TL.asg (.bool false) rfl rfl rfl ?_
                      refine TL.done ?_
                      refine TQ.then ?_
                      refine TC.ret ?_
                      refine FQ.ret2 (v := (.int _ _)) (x := (.bool false)) (Bs := [_]) [0] rfl rfl rfl rfl ⟨rfl, trivial⟩ ?_
                      first | (have e3 := ploop_end hI (g3.symm.trans (scanUp_stop (by first | exact .inl (by omega) | exact .inr (ltF (by assumption))))) (g4.symm.trans (scanDown_stop (by first | exact .inl (by omega) | exact .inr (nT (by assumption))))) (by omega); have e := part_F (g1.symm.trans (scanUp_stop (by first | exact .inl (by omega) | exact .inr (ltF (by assumption))))) (g2.symm.trans (scanDown_stop (by first | exact .inl (by omega) | exact .inr (nT (by assumption))))) (by omega) e3; exact ⟨by rw [e] <;> rfl, by rw [e] <;> rfl⟩) | (have e := part_T (g1.symm.trans (scanUp_stop (by first | exact .inl (by omega) | exact .inr (ltF (by assumption))))) (g2.symm.trans (scanDown_stop (by first | exact .inl (by omega) | exact .inr (nT (by assumption))))) (by omega); exact ⟨by rw [e] <;> rfl, by rw [e] <;> rfl⟩)
                    · skip
                      refine TL.done ?_
                      refine TQ.then ?_
                      refine TC.condF rfl ?_
                      refine TC.skip ?_
                      refine TQ.then ?_
                      refine TC.seq ?_
                      refine TC.draw2 [(0, true), (1, true), (2, true), (3, true), (4, true), (5, true), (6, true), (7, true), (8, true), (9, true), (10, true), (11, true), (12, true)] 13 [(14, true), (15, false)] [0] fc_m (by kernel_rfl) ?_
                      refine TL.mv (.slice _ _ _) rfl rfl rfl ?_
                      refine TL.mv (.int _ _) rfl rfl rfl ?_
                      refine TL.mv (.slice _ _ _) rfl rfl rfl ?_
                      refine TL.mv (.int _ _) rfl rfl rfl ?_
                      refine TL.mv (.slice _ _ _) rfl rfl rfl ?_
                      refine TL.mv (.int _ _) rfl rfl rfl ?_
                      refine TL.iaO rfl ha rfl fc_l22_29_9 (by omega) rfl rfl ?_
                      refine TL.ldR 0 rfl rfl rowW_of (by omega) fc_a29_9 rfl rfl ?_
                      refine TL.mv (.slice _ _ _) rfl rfl rfl ?_
                      refine TL.mv (.int _ _) rfl rfl rfl ?_
                      refine TL.iaO rfl ha rfl fc_l22_29_9 (by omega) rfl rfl ?_
                      refine TL.ldR 0 rfl rfl rowW_of (by omega) fc_a29_9 rfl rfl ?_
                      refine TL.iaO rfl ha rfl fc_l22_29_9 (by omega) rfl rfl ?_
                      refine TL.late ?_
                      refine TL.stR 0 rfl rfl rfl encA_ok (by omega) fc_a29_9 rfl rfl trivial ?_
                      refine TL.iaO rfl ha rfl fc_l22_29_9 (by omega) rfl rfl ?_
                      refine TL.stR 0 rfl rfl rfl encA_ok (by omega) fc_a29_9 rfl rfl trivial ?_
                      refine TL.done ?_
                      refine TQ.then ?_
                      refine TC.seq ?_
                      refine TC.region ?_
                      refine TL.mv (.int _ _) rfl rfl rfl ?_
                      refine TL.add (((i3 + 1 : Nat) : Int)) rfl rfl (wrN (by omega)) rfl rfl ?_
                      refine TL.asg (.int _ _) rfl rfl rfl ?_
                      refine TL.done ?_
                      refine TQ.then ?_
                      refine TC.region ?_
                      refine TL.mv (.int _ _) rfl rfl rfl ?_
                      refine TL.sub (((j3 - 1 : Nat) : Int)) rfl rfl (wrN (by omega)) rfl rfl ?_
                      refine TL.asg (.int _ _) rfl rfl rfl ?_
                      refine TL.done ?_
                      refine TQ.inBlock ?_
                      refine TQ.roundK ((i3 + 1, j3 - 1, swp d2 i3 j3)) ⟨⟨by omega, by omega, by omega, ploop_go hI (g3.symm.trans (scanUp_stop (by first | exact .inl (by omega) | exact .inr (ltF (by assumption))))) (g4.symm.trans (scanDown_stop (by first | exact .inl (by omega) | exact .inr (nT (by assumption))))) (by omega) (by omega) (by omega)⟩, by show j3 - 1 + 1 - (i3 + 1) < j2 + 1 - i2; omega⟩ ⟨rfl, rfl, trivial⟩ ⟨rfl, trivial⟩ (.cons rfl rfl (.cons rfl rfl (.cons rfl rfl (.cons rfl rfl (.cons rfl rfl trivial))))) trivial
                  · skip
                    refine TL.not false true rfl rfl rfl rfl ?_
                    refine TL.pickT (.bool true) rfl rfl rfl rfl ?_
                    refine TL.done ?_
                    refine TQ.then ?_
                    refine TC.condT rfl ?_
                    refine TC.skip ?_
                    refine TQ.then ?_
                    refine TC.block ?_
                    refine TC.region ?_
                    refine TL.mv (.int _ _) rfl rfl rfl ?_
                    refine TL.sub (((j3 - 1 : Nat) : Int)) rfl rfl (wrN (by omega)) rfl rfl ?_
                    refine TL.asg (.int _ _) rfl rfl rfl ?_
                    refine TL.done ?_
                    refine TQ.inBlock ?_
                    refine TQ.roundK (j3 - 1) ⟨⟨by omega, (scanDown_go (p := (fun x => !ltf cf x (d2)[lo]!)) (d := d2) (by omega) (by omega) (nF (by assumption))).trans g4⟩, by omega⟩ ⟨rfl, trivial⟩ ⟨rfl, trivial⟩ (.cons rfl rfl (.cons rfl rfl (.cons rfl rfl (.cons rfl rfl (.cons rfl rfl (.cons rfl rfl trivial)))))) trivial
                · skip
                  refine TL.mv (.bool false) rfl rfl rfl ?_
                  refine TL.off rfl rfl ?_
                  refine TL.off rfl rfl ?_
                  refine TL.off rfl rfl ?_
                  refine TL.off rfl rfl ?_
                  refine TL.off rfl rfl ?_
                  refine TL.off rfl rfl ?_
                  refine TL.off rfl rfl ?_
                  refine TL.off rfl rfl ?_
                  refine TL.off rfl rfl ?_
                  refine TL.off rfl rfl ?_
                  refine TL.off rfl rfl ?_
                  refine TL.off rfl rfl ?_
                  refine TL.pickF (.bool false) rfl rfl rfl rfl ?_
                  refine TL.done ?_
                  refine TQ.then ?_
                  refine TC.condF rfl ?_
                  refine TC.exit ?_
                  refine TQ.thenExit ?_
                  refine TQ.thenExit ?_
                  refine TQ.blockHere ?_
                  refine TQ.then ?_
                  refine TC.seq ?_
                  refine TC.seq ?_
                  refine TC.region ?_
                  refine TL.mv (.int _ _) rfl rfl rfl ?_
                  refine TL.mv (.int _ _) rfl rfl rfl ?_
                  refine TL.gtr rfl rfl rfl rfl (fun q9 => ?_) (fun q9 => ?_)
                  · skip
                    refine TL.done ?_
                    refine TQ.then ?_
                    refine TC.condT rfl ?_
                    refine TC.exit ?_
                    refine TQ.thenExit ?_
                    refine TQ.blockOut rfl ?_
                    refine TQ.thenExit ?_
                    refine TQ.blockHere ?_
                    refine TQ.then ?_
                    refine TC.seq ?_
                    refine TC.draw2 [(0, true), (1, true), (2, true), (3, true), (4, true), (5, true), (6, true), (7, true), (8, true), (9, true), (10, true), (11, true), (12, true)] 13 [(14, true), (15, false)] [0] fc_m (by kernel_rfl) ?_
                    refine TL.mv (.slice _ _ _) rfl rfl rfl ?_
                    refine TL.mv (.int _ _) rfl rfl rfl ?_
                    refine TL.mv (.slice _ _ _) rfl rfl rfl ?_
                    refine TL.mv (.int _ _) rfl rfl rfl ?_
                    refine TL.mv (.slice _ _ _) rfl rfl rfl ?_
                    refine TL.mv (.int _ _) rfl rfl rfl ?_
                    refine TL.iaO rfl ha rfl fc_l22_29_9 (by omega) rfl rfl ?_
                    refine TL.ldR 0 rfl rfl rowW_of (by omega) fc_a29_9 rfl rfl ?_
                    refine TL.mv (.slice _ _ _) rfl rfl rfl ?_
                    refine TL.mv (.int _ _) rfl rfl rfl ?_
                    refine TL.iaO rfl ha rfl fc_l22_29_9 (by omega) rfl rfl ?_
                    refine TL.ldR 0 rfl rfl rowW_of (by omega) fc_a29_9 rfl rfl ?_
                    refine TL.iaO rfl ha rfl fc_l22_29_9 (by omega) rfl rfl ?_
                    refine TL.late ?_
                    refine TL.stR 0 rfl rfl rfl encA_ok (by omega) fc_a29_9 rfl rfl trivial ?_
                    refine TL.iaO rfl ha rfl fc_l22_29_9 (by omega) rfl rfl ?_
                    refine TL.stR 0 rfl rfl rfl encA_ok (by omega) fc_a29_9 rfl rfl trivial ?_
                    refine TL.done ?_
                    refine TQ.then ?_
                    refine TC.seq ?_
                    refine TC.region ?_
                    refine TL.mv (.int _ _) rfl rfl rfl ?_
                    refine TL.asg (.int _ _) rfl rfl rfl ?_
                    refine TL.asg (.bool false) rfl rfl rfl ?_
                    refine TL.done ?_
                    refine TQ.then ?_
                    refine TC.ret ?_
                    refine FQ.ret2 (v := (.int _ _)) (x := (.bool false)) (Bs := [_]) [0] rfl rfl rfl rfl ⟨rfl, trivial⟩ ?_
                    first | (have e3 := ploop_end hI (g3.symm.trans (scanUp_stop (by first | exact .inl (by omega) | exact .inr (ltF (by assumption))))) (g4.symm.trans (scanDown_stop (by first | exact .inl (by omega) | exact .inr (nT (by assumption))))) (by omega); have e := part_F (g1.symm.trans (scanUp_stop (by first | exact .inl (by omega) | exact .inr (ltF (by assumption))))) (g2.symm.trans (scanDown_stop (by first | exact .inl (by omega) | exact .inr (nT (by assumption))))) (by omega) e3; exact ⟨by rw [e] <;> rfl, by rw [e] <;> rfl⟩) | (have e := part_T (g1.symm.trans (scanUp_stop (by first | exact .inl (by omega) | exact .inr (ltF (by assumption))))) (g2.symm.trans (scanDown_stop (by first | exact .inl (by omega) | exact .inr (nT (by assumption))))) (by omega); exact ⟨by rw [e] <;> rfl, by rw [e] <;> rfl⟩)
                  · skip
                    refine TL.done ?_
                    refine TQ.then ?_
                    refine TC.condF rfl ?_
                    refine TC.skip ?_
                    refine TQ.then ?_
                    refine TC.seq ?_
                    refine TC.draw2 [(0, true), (1, true), (2, true), (3, true), (4, true), (5, true), (6, true), (7, true), (8, true), (9, true), (10, true), (11, true), (12, true)] 13 [(14, true), (15, false)] [0] fc_m (by kernel_rfl) ?_
                    refine TL.mv (.slice _ _ _) rfl rfl rfl ?_
                    refine TL.mv (.int _ _) rfl rfl rfl ?_
                    refine TL.mv (.slice _ _ _) rfl rfl rfl ?_
                    refine TL.mv (.int _ _) rfl rfl rfl ?_
                    refine TL.mv (.slice _ _ _) rfl rfl rfl ?_
                    refine TL.mv (.int _ _) rfl rfl rfl ?_
                    refine TL.iaO rfl ha rfl fc_l22_29_9 (by omega) rfl rfl ?_
                    refine TL.ldR 0 rfl rfl rowW_of (by omega) fc_a29_9 rfl rfl ?_
                    refine TL.mv (.slice _ _ _) rfl rfl rfl ?_
                    refine TL.mv (.int _ _) rfl rfl rfl ?_
                    refine TL.iaO rfl ha rfl fc_l22_29_9 (by omega) rfl rfl ?_
                    refine TL.ldR 0 rfl rfl rowW_of (by omega) fc_a29_9 rfl rfl ?_
                    refine TL.iaO rfl ha rfl fc_l22_29_9 (by omega) rfl rfl ?_
                    refine TL.late ?_
                    refine TL.stR 0 rfl rfl rfl encA_ok (by omega) fc_a29_9 rfl rfl trivial ?_
                    refine TL.iaO rfl ha rfl fc_l22_29_9 (by omega) rfl rfl ?_
                    refine TL.stR 0 rfl rfl rfl encA_ok (by omega) fc_a29_9 rfl rfl trivial ?_
                    refine TL.done ?_
                    refine TQ.then ?_
                    refine TC.seq ?_
                    refine TC.region ?_
                    refine TL.mv (.int _ _) rfl rfl rfl ?_
                    refine TL.add (((i3 + 1 : Nat) : Int)) rfl rfl (wrN (by omega)) rfl rfl ?_
                    refine TL.asg (.int _ _) rfl rfl rfl ?_
                    refine TL.done ?_
                    refine TQ.then ?_
                    refine TC.region ?_
                    refine TL.mv (.int _ _) rfl rfl rfl ?_
                    refine TL.sub (((j3 - 1 : Nat) : Int)) rfl rfl (wrN (by omega)) rfl rfl ?_
                    refine TL.asg (.int _ _) rfl rfl rfl ?_
                    refine TL.done ?_
                    refine TQ.inBlock ?_
                    refine TQ.roundK ((i3 + 1, j3 - 1, swp d2 i3 j3)) ⟨⟨by omega, by omega, by omega, ploop_go hI (g3.symm.trans (scanUp_stop (by first | exact .inl (by omega) | exact .inr (ltF (by assumption))))) (g4.symm.trans (scanDown_stop (by first | exact .inl (by omega) | exact .inr (nT (by assumption))))) (by omega) (by omega) (by omega)⟩, by show j3 - 1 + 1 - (i3 + 1) < j2 + 1 - i2; omega⟩ ⟨rfl, rfl, trivial⟩ ⟨rfl, trivial⟩ (.cons rfl rfl (.cons rfl rfl (.cons rfl rfl (.cons rfl rfl (.cons rfl rfl trivial))))) trivial
            · skip
              refine TL.mv (.bool false) rfl rfl rfl ?_
              refine TL.off rfl rfl ?_
              refine TL.off rfl rfl ?_
              refine TL.off rfl rfl ?_
              refine TL.off rfl rfl ?_
              refine TL.off rfl rfl ?_
              refine TL.off rfl rfl ?_
              refine TL.off rfl rfl ?_
              refine TL.off rfl rfl ?_
              refine TL.off rfl rfl ?_
              refine TL.off rfl rfl ?_
              refine TL.off rfl rfl ?_
              refine TL.pickF (.bool false) rfl rfl rfl rfl ?_
              refine TL.done ?_
              refine TQ.then ?_
              refine TC.condF rfl ?_
              refine TC.exit ?_
              refine TQ.thenExit ?_
              refine TQ.thenExit ?_
              refine TQ.blockHere ?_
              refine TQ.then ?_
              refine TC.seq ?_
              refine TC.block ?_
              refine TC.loopK (X := Nat) [0, 1, 4, 10, 11, 12] [] (fun j3 => [(13, .int .i64 ((j3 : Nat) : Int))]) (fun j3 => [(0, rw9 b off n (d2))]) (fun j3 => j3 ≤ j2 ∧ scanDown (fun x => !ltf cf x (d2)[lo]!) (d2) (i3) (j3) = scanDown (fun x => !ltf cf x (d2)[lo]!) (d2) (i3) (j2)) (fun j3 => j3) (j2) ⟨by omega, rfl⟩ ⟨rfl, trivial⟩ ⟨rfl, trivial⟩ (fun j3 hI => ?_)
              obtain ⟨g4a, g4⟩ := hI
              refine TC.sub (env' := [(13, _), (0, _), (1, _), (4, _), (10, _), (11, _), (12, _)]) (L' := [(0, _)]) ⟨rfl, rfl, rfl, rfl, rfl, rfl, rfl, trivial⟩ ⟨rfl, trivial⟩ ?_
              refine TC.seq ?_
              refine TC.seq ?_
              refine TC.draw [(0, true), (1, true), (2, true), (3, true), (4, true), (5, true), (6, true), (7, true), (8, true), (9, true), (10, true), (11, true), (12, true), (13, false), (14, true), (15, true), (16, true)] [0] fc_m (by kernel_rfl) ?_
              refine TL.mv (.int _ _) rfl rfl rfl ?_
              refine TL.mv (.int _ _) rfl rfl rfl ?_
              refine TL.leq rfl rfl rfl rfl (fun q7 => ?_) (fun q7 => ?_)
              · skip
                refine TL.mv (.bool true) rfl rfl rfl ?_
                refine TL.mv _ rfl rfl rfl ?_
                refine TL.mv (.slice _ _ _) rfl rfl rfl ?_
                refine TL.mv (.int _ _) rfl rfl rfl ?_
                refine TL.iaO rfl ha rfl fc_l22_29_9 (by omega) rfl rfl ?_
                refine TL.ldR 0 rfl rfl rowW_of (by omega) fc_a29_9 rfl rfl ?_
                refine TL.mv (.slice _ _ _) rfl rfl rfl ?_
                refine TL.mv (.int _ _) rfl rfl rfl ?_
                refine TL.iaO rfl ha rfl fc_l22_29_9 (by omega) rfl rfl ?_
                refine TL.ldR 0 rfl rfl rowW_of (by omega) fc_a29_9 rfl rfl ?_
                refine TL.callC (c1 := []) (c2 := []) (vs := [_, _]) [] [] rfl (hcmp _ _) ⟨rfl, rfl, trivial⟩ trivial hcb rfl rfl rfl rfl rfl (.cons rfl rfl trivial) ?_
                refine TL.lss rfl rfl rfl rfl (fun q8 => ?_) (fun q8 => ?_)
                · skip
                  refine TL.not true false rfl rfl rfl rfl ?_
                  refine TL.pickT (.bool false) rfl rfl rfl rfl ?_
                  refine TL.done ?_
                  refine TQ.then ?_
                  refine TC.condF rfl ?_
                  refine TC.exit ?_
                  refine TQ.thenExit ?_
                  refine TQ.thenExit ?_
                  refine TQ.blockHere ?_
                  refine TQ.then ?_
                  refine TC.seq ?_
                  refine TC.seq ?_
                  refine TC.region ?_
                  refine TL.mv (.int _ _) rfl rfl rfl ?_
                  refine TL.mv (.int _ _) rfl rfl rfl ?_
                  refine TL.gtr rfl rfl rfl rfl (fun q9 => ?_) (fun q9 => ?_)
                  · skip
                    refine TL.done ?_
                    refine TQ.then ?_
                    refine TC.condT rfl ?_
                    refine TC.exit ?_
                    refine TQ.thenExit ?_
                    refine TQ.blockOut rfl ?_
                    refine TQ.thenExit ?_
                    refine TQ.blockHere ?_
                    refine TQ.then ?_
                    refine TC.seq ?_
                    refine TC.draw2 [(0, true), (1, true), (2, true), (3, true), (4, true), (5, true), (6, true), (7, true), (8, true), (9, true), (10, true), (11, true), (12, true)] 13 [(14, true), (15, false)] [0] fc_m (by kernel_rfl) ?_
                    refine TL.mv (.slice _ _ _) rfl rfl rfl ?_
                    refine TL.mv (.int _ _) rfl rfl rfl ?_
                    refine TL.mv (.slice _ _ _) rfl rfl rfl ?_
                    refine TL.mv (.int _ _) rfl rfl rfl ?_
                    refine TL.mv (.slice _ _ _) rfl rfl rfl ?_
                    refine TL.mv (.int _ _) rfl rfl rfl ?_
                    refine TL.iaO rfl ha rfl fc_l22_29_9 (by omega) rfl rfl ?_
                    refine TL.ldR 0 rfl rfl rowW_of (by omega) fc_a29_9 rfl rfl ?_
                    refine TL.mv (.slice _ _ _) rfl rfl rfl ?_
                    refine TL.mv (.int _ _) rfl rfl rfl ?_
                    refine TL.iaO rfl ha rfl fc_l22_29_9 (by omega) rfl rfl ?_
                    refine TL.ldR 0 rfl rfl rowW_of (by omega) fc_a29_9 rfl rfl ?_
                    refine TL.iaO rfl ha rfl fc_l22_29_9 (by omega) rfl rfl ?_
                    refine TL.late ?_
                    refine TL.stR 0 rfl rfl rfl encA_ok (by omega) fc_a29_9 rfl rfl trivial ?_
                    refine TL.iaO rfl ha rfl fc_l22_29_9 (by omega) rfl rfl ?_
                    refine TL.stR 0 rfl rfl rfl encA_ok (by omega) fc_a29_9 rfl rfl trivial ?_
                    refine TL.done ?_
                    refine TQ.then ?_
                    refine TC.seq ?_
                    refine TC.region ?_
                    refine TL.mv (.int _ _) rfl rfl rfl ?_
                    refine TL.asg (.int _ _) rfl rfl rfl ?_
                    refine TL.asg (.bool false) rfl rfl rfl ?_
                    refine TL.done ?_
                    refine TQ.then ?_
                    refine TC.ret ?_
                    refine FQ.ret2 (v := (.int _ _)) (x := (.bool false)) (Bs := [_]) [0] rfl rfl rfl rfl ⟨rfl, trivial⟩ ?_
                    first | (have e3 := ploop_end hI (g3.symm.trans (scanUp_stop (by first | exact .inl (by omega) | exact .inr (ltF (by assumption))))) (g4.symm.trans (scanDown_stop (by first | exact .inl (by omega) | exact .inr (nT (by assumption))))) (by omega); have e := part_F (g1.symm.trans (scanUp_stop (by first | exact .inl (by omega) | exact .inr (ltF (by assumption))))) (g2.symm.trans (scanDown_stop (by first | exact .inl (by omega) | exact .inr (nT (by assumption))))) (by omega) e3; exact ⟨by rw [e] <;> rfl, by rw [e] <;> rfl⟩) | (have e := part_T (g1.symm.trans (scanUp_stop (by first | exact .inl (by omega) | exact .inr (ltF (by assumption))))) (g2.symm.trans (scanDown_stop (by first | exact .inl (by omega) | exact .inr (nT (by assumption))))) (by omega); exact ⟨by rw [e] <;> rfl, by rw [e] <;> rfl⟩)
                  · skip
                    refine TL.done ?_
                    refine TQ.then ?_
                    refine TC.condF rfl ?_
                    refine TC.skip ?_
                    refine TQ.then ?_
                    refine TC.seq ?_
                    refine TC.draw2 [(0, true), (1, true), (2, true), (3, true), (4, true), (5, true), (6, true), (7, true), (8, true), (9, true), (10, true), (11, true), (12, true)] 13 [(14, true), (15, false)] [0] fc_m (by kernel_rfl) ?_
                    refine TL.mv (.slice _ _ _) rfl rfl rfl ?_
                    refine TL.mv (.int _ _) rfl rfl rfl ?_
                    refine TL.mv (.slice _ _ _) rfl rfl rfl ?_
                    refine TL.mv (.int _ _) rfl rfl rfl ?_
                    refine TL.mv (.slice _ _ _) rfl rfl rfl ?_
                    refine TL.mv (.int _ _) rfl rfl rfl ?_
                    refine TL.iaO rfl ha rfl fc_l22_29_9 (by omega) rfl rfl ?_
                    refine TL.ldR 0 rfl rfl rowW_of (by omega) fc_a29_9 rfl rfl ?_
                    refine TL.mv (.slice _ _ _) rfl rfl rfl ?_
                    refine TL.mv (.int _ _) rfl rfl rfl ?_
                    refine TL.iaO rfl ha rfl fc_l22_29_9 (by omega) rfl rfl ?_
                    refine TL.ldR 0 rfl rfl rowW_of (by omega) fc_a29_9 rfl rfl ?_
                    refine TL.iaO rfl ha rfl fc_l22_29_9 (by omega) rfl rfl ?_
                    refine TL.late ?_
                    refine TL.stR 0 rfl rfl rfl encA_ok (by omega) fc_a29_9 rfl rfl trivial ?_
                    refine TL.iaO rfl ha rfl fc_l22_29_9 (by omega) rfl rfl ?_
                    refine TL.stR 0 rfl rfl rfl encA_ok (by omega) fc_a29_9 rfl rfl trivial ?_
                    refine TL.done ?_
                    refine TQ.then ?_
                    refine TC.seq ?_
                    refine TC.region ?_
                    refine TL.mv (.int _ _) rfl rfl rfl ?_
                    refine TL.add (((i3 + 1 : Nat) : Int)) rfl rfl (wrN (by omega)) rfl rfl ?_
                    refine TL.asg (.int _ _) rfl rfl rfl ?_
                    refine TL.done ?_
                    refine TQ.then ?_
                    refine TC.region ?_
                    refine TL.mv (.int _ _) rfl rfl rfl ?_
                    refine TL.sub (((j3 - 1 : Nat) : Int)) rfl rfl (wrN (by omega)) rfl rfl ?_
                    refine TL.asg (.int _ _) rfl rfl rfl ?_
                    refine TL.done ?_
                    refine TQ.inBlock ?_
                    refine TQ.roundK ((i3 + 1, j3 - 1, swp d2 i3 j3)) ⟨⟨by omega, by omega, by omega, ploop_go hI (g3.symm.trans (scanUp_stop (by first | exact .inl (by omega) | exact .inr (ltF (by assumption))))) (g4.symm.trans (scanDown_stop (by first | exact .inl (by omega) | exact .inr (nT (by assumption))))) (by omega) (by omega) (by omega)⟩, by show j3 - 1 + 1 - (i3 + 1) < j2 + 1 - i2; omega⟩ ⟨rfl, rfl, trivial⟩ ⟨rfl, trivial⟩ (.cons rfl rfl (.cons rfl rfl (.cons rfl rfl (.cons rfl rfl (.cons rfl rfl trivial))))) trivial
                · skip
                  refine TL.not false true rfl rfl rfl rfl ?_
                  refine TL.pickT (.bool true) rfl rfl rfl rfl ?_
                  refine TL.done ?_
                  refine TQ.then ?_
                  refine TC.condT rfl ?_
                  refine TC.skip ?_
                  refine TQ.then ?_
                  refine TC.block ?_
                  refine TC.region ?_
                  refine TL.mv (.int _ _) rfl rfl rfl ?_
                  refine TL.sub (((j3 - 1 : Nat) : Int)) rfl rfl (wrN (by omega)) rfl rfl ?_
                  refine TL.asg (.int _ _) rfl rfl rfl ?_
                  refine TL.done ?_
                  refine TQ.inBlock ?_
                  refine TQ.roundK (j3 - 1) ⟨⟨by omega, (scanDown_go (p := (fun x => !ltf cf x (d2)[lo]!)) (d := d2) (by omega) (by omega) (nF (by assumption))).trans g4⟩, by omega⟩ ⟨rfl, trivial⟩ ⟨rfl, trivial⟩ (.cons rfl rfl (.cons rfl rfl (.cons rfl rfl (.cons rfl rfl (.cons rfl rfl (.cons rfl rfl trivial)))))) trivial
              · skip
                refine TL.mv (.bool false) rfl rfl rfl ?_
                refine TL.off rfl rfl ?_
                refine TL.off rfl rfl ?_
                refine TL.off rfl rfl ?_
                refine TL.off rfl rfl ?_
                refine TL.off rfl rfl ?_
                refine TL.off rfl rfl ?_
                refine TL.off rfl rfl ?_
                refine TL.off rfl rfl ?_
                refine TL.off rfl rfl ?_
                refine TL.off rfl rfl ?_
                refine TL.off rfl rfl ?_
                refine TL.off rfl rfl ?_
                refine TL.pickF (.bool false) rfl rfl rfl rfl ?_
                refine TL.done ?_
                refine TQ.then ?_
                refine TC.condF rfl ?_
                refine TC.exit ?_
                refine TQ.thenExit ?_
                refine TQ.thenExit ?_
                refine TQ.blockHere ?_
                refine TQ.then ?_
                refine TC.seq ?_
                refine TC.seq ?_
                refine TC.region ?_
                refine TL.mv (.int _ _) rfl rfl rfl ?_
                refine TL.mv (.int _ _) rfl rfl rfl ?_
                refine TL.gtr rfl rfl rfl rfl (fun q8 => ?_) (fun q8 => ?_)
                · skip
                  refine TL.done ?_
                  refine TQ.then ?_
                  refine TC.condT rfl ?_
                  refine TC.exit ?_
                  refine TQ.thenExit ?_
                  refine TQ.blockOut rfl ?_
                  refine TQ.thenExit ?_
                  refine TQ.blockHere ?_
                  refine TQ.then ?_
                  refine TC.seq ?_
                  refine TC.draw2 [(0, true), (1, true), (2, true), (3, true), (4, true), (5, true), (6, true), (7, true), (8, true), (9, true), (10, true), (11, true), (12, true)] 13 [(14, true), (15, false)] [0] fc_m (by kernel_rfl) ?_
                  refine TL.mv (.slice _ _ _) rfl rfl rfl ?_
                  refine TL.mv (.int _ _) rfl rfl rfl ?_
                  refine TL.mv (.slice _ _ _) rfl rfl rfl ?_
                  refine TL.mv (.int _ _) rfl rfl rfl ?_
                  refine TL.mv (.slice _ _ _) rfl rfl rfl ?_
                  refine TL.mv (.int _ _) rfl rfl rfl ?_
                  refine TL.iaO rfl ha rfl fc_l22_29_9 (by omega) rfl rfl ?_
                  refine TL.ldR 0 rfl rfl rowW_of (by omega) fc_a29_9 rfl rfl ?_
                  refine TL.mv (.slice _ _ _) rfl rfl rfl ?_
                  refine TL.mv (.int _ _) rfl rfl rfl ?_
                  refine TL.iaO rfl ha rfl fc_l22_29_9 (by omega) rfl rfl ?_
                  refine TL.ldR 0 rfl rfl rowW_of (by omega) fc_a29_9 rfl rfl ?_
                  refine TL.iaO rfl ha rfl fc_l22_29_9 (by omega) rfl rfl ?_
                  refine TL.late ?_
                  refine TL.stR 0 rfl rfl rfl encA_ok (by omega) fc_a29_9 rfl rfl trivial ?_
                  refine TL.iaO rfl ha rfl fc_l22_29_9 (by omega) rfl rfl ?_
                  refine TL.stR 0 rfl rfl rfl encA_ok (by omega) fc_a29_9 rfl rfl trivial ?_
                  refine TL.done ?_
                  refine TQ.then ?_
                  refine TC.seq ?_
                  refine TC.region ?_
                  refine TL.mv (.int _ _) rfl rfl rfl ?_
                  refine TL.asg (.int _ _) rfl rfl rfl ?_
                  refine TL.asg (.bool false) rfl rfl rfl ?_
                  refine TL.done ?_
                  refine TQ.then ?_
                  refine TC.ret ?_
                  refine FQ.ret2 (v := (.int _ _)) (x := (.bool false)) (Bs := [_]) [0] rfl rfl rfl rfl ⟨rfl, trivial⟩ ?_
                  first | (have e3 := ploop_end hI (g3.symm.trans (scanUp_stop (by first | exact .inl (by omega) | exact .inr (ltF (by assumption))))) (g4.symm.trans (scanDown_stop (by first | exact .inl (by omega) | exact .inr (nT (by assumption))))) (by omega); have e := part_F (g1.symm.trans (scanUp_stop (by first | exact .inl (by omega) | exact .inr (ltF (by assumption))))) (g2.symm.trans (scanDown_stop (by first | exact .inl (by omega) | exact .inr (nT (by assumption))))) (by omega) e3; exact ⟨by rw [e] <;> rfl, by rw [e] <;> rfl⟩) | (have e := part_T (g1.symm.trans (scanUp_stop (by first | exact .inl (by omega) | exact .inr (ltF (by assumption))))) (g2.symm.trans (scanDown_stop (by first | exact .inl (by omega) | exact .inr (nT (by assumption))))) (by omega); exact ⟨by rw [e] <;> rfl, by rw [e] <;> rfl⟩)
                · skip
                  refine TL.done ?_
                  refine TQ.then ?_
                  refine TC.condF rfl ?_
                  refine TC.skip ?_
                  refine TQ.then ?_
                  refine TC.seq ?_
                  refine TC.draw2 [(0, true), (1, true), (2, true), (3, true), (4, true), (5, true), (6, true), (7, true), (8, true), (9, true), (10, true), (11, true), (12, true)] 13 [(14, true), (15, false)] [0] fc_m (by kernel_rfl) ?_
                  refine TL.mv (.slice _ _ _) rfl rfl rfl ?_
                  refine TL.mv (.int _ _) rfl rfl rfl ?_
                  refine TL.mv (.slice _ _ _) rfl rfl rfl ?_
                  refine TL.mv (.int _ _) rfl rfl rfl ?_
                  refine TL.mv (.slice _ _ _) rfl rfl rfl ?_
                  refine TL.mv (.int _ _) rfl rfl rfl ?_
                  refine TL.iaO rfl ha rfl fc_l22_29_9 (by omega) rfl rfl ?_
                  refine TL.ldR 0 rfl rfl rowW_of (by omega) fc_a29_9 rfl rfl ?_
                  refine TL.mv (.slice _ _ _) rfl rfl rfl ?_
                  refine TL.mv (.int _ _) rfl rfl rfl ?_
                  refine TL.iaO rfl ha rfl fc_l22_29_9 (by omega) rfl rfl ?_
                  refine TL.ldR 0 rfl rfl rowW_of (by omega) fc_a29_9 rfl rfl ?_
                  refine TL.iaO rfl ha rfl fc_l22_29_9 (by omega) rfl rfl ?_
                  refine TL.late ?_
                  refine TL.stR 0 rfl rfl rfl encA_ok (by omega) fc_a29_9 rfl rfl trivial ?_
                  refine TL.iaO rfl ha rfl fc_l22_29_9 (by omega) rfl rfl ?_
                  refine TL.stR 0 rfl rfl rfl encA_ok (by omega) fc_a29_9 rfl rfl trivial ?_
                  refine TL.done ?_
                  refine TQ.then ?_
                  refine TC.seq ?_
                  refine TC.region ?_
                  refine TL.mv (.int _ _) rfl rfl rfl ?_
                  refine TL.add (((i3 + 1 : Nat) : Int)) rfl rfl (wrN (by omega)) rfl rfl ?_
                  refine TL.asg (.int _ _) rfl rfl rfl ?_
                  refine TL.done ?_
                  refine TQ.then ?_
                  refine TC.region ?_
                  refine TL.mv (.int _ _) rfl rfl rfl ?_
                  refine TL.sub (((j3 - 1 : Nat) : Int)) rfl rfl (wrN (by omega)) rfl rfl ?_
                  refine TL.asg (.int _ _) rfl rfl rfl ?_
                  refine TL.done ?_
                  refine TQ.inBlock ?_
                  refine TQ.roundK ((i3 + 1, j3 - 1, swp d2 i3 j3)) ⟨⟨by omega, by omega, by omega, ploop_go hI (g3.symm.trans (scanUp_stop (by first | exact .inl (by omega) | exact .inr (ltF (by assumption))))) (g4.symm.trans (scanDown_stop (by first | exact .inl (by omega) | exact .inr (nT (by assumption))))) (by omega) (by omega) (by omega)⟩, by show j3 - 1 + 1 - (i3 + 1) < j2 + 1 - i2; omega⟩ ⟨rfl, rfl, trivial⟩ ⟨rfl, trivial⟩ (.cons rfl rfl (.cons rfl rfl (.cons rfl rfl (.cons rfl rfl (.cons rfl rfl trivial))))) trivial
        · skip
          refine TL.not false true rfl rfl rfl rfl ?_
          refine TL.pickT (.bool true) rfl rfl rfl rfl ?_
          refine TL.done ?_
          refine TQ.then ?_
          refine TC.condT rfl ?_
          refine TC.skip ?_
          refine TQ.then ?_
          refine TC.block ?_
          refine TC.region ?_
          refine TL.mv (.int _ _) rfl rfl rfl ?_
          refine TL.sub (((j - 1 : Nat) : Int)) rfl rfl (wrN (by omega)) rfl rfl ?_
          refine TL.asg (.int _ _) rfl rfl rfl ?_
          refine TL.done ?_
          refine TQ.inBlock ?_
          refine TQ.roundK (j - 1) ⟨⟨by omega, (scanDown_go (p := (fun x => !ltf cf x (swp d lo pv)[lo]!)) (d := swp d lo pv) (by omega) (by omega) (nF (by assumption))).trans g2⟩, by omega⟩ ⟨rfl, trivial⟩ ⟨rfl, trivial⟩ (.cons rfl rfl (.cons rfl rfl (.cons rfl rfl (.cons rfl rfl (.cons rfl rfl (.cons rfl rfl trivial)))))) trivial
      · skip
        refine TL.mv (.bool false) rfl rfl rfl ?_
        refine TL.off rfl rfl ?_
        refine TL.off rfl rfl ?_
        refine TL.off rfl rfl ?_
        refine TL.off rfl rfl ?_
        refine TL.off rfl rfl ?_
        refine TL.off rfl rfl ?_
        refine TL.off rfl rfl ?_
        refine TL.off rfl rfl ?_
        refine TL.off rfl rfl ?_
        refine TL.off rfl rfl ?_
        refine TL.off rfl rfl ?_
        refine TL.off rfl rfl ?_
        refine TL.pickF (.bool false) rfl rfl rfl rfl ?_
        refine TL.done ?_
        refine TQ.then ?_
        refine TC.condF rfl ?_
        refine TC.exit ?_
        refine TQ.thenExit ?_
        refine TQ.thenExit ?_
        refine TQ.blockHere ?_
        refine TQ.then ?_
        refine TC.seq ?_
        refine TC.seq ?_
        refine TC.region ?_
        refine TL.mv (.int _ _) rfl rfl rfl ?_
        refine TL.mv (.int _ _) rfl rfl rfl ?_
        refine TL.gtr rfl rfl rfl rfl (fun q4 => ?_) (fun q4 => ?_)
        · skip
          refine TL.done ?_
          refine TQ.then ?_
          refine TC.condT rfl ?_
          refine TC.seq ?_
          refine TC.draw2 [(0, true), (1, true), (2, true), (3, true), (4, true), (5, true), (6, true), (7, true), (8, true), (9, true), (10, true), (11, true), (12, true)] 13 [(14, true), (15, false)] [0] fc_m (by kernel_rfl) ?_
          refine TL.mv (.slice _ _ _) rfl rfl rfl ?_
          refine TL.mv (.int _ _) rfl rfl rfl ?_
          refine TL.mv (.slice _ _ _) rfl rfl rfl ?_
          refine TL.mv (.int _ _) rfl rfl rfl ?_
          refine TL.mv (.slice _ _ _) rfl rfl rfl ?_
          refine TL.mv (.int _ _) rfl rfl rfl ?_
          refine TL.iaO rfl ha rfl fc_l22_29_9 (by omega) rfl rfl ?_
          refine TL.ldR 0 rfl rfl rowW_of (by omega) fc_a29_9 rfl rfl ?_
          refine TL.mv (.slice _ _ _) rfl rfl rfl ?_
          refine TL.mv (.int _ _) rfl rfl rfl ?_
          refine TL.iaO rfl ha rfl fc_l22_29_9 (by omega) rfl rfl ?_
          refine TL.ldR 0 rfl rfl rowW_of (by omega) fc_a29_9 rfl rfl ?_
          refine TL.iaO rfl ha rfl fc_l22_29_9 (by omega) rfl rfl ?_
          refine TL.late ?_
          refine TL.stR 0 rfl rfl rfl encA_ok (by omega) fc_a29_9 rfl rfl trivial ?_
          refine TL.iaO rfl ha rfl fc_l22_29_9 (by omega) rfl rfl ?_
          refine TL.stR 0 rfl rfl rfl encA_ok (by omega) fc_a29_9 rfl rfl trivial ?_
          refine TL.done ?_
          refine TQ.then ?_
          refine TC.seq ?_
          refine TC.region ?_
          refine TL.mv (.int _ _) rfl rfl rfl ?_
          refine TL.asg (.int _ _) rfl rfl rfl ?_
          refine TL.asg (.bool true) rfl rfl rfl ?_
          refine TL.done ?_
          refine TQ.then ?_
          refine TC.ret ?_
          refine TQ.thenRet ?_
          refine FQ.ret2 (v := (.int _ _)) (x := (.bool true)) (Bs := [_]) [0] rfl rfl rfl rfl ⟨rfl, trivial⟩ ?_
          first | (have e3 := ploop_end hI (g3.symm.trans (scanUp_stop (by first | exact .inl (by omega) | exact .inr (ltF (by assumption))))) (g4.symm.trans (scanDown_stop (by first | exact .inl (by omega) | exact .inr (nT (by assumption))))) (by omega); have e := part_F (g1.symm.trans (scanUp_stop (by first | exact .inl (by omega) | exact .inr (ltF (by assumption))))) (g2.symm.trans (scanDown_stop (by first | exact .inl (by omega) | exact .inr (nT (by assumption))))) (by omega) e3; exact ⟨by rw [e] <;> rfl, by rw [e] <;> rfl⟩) | (have e := part_T (g1.symm.trans (scanUp_stop (by first | exact .inl (by omega) | exact .inr (ltF (by assumption))))) (g2.symm.trans (scanDown_stop (by first | exact .inl (by omega) | exact .inr (nT (by assumption))))) (by omega); exact ⟨by rw [e] <;> rfl, by rw [e] <;> rfl⟩)
        · skip
          refine TL.done ?_
          refine TQ.then ?_
          refine TC.condF rfl ?_
          refine TC.skip ?_
          refine TQ.then ?_
          refine TC.seq ?_
          refine TC.draw2 [(0, true), (1, true), (2, true), (3, true), (4, true), (5, true), (6, true), (7, true), (8, true), (9, true), (10, true), (11, true), (12, true)] 13 [(14, true), (15, false)] [0] fc_m (by kernel_rfl) ?_
          refine TL.mv (.slice _ _ _) rfl rfl rfl ?_
          refine TL.mv (.int _ _) rfl rfl rfl ?_
          refine TL.mv (.slice _ _ _) rfl rfl rfl ?_
          refine TL.mv (.int _ _) rfl rfl rfl ?_
          refine TL.mv (.slice _ _ _) rfl rfl rfl ?_
          refine TL.mv (.int _ _) rfl rfl rfl ?_
          refine TL.iaO rfl ha rfl fc_l22_29_9 (by omega) rfl rfl ?_
          refine TL.ldR 0 rfl rfl rowW_of (by omega) fc_a29_9 rfl rfl ?_
          refine TL.mv (.slice _ _ _) rfl rfl rfl ?_
          refine TL.mv (.int _ _) rfl rfl rfl ?_
          refine TL.iaO rfl ha rfl fc_l22_29_9 (by omega) rfl rfl ?_
          refine TL.ldR 0 rfl rfl rowW_of (by omega) fc_a29_9 rfl rfl ?_
          refine TL.iaO rfl ha rfl fc_l22_29_9 (by omega) rfl rfl ?_
          refine TL.late ?_
          refine TL.stR 0 rfl rfl rfl encA_ok (by omega) fc_a29_9 rfl rfl trivial ?_
          refine TL.iaO rfl ha rfl fc_l22_29_9 (by omega) rfl rfl ?_
          refine TL.stR 0 rfl rfl rfl encA_ok (by omega) fc_a29_9 rfl rfl trivial ?_
          refine TL.done ?_
          refine TQ.then ?_
          refine TC.seq ?_
          refine TC.region ?_
          refine TL.mv (.int _ _) rfl rfl rfl ?_
          refine TL.add (((i + 1 : Nat) : Int)) rfl rfl (wrN (by omega)) rfl rfl ?_
          refine TL.asg (.int _ _) rfl rfl rfl ?_
          refine TL.done ?_
          refine TQ.then ?_
          refine TC.seq ?_
          refine TC.region ?_
          refine TL.mv (.int _ _) rfl rfl rfl ?_
          refine TL.sub (((j - 1 : Nat) : Int)) rfl rfl (wrN (by omega)) rfl rfl ?_
          refine TL.asg (.int _ _) rfl rfl rfl ?_
          refine TL.done ?_
          refine TQ.then ?_
          refine TC.seq ?_
          refine TC.block ?_
          refine TC.loopK (X := Nat × Nat × Array Ans) [0, 1, 4, 10, 11] [] (fun ⟨i2, j2, d2⟩ => [(12, .int .i64 ((i2 : Nat) : Int)), (13, .int .i64 ((j2 : Nat) : Int))]) (fun ⟨i2, j2, d2⟩ => [(0, rw9 b off n d2)]) (fun ⟨i2, j2, d2⟩ => lo < i2 ∧ i2 ≤ n ∧ j2 < n ∧ partLoop (ltf cf) lo i2 j2 d2 = partLoop (ltf cf) lo (i + 1) (j - 1) (swp (swp d lo pv) i j)) (fun ⟨i2, j2, d2⟩ => j2 + 1 - i2) ((i + 1, j - 1, swp (swp d lo pv) i j)) ⟨by omega, by omega, by omega, rfl⟩ ⟨rfl, rfl, trivial⟩ ⟨rfl, trivial⟩ (fun y hI => ?_)
          obtain ⟨i2, j2, d2⟩ := y
          obtain ⟨u1, u2, u3, hI⟩ := hI
          replace u1 : lo < i2 := u1
          replace u2 : i2 ≤ n := u2
          replace u3 : j2 < n := u3
          replace hI : partLoop (ltf cf) lo i2 j2 d2 = partLoop (ltf cf) lo (i + 1) (j - 1) (swp (swp d lo pv) i j) := hI
          refine TC.sub (env' := [(12, _), (13, _), (0, _), (1, _), (4, _), (10, _), (11, _)]) (L' := [(0, _)]) ⟨rfl, rfl, rfl, rfl, rfl, rfl, rfl, trivial⟩ ⟨rfl, trivial⟩ ?_
          refine TC.block ?_
          refine TC.seq ?_
          refine TC.block ?_
          refine TC.loopK (X := Nat) [0, 1, 4, 10, 11, 13] [] (fun i3 => [(12, .int .i64 ((i3 : Nat) : Int))]) (fun i3 => [(0, rw9 b off n (d2))]) (fun i3 => i2 ≤ i3 ∧ i3 ≤ n ∧ scanUp (fun x => ltf cf x (d2)[lo]!) (d2) (j2) (i3) = scanUp (fun x => ltf cf x (d2)[lo]!) (d2) (j2) (i2)) (fun i3 => j2 + 1 - i3) (i2) ⟨by omega, by omega, rfl⟩ ⟨rfl, trivial⟩ ⟨rfl, trivial⟩ (fun i3 hI => ?_)
          obtain ⟨g3a, g3b, g3⟩ := hI
          refine TC.sub (env' := [(12, _), (0, _), (1, _), (4, _), (10, _), (11, _), (13, _)]) (L' := [(0, _)]) ⟨rfl, rfl, rfl, rfl, rfl, rfl, rfl, trivial⟩ ⟨rfl, trivial⟩ ?_
          refine TC.seq ?_
          refine TC.seq ?_
          refine TC.draw [(0, true), (1, true), (2, true), (3, true), (4, true), (5, true), (6, true), (7, true), (8, true), (9, true), (10, true), (11, true), (12, true), (13, false), (14, true), (15, true)] [0] fc_m (by kernel_rfl) ?_
          refine TL.mv (.int _ _) rfl rfl rfl ?_
          refine TL.mv (.int _ _) rfl rfl rfl ?_
          refine TL.leq rfl rfl rfl rfl (fun q5 => ?_) (fun q5 => ?_)
          · skip
            refine TL.mv (.bool true) rfl rfl rfl ?_
            refine TL.mv _ rfl rfl rfl ?_
            refine TL.mv (.slice _ _ _) rfl rfl rfl ?_
            refine TL.mv (.int _ _) rfl rfl rfl ?_
            refine TL.iaO rfl ha rfl fc_l22_29_9 (by omega) rfl rfl ?_
            refine TL.ldR 0 rfl rfl rowW_of (by omega) fc_a29_9 rfl rfl ?_
            refine TL.mv (.slice _ _ _) rfl rfl rfl ?_
            refine TL.mv (.int _ _) rfl rfl rfl ?_
            refine TL.iaO rfl ha rfl fc_l22_29_9 (by omega) rfl rfl ?_
            refine TL.ldR 0 rfl rfl rowW_of (by omega) fc_a29_9 rfl rfl ?_
            refine TL.callC (c1 := []) (c2 := []) (vs := [_, _]) [] [] rfl (hcmp _ _) ⟨rfl, rfl, trivial⟩ trivial hcb rfl rfl rfl rfl rfl (.cons rfl rfl trivial) ?_
            refine TL.lss rfl rfl rfl rfl (fun q6 => ?_) (fun q6 => ?_)
            · skip
              refine TL.pickT (.bool true) rfl rfl rfl rfl ?_
              refine TL.done ?_
              refine TQ.then ?_
              refine TC.condT rfl ?_
              refine TC.skip ?_
              refine TQ.then ?_
              refine TC.block ?_
              refine TC.region ?_
              refine TL.mv (.int _ _) rfl rfl rfl ?_
              refine TL.add (((i3 + 1 : Nat) : Int)) rfl rfl (wrN (by omega)) rfl rfl ?_
              refine TL.asg (.int _ _) rfl rfl rfl ?_
              refine TL.done ?_
              refine TQ.inBlock ?_
              refine TQ.roundK (i3 + 1) ⟨⟨by omega, by omega, (scanUp_go (p := (fun x => ltf cf x (d2)[lo]!)) (d := d2) (by omega) (ltT (by assumption))).trans g3⟩, by omega⟩ ⟨rfl, trivial⟩ ⟨rfl, trivial⟩ (.cons rfl rfl (.cons rfl rfl (.cons rfl rfl (.cons rfl rfl (.cons rfl rfl (.cons rfl rfl trivial)))))) trivial
            · skip
              refine TL.pickT (.bool false) rfl rfl rfl rfl ?_
              refine TL.done ?_
              refine TQ.then ?_
              refine TC.condF rfl ?_
              refine TC.exit ?_
              refine TQ.thenExit ?_
              refine TQ.thenExit ?_
              refine TQ.blockHere ?_
              refine TQ.then ?_
              refine TC.seq ?_
              refine TC.block ?_
              refine TC.loopK (X := Nat) [0, 1, 4, 10, 11, 12] [] (fun j3 => [(13, .int .i64 ((j3 : Nat) : Int))]) (fun j3 => [(0, rw9 b off n (d2))]) (fun j3 => j3 ≤ j2 ∧ scanDown (fun x => !ltf cf x (d2)[lo]!) (d2) (i3) (j3) = scanDown (fun x => !ltf cf x (d2)[lo]!) (d2) (i3) (j2)) (fun j3 => j3) (j2) ⟨by omega, rfl⟩ ⟨rfl, trivial⟩ ⟨rfl, trivial⟩ (fun j3 hI => ?_)
              obtain ⟨g4a, g4⟩ := hI
              refine TC.sub (env' := [(13, _), (0, _), (1, _), (4, _), (10, _), (11, _), (12, _)]) (L' := [(0, _)]) ⟨rfl, rfl, rfl, rfl, rfl, rfl, rfl, trivial⟩ ⟨rfl, trivial⟩ ?_
              refine TC.seq ?_
              refine TC.seq ?_
              refine TC.draw [(0, true), (1, true), (2, true), (3, true), (4, true), (5, true), (6, true), (7, true), (8, true), (9, true), (10, true), (11, true), (12, true), (13, false), (14, true), (15, true), (16, true)] [0] fc_m (by kernel_rfl) ?_
              refine TL.mv (.int _ _) rfl rfl rfl ?_
              refine TL.mv (.int _ _) rfl rfl rfl ?_
              refine TL.leq rfl rfl rfl rfl (fun q7 => ?_) (fun q7 => ?_)
              · skip
                refine TL.mv (.bool true) rfl rfl rfl ?_
                refine TL.mv _ rfl rfl rfl ?_
                refine TL.mv (.slice _ _ _) rfl rfl rfl ?_
                refine TL.mv (.int _ _) rfl rfl rfl ?_
                refine TL.iaO rfl ha rfl fc_l22_29_9 (by omega) rfl rfl ?_
                refine TL.ldR 0 rfl rfl rowW_of (by omega) fc_a29_9 rfl rfl ?_
                refine TL.mv (.slice _ _ _) rfl rfl rfl ?_
                refine TL.mv (.int _ _) rfl rfl rfl ?_
                refine TL.iaO rfl ha rfl fc_l22_29_9 (by omega) rfl rfl ?_
                refine TL.ldR 0 rfl rfl rowW_of (by omega) fc_a29_9 rfl rfl ?_
                refine TL.callC (c1 := []) (c2 := []) (vs := [_, _]) [] [] rfl (hcmp _ _) ⟨rfl, rfl, trivial⟩ trivial hcb rfl rfl rfl rfl rfl (.cons rfl rfl trivial) ?_
                refine TL.lss rfl rfl rfl rfl (fun q8 => ?_) (fun q8 => ?_)
                · skip
                  refine TL.not true false rfl rfl rfl rfl ?_
                  refine TL.pickT (.bool false) rfl rfl rfl rfl ?_
                  refine TL.done ?_
                  refine TQ.then ?_
                  refine TC.condF rfl ?_
                  refine TC.exit ?_
                  refine TQ.thenExit ?_
                  refine TQ.thenExit ?_
                  refine TQ.blockHere ?_
                  refine TQ.then ?_
                  refine TC.seq ?_
                  refine TC.seq ?_
                  refine TC.region ?_
                  refine TL.mv (.int _ _) rfl rfl rfl ?_
                  refine TL.mv (.int _ _) rfl rfl rfl ?_
                  refine TL.gtr rfl rfl rfl rfl (fun q9 => ?_) (fun q9 => ?_)
                  · skip
                    refine TL.done ?_
                    refine TQ.then ?_
                    refine TC.condT rfl ?_
                    refine TC.exit ?_
                    refine TQ.thenExit ?_
                    refine TQ.blockOut rfl ?_
                    refine TQ.thenExit ?_
                    refine TQ.blockHere ?_
                    refine TQ.then ?_
                    refine TC.seq ?_
                    refine TC.draw2 [(0, true), (1, true), (2, true), (3, true), (4, true), (5, true), (6, true), (7, true), (8, true), (9, true), (10, true), (11, true), (12, true)] 13 [(14, true), (15, false)] [0] fc_m (by kernel_rfl) ?_
                    refine TL.mv (.slice _ _ _) rfl rfl rfl ?_
                    refine TL.mv (.int _ _) rfl rfl rfl ?_
                    refine TL.mv (.slice _ _ _) rfl rfl rfl ?_
                    refine TL.mv (.int _ _) rfl rfl rfl ?_
                    refine TL.mv (.slice _ _ _) rfl rfl rfl ?_
                    refine TL.mv (.int _ _) rfl rfl rfl ?_
                    refine TL.iaO rfl ha rfl fc_l22_29_9 (by omega) rfl rfl ?_
                    refine TL.ldR 0 rfl rfl rowW_of (by omega) fc_a29_9 rfl rfl ?_
                    refine TL.mv (.slice _ _ _) rfl rfl rfl ?_
                    refine TL.mv (.int _ _) rfl rfl rfl ?_
                    refine TL.iaO rfl ha rfl fc_l22_29_9 (by omega) rfl rfl ?_
                    refine TL.ldR 0 rfl rfl rowW_of (by omega) fc_a29_9 rfl rfl ?_
                    refine TL.iaO rfl ha rfl fc_l22_29_9 (by omega) rfl rfl ?_
                    refine TL.late ?_
                    refine TL.stR 0 rfl rfl rfl encA_ok (by omega) fc_a29_9 rfl rfl trivial ?_
                    refine TL.iaO rfl ha rfl fc_l22_29_9 (by omega) rfl rfl ?_
                    refine TL.stR 0 rfl rfl rfl encA_ok (by omega) fc_a29_9 rfl rfl trivial ?_
                    refine TL.done ?_
                    refine TQ.then ?_
                    refine TC.seq ?_
                    refine TC.region ?_
                    refine TL.mv (.int _ _) rfl rfl rfl ?_
                    refine TL.asg (.int _ _) rfl rfl rfl ?_
                    refine TL.asg (.bool false) rfl rfl rfl ?_
                    refine TL.done ?_
                    refine TQ.then ?_
                    refine TC.ret ?_
                    refine FQ.ret2 (v := (.int _ _)) (x := (.bool false)) (Bs := [_]) [0] rfl rfl rfl rfl ⟨rfl, trivial⟩ ?_
                    first | (have e3 := ploop_end hI (g3.symm.trans (scanUp_stop (by first | exact .inl (by omega) | exact .inr (ltF (by assumption))))) (g4.symm.trans (scanDown_stop (by first | exact .inl (by omega) | exact .inr (nT (by assumption))))) (by omega); have e := part_F (g1.symm.trans (scanUp_stop (by first | exact .inl (by omega) | exact .inr (ltF (by assumption))))) (g2.symm.trans (scanDown_stop (by first | exact .inl (by omega) | exact .inr (nT (by assumption))))) (by omega) e3; exact ⟨by rw [e] <;> rfl, by rw [e] <;> rfl⟩) | (have e := part_T (g1.symm.trans (scanUp_stop (by first | exact .inl (by omega) | exact .inr (ltF (by assumption))))) (g2.symm.trans (scanDown_stop (by first | exact .inl (by omega) | exact .inr (nT (by assumption))))) (by omega); exact ⟨by rw [e] <;> rfl, by rw [e] <;> rfl⟩)
                  · skip
                    refine TL.done ?_
                    refine TQ.then ?_
                    refine TC.condF rfl ?_
                    refine TC.skip ?_
                    refine TQ.then ?_
                    refine TC.seq ?_
                    refine TC.draw2 [(0, true), (1, true), (2, true), (3, true), (4, true), (5, true), (6, true), (7, true), (8, true), (9, true), (10, true), (11, true), (12, true)] 13 [(14, true), (15, false)] [0] fc_m (by kernel_rfl) ?_
                    refine TL.mv (.slice _ _ _) rfl rfl rfl ?_
                    refine TL.mv (.int _ _) rfl rfl rfl ?_
                    refine TL.mv (.slice _ _ _) rfl rfl rfl ?_
                    refine TL.mv (.int _ _) rfl rfl rfl ?_
                    refine TL.mv (.slice _ _ _) rfl rfl rfl ?_
                    refine TL.mv (.int _ _) rfl rfl rfl ?_
                    refine TL.iaO rfl ha rfl fc_l22_29_9 (by omega) rfl rfl ?_
                    refine TL.ldR 0 rfl rfl rowW_of (by omega) fc_a29_9 rfl rfl ?_
                    refine TL.mv (.slice _ _ _) rfl rfl rfl ?_
                    refine TL.mv (.int _ _) rfl rfl rfl ?_
                    refine TL.iaO rfl ha rfl fc_l22_29_9 (by omega) rfl rfl ?_
                    refine TL.ldR 0 rfl rfl rowW_of (by omega) fc_a29_9 rfl rfl ?_
                    refine TL.iaO rfl ha rfl fc_l22_29_9 (by omega) rfl rfl ?_
                    refine TL.late ?_
                    refine TL.stR 0 rfl rfl rfl encA_ok (by omega) fc_a29_9 rfl rfl trivial ?_
                    refine TL.iaO rfl ha rfl fc_l22_29_9 (by omega) rfl rfl ?_
                    refine TL.stR 0 rfl rfl rfl encA_ok (by omega) fc_a29_9 rfl rfl trivial ?_
                    refine TL.done ?_
                    refine TQ.then ?_
                    refine TC.seq ?_
                    refine TC.region ?_
                    refine TL.mv (.int _ _) rfl rfl rfl ?_
                    refine TL.add (((i3 + 1 : Nat) : Int)) rfl rfl (wrN (by omega)) rfl rfl ?_
                    refine TL.asg (.int _ _) rfl rfl rfl ?_
                    refine TL.done ?_
                    refine TQ.then ?_
                    refine TC.region ?_
                    refine TL.mv (.int _ _) rfl rfl rfl ?_
                    refine TL.sub (((j3 - 1 : Nat) : Int)) rfl rfl (wrN (by omega)) rfl rfl ?_
                    refine TL.asg (.int _ _) rfl rfl rfl ?_
                    refine TL.done ?_
                    refine TQ.inBlock ?_
                    refine TQ.roundK ((i3 + 1, j3 - 1, swp d2 i3 j3)) ⟨⟨by omega, by omega, by omega, ploop_go hI (g3.symm.trans (scanUp_stop (by first | exact .inl (by omega) | exact .inr (ltF (by assumption))))) (g4.symm.trans (scanDown_stop (by first | exact .inl (by omega) | exact .inr (nT (by assumption))))) (by omega) (by omega) (by omega)⟩, by show j3 - 1 + 1 - (i3 + 1) < j2 + 1 - i2; omega⟩ ⟨rfl, rfl, trivial⟩ ⟨rfl, trivial⟩ (.cons rfl rfl (.cons rfl rfl (.cons rfl rfl (.cons rfl rfl (.cons rfl rfl trivial))))) trivial
                · skip
                  refine TL.not false true rfl rfl rfl rfl ?_
                  refine TL.pickT (.bool true) rfl rfl rfl rfl ?_
                  refine TL.done ?_
                  refine TQ.then ?_
                  refine TC.condT rfl ?_
                  refine TC.skip ?_
                  refine TQ.then ?_
                  refine TC.block ?_
                  refine TC.region ?_
                  refine TL.mv (.int _ _) rfl rfl rfl ?_
                  refine TL.sub (((j3 - 1 : Nat) : Int)) rfl rfl (wrN (by omega)) rfl rfl ?_
                  refine TL.asg (.int _ _) rfl rfl rfl ?_
                  refine TL.done ?_
                  refine TQ.inBlock ?_
                  refine TQ.roundK (j3 - 1) ⟨⟨by omega, (scanDown_go (p := (fun x => !ltf cf x (d2)[lo]!)) (d := d2) (by omega) (by omega) (nF (by assumption))).trans g4⟩, by omega⟩ ⟨rfl, trivial⟩ ⟨rfl, trivial⟩ (.cons rfl rfl (.cons rfl rfl (.cons rfl rfl (.cons rfl rfl (.cons rfl rfl (.cons rfl rfl trivial)))))) trivial
              · skip
                refine TL.mv (.bool false) rfl rfl rfl ?_
                refine TL.off rfl rfl ?_
                refine TL.off rfl rfl ?_
                refine TL.off rfl rfl ?_
                refine TL.off rfl rfl ?_
                refine TL.off rfl rfl ?_
                refine TL.off rfl rfl ?_
                refine TL.off rfl rfl ?_
                refine TL.off rfl rfl ?_
                refine TL.off rfl rfl ?_
                refine TL.off rfl rfl ?_
                refine TL.off rfl rfl ?_
                refine TL.off rfl rfl ?_
                refine TL.pickF (.bool false) rfl rfl rfl rfl ?_
                refine TL.done ?_
                refine TQ.then ?_
                refine TC.condF rfl ?_
                refine TC.exit ?_
                refine TQ.thenExit ?_
                refine TQ.thenExit ?_
                refine TQ.blockHere ?_
                refine TQ.then ?_
                refine TC.seq ?_
                refine TC.seq ?_
                refine TC.region ?_
                refine TL.mv (.int _ _) rfl rfl rfl ?_
                refine TL.mv (.int _ _) rfl rfl rfl ?_
                refine TL.gtr rfl rfl rfl rfl (fun q8 => ?_) (fun q8 => ?_)
                · skip
                  refine TL.done ?_
                  refine TQ.then ?_
                  refine TC.condT rfl ?_
                  refine TC.exit ?_
                  refine TQ.thenExit ?_
                  refine TQ.blockOut rfl ?_
                  refine TQ.thenExit ?_
                  refine TQ.blockHere ?_
                  refine TQ.then ?_
                  refine TC.seq ?_
                  refine TC.draw2 [(0, true), (1, true), (2, true), (3, true), (4, true), (5, true), (6, true), (7, true), (8, true), (9, true), (10, true), (11, true), (12, true)] 13 [(14, true), (15, false)] [0] fc_m (by kernel_rfl) ?_
                  refine TL.mv (.slice _ _ _) rfl rfl rfl ?_
                  refine TL.mv (.int _ _) rfl rfl rfl ?_
                  refine TL.mv (.slice _ _ _) rfl rfl rfl ?_
                  refine TL.mv (.int _ _) rfl rfl rfl ?_
                  refine TL.mv (.slice _ _ _) rfl rfl rfl ?_
                  refine TL.mv (.int _ _) rfl rfl rfl ?_
                  refine TL.iaO rfl ha rfl fc_l22_29_9 (by omega) rfl rfl ?_
                  refine TL.ldR 0 rfl rfl rowW_of (by omega) fc_a29_9 rfl rfl ?_
                  refine TL.mv (.slice _ _ _) rfl rfl rfl ?_
                  refine TL.mv (.int _ _) rfl rfl rfl ?_
                  refine TL.iaO rfl ha rfl fc_l22_29_9 (by omega) rfl rfl ?_
                  refine TL.ldR 0 rfl rfl rowW_of (by omega) fc_a29_9 rfl rfl ?_
                  refine TL.iaO rfl ha rfl fc_l22_29_9 (by omega) rfl rfl ?_
                  refine TL.late ?_
                  refine TL.stR 0 rfl rfl rfl encA_ok (by omega) fc_a29_9 rfl rfl trivial ?_
                  refine TL.iaO rfl ha rfl fc_l22_29_9 (by omega) rfl rfl ?_
                  refine TL.stR 0 rfl rfl rfl encA_ok (by omega) fc_a29_9 rfl rfl trivial ?_
                  refine TL.done ?_
                  refine TQ.then ?_
                  refine TC.seq ?_
                  refine TC.region ?_
                  refine TL.mv (.int _ _) rfl rfl rfl ?_
                  refine TL.asg (.int _ _) rfl rfl rfl ?_
                  refine TL.asg (.bool false) rfl rfl rfl ?_
                  refine TL.done ?_
                  refine TQ.then ?_
                  refine TC.ret ?_
                  refine FQ.ret2 (v := (.int _ _)) (x := (.bool false)) (Bs := [_]) [0] rfl rfl rfl rfl ⟨rfl, trivial⟩ ?_
                  first | (have e3 := ploop_end hI (g3.symm.trans (scanUp_stop (by first | exact .inl (by omega) | exact .inr (ltF (by assumption))))) (g4.symm.trans (scanDown_stop (by first | exact .inl (by omega) | exact .inr (nT (by assumption))))) (by omega); have e := part_F (g1.symm.trans (scanUp_stop (by first | exact .inl (by omega) | exact .inr (ltF (by assumption))))) (g2.symm.trans (scanDown_stop (by first | exact .inl (by omega) | exact .inr (nT (by assumption))))) (by omega) e3; exact ⟨by rw [e] <;> rfl, by rw [e] <;> rfl⟩) | (have e := part_T (g1.symm.trans (scanUp_stop (by first | exact .inl (by omega) | exact .inr (ltF (by assumption))))) (g2.symm.trans (scanDown_stop (by first | exact .inl (by omega) | exact .inr (nT (by assumption))))) (by omega); exact ⟨by rw [e] <;> rfl, by rw [e] <;> rfl⟩)
                · skip
                  refine TL.done ?_
                  refine TQ.then ?_
                  refine TC.condF rfl ?_
                  refine TC.skip ?_
                  refine TQ.then ?_
                  refine TC.seq ?_
                  refine TC.draw2 [(0, true), (1, true), (2, true), (3, true), (4, true), (5, true), (6, true), (7, true), (8, true), (9, true), (10, true), (11, true), (12, true)] 13 [(14, true), (15, false)] [0] fc_m (by kernel_rfl) ?_
                  refine TL.mv (.slice _ _ _) rfl rfl rfl ?_
                  refine TL.mv (.int _ _) rfl rfl rfl ?_
                  refine TL.mv (.slice _ _ _) rfl rfl rfl ?_
                  refine TL.mv (.int _ _) rfl rfl rfl ?_
                  refine TL.mv (.slice _ _ _) rfl rfl rfl ?_
                  refine TL.mv (.int _ _) rfl rfl rfl ?_
                  refine TL.iaO rfl ha rfl fc_l22_29_9 (by omega) rfl rfl ?_
                  refine TL.ldR 0 rfl rfl rowW_of (by omega) fc_a29_9 rfl rfl ?_
                  refine TL.mv (.slice _ _ _) rfl rfl rfl ?_
                  refine TL.mv (.int _ _) rfl rfl rfl ?_
                  refine TL.iaO rfl ha rfl fc_l22_29_9 (by omega) rfl rfl ?_
                  refine TL.ldR 0 rfl rfl rowW_of (by omega) fc_a29_9 rfl rfl ?_
                  refine TL.iaO rfl ha rfl fc_l22_29_9 (by omega) rfl rfl ?_
                  refine TL.late ?_
                  refine TL.stR 0 rfl rfl rfl encA_ok (by omega) fc_a29_9 rfl rfl trivial ?_
                  refine TL.iaO rfl ha rfl fc_l22_29_9 (by omega) rfl rfl ?_
                  refine TL.stR 0 rfl rfl rfl encA_ok (by omega) fc_a29_9 rfl rfl trivial ?_
                  refine TL.done ?_
                  refine TQ.then ?_
                  refine TC.seq ?_
                  refine TC.region ?_
                  refine TL.mv (.int _ _) rfl rfl rfl ?_
                  refine TL.add (((i3 + 1 : Nat) : Int)) rfl rfl (wrN (by omega)) rfl rfl ?_
                  refine TL.asg (.int _ _) rfl rfl rfl ?_
                  refine TL.done ?_
                  refine TQ.then ?_
                  refine TC.region ?_
                  refine TL.mv (.int _ _) rfl rfl rfl ?_
                  refine TL.sub (((j3 - 1 : Nat) : Int)) rfl rfl (wrN (by omega)) rfl rfl ?_
                  refine TL.asg (.int _ _) rfl rfl rfl ?_
                  refine TL.done ?_
                  refine TQ.inBlock ?_
                  refine TQ.roundK ((i3 + 1, j3 - 1, swp d2 i3 j3)) ⟨⟨by omega, by omega, by omega, ploop_go hI (g3.symm.trans (scanUp_stop (by first | exact .inl (by omega) | exact .inr (ltF (by assumption))))) (g4.symm.trans (scanDown_stop (by first | exact .inl (by omega) | exact .inr (nT (by assumption))))) (by omega) (by omega) (by omega)⟩, by show j3 - 1 + 1 - (i3 + 1) < j2 + 1 - i2; omega⟩ ⟨rfl, rfl, trivial⟩ ⟨rfl, trivial⟩ (.cons rfl rfl (.cons rfl rfl (.cons rfl rfl (.cons rfl rfl (.cons rfl rfl trivial))))) trivial
          · skip
            refine TL.mv (.bool false) rfl rfl rfl ?_
            refine TL.off rfl rfl ?_
            refine TL.off rfl rfl ?_
            refine TL.off rfl rfl ?_
            refine TL.off rfl rfl ?_
            refine TL.off rfl rfl ?_
            refine TL.off rfl rfl ?_
            refine TL.off rfl rfl ?_
            refine TL.off rfl rfl ?_
            refine TL.off rfl rfl ?_
            refine TL.off rfl rfl ?_
            refine TL.off rfl rfl ?_
            refine TL.pickF (.bool false) rfl rfl rfl rfl ?_
            refine TL.done ?_
            refine TQ.then ?_
            refine TC.condF rfl ?_
            refine TC.exit ?_
            refine TQ.thenExit ?_
            refine TQ.thenExit ?_
            refine TQ.blockHere ?_
            refine TQ.then ?_
            refine TC.seq ?_
            refine TC.block ?_
            refine TC.loopK (X := Nat) [0, 1, 4, 10, 11, 12] [] (fun j3 => [(13, .int .i64 ((j3 : Nat) : Int))]) (fun j3 => [(0, rw9 b off n (d2))]) (fun j3 => j3 ≤ j2 ∧ scanDown (fun x => !ltf cf x (d2)[lo]!) (d2) (i3) (j3) = scanDown (fun x => !ltf cf x (d2)[lo]!) (d2) (i3) (j2)) (fun j3 => j3) (j2) ⟨by omega, rfl⟩ ⟨rfl, trivial⟩ ⟨rfl, trivial⟩ (fun j3 hI => ?_)
            obtain ⟨g4a, g4⟩ := hI
            refine TC.sub (env' := [(13, _), (0, _), (1, _), (4, _), (10, _), (11, _), (12, _)]) (L' := [(0, _)]) ⟨rfl, rfl, rfl, rfl, rfl, rfl, rfl, trivial⟩ ⟨rfl, trivial⟩ ?_
            refine TC.seq ?_
            refine TC.seq ?_
            refine TC.draw [(0, true), (1, true), (2, true), (3, true), (4, true), (5, true), (6, true), (7, true), (8, true), (9, true), (10, true), (11, true), (12, true), (13, false), (14, true), (15, true), (16, true)] [0] fc_m (by kernel_rfl) ?_
            refine TL.mv (.int _ _) rfl rfl rfl ?_
            refine TL.mv (.int _ _) rfl rfl rfl ?_
            refine TL.leq rfl rfl rfl rfl (fun q6 => ?_) (fun q6 => ?_)
            · skip
              refine TL.mv (.bool true) rfl rfl rfl ?_
              refine TL.mv _ rfl rfl rfl ?_
              refine TL.mv (.slice _ _ _) rfl rfl rfl ?_
              refine TL.mv (.int _ _) rfl rfl rfl ?_
              refine TL.iaO rfl ha rfl fc_l22_29_9 (by omega) rfl rfl ?_
              refine TL.ldR 0 rfl rfl rowW_of (by omega) fc_a29_9 rfl rfl ?_
              refine TL.mv (.slice _ _ _) rfl rfl rfl ?_
              refine TL.mv (.int _ _) rfl rfl rfl ?_
              refine TL.iaO rfl ha rfl fc_l22_29_9 (by omega) rfl rfl ?_
              refine TL.ldR 0 rfl rfl rowW_of (by omega) fc_a29_9 rfl rfl ?_
              refine TL.callC (c1 := []) (c2 := []) (vs := [_, _]) [] [] rfl (hcmp _ _) ⟨rfl, rfl, trivial⟩ trivial hcb rfl rfl rfl rfl rfl (.cons rfl rfl trivial) ?_
              refine TL.lss rfl rfl rfl rfl (fun q7 => ?_) (fun q7 => ?_)
              · skip
                refine TL.not true false rfl rfl rfl rfl ?_
                refine TL.pickT (.bool false) rfl rfl rfl rfl ?_
                refine TL.done ?_
                refine TQ.then ?_
                refine TC.condF rfl ?_
                refine TC.exit ?_
                refine TQ.thenExit ?_
                refine TQ.thenExit ?_
                refine TQ.blockHere ?_
                refine TQ.then ?_
                refine TC.seq ?_
                refine TC.seq ?_
                refine TC.region ?_
                refine TL.mv (.int _ _) rfl rfl rfl ?_
                refine TL.mv (.int _ _) rfl rfl rfl ?_
                refine TL.gtr rfl rfl rfl rfl (fun q8 => ?_) (fun q8 => ?_)
                · skip
                  refine TL.done ?_
                  refine TQ.then ?_
                  refine TC.condT rfl ?_
                  refine TC.exit ?_
                  refine TQ.thenExit ?_
                  refine TQ.blockOut rfl ?_
                  refine TQ.thenExit ?_
                  refine TQ.blockHere ?_
                  refine TQ.then ?_
                  refine TC.seq ?_
                  refine TC.draw2 [(0, true), (1, true), (2, true), (3, true), (4, true), (5, true), (6, true), (7, true), (8, true), (9, true), (10, true), (11, true), (12, true)] 13 [(14, true), (15, false)] [0] fc_m (by kernel_rfl) ?_
                  refine TL.mv (.slice _ _ _) rfl rfl rfl ?_
                  refine TL.mv (.int _ _) rfl rfl rfl ?_
                  refine TL.mv (.slice _ _ _) rfl rfl rfl ?_
                  refine TL.mv (.int _ _) rfl rfl rfl ?_
                  refine TL.mv (.slice _ _ _) rfl rfl rfl ?_
                  refine TL.mv (.int _ _) rfl rfl rfl ?_
                  refine TL.iaO rfl ha rfl fc_l22_29_9 (by omega) rfl rfl ?_
                  refine TL.ldR 0 rfl rfl rowW_of (by omega) fc_a29_9 rfl rfl ?_
                  refine TL.mv (.slice _ _ _) rfl rfl rfl ?_
                  refine TL.mv (.int _ _) rfl rfl rfl ?_
                  refine TL.iaO rfl ha rfl fc_l22_29_9 (by omega) rfl rfl ?_
                  refine TL.ldR 0 rfl rfl rowW_of (by omega) fc_a29_9 rfl rfl ?_
                  refine TL.iaO rfl ha rfl fc_l22_29_9 (by omega) rfl rfl ?_
                  refine TL.late ?_
                  refine TL.stR 0 rfl rfl rfl encA_ok (by omega) fc_a29_9 rfl rfl trivial ?_
                  refine TL.iaO rfl ha rfl fc_l22_29_9 (by omega) rfl rfl ?_
                  refine TL.stR 0 rfl rfl rfl encA_ok (by omega) fc_a29_9 rfl rfl trivial ?_
                  refine TL.done ?_
                  refine TQ.then ?_
                  refine TC.seq ?_
                  refine TC.region ?_
                  refine TL.mv (.int _ _) rfl rfl rfl ?_
                  refine TL.asg (.int _ _) rfl rfl rfl ?_
                  refine TL.asg (.bool false) rfl rfl rfl ?_
                  refine TL.done ?_
                  refine TQ.then ?_
                  refine TC.ret ?_
                  refine FQ.ret2 (v := (.int _ _)) (x := (.bool false)) (Bs := [_]) [0] rfl rfl rfl rfl ⟨rfl, trivial⟩ ?_
                  first | (have e3 := ploop_end hI (g3.symm.trans (scanUp_stop (by first | exact .inl (by omega) | exact .inr (ltF (by assumption))))) (g4.symm.trans (scanDown_stop (by first | exact .inl (by omega) | exact .inr (nT (by assumption))))) (by omega); have e := part_F (g1.symm.trans (scanUp_stop (by first | exact .inl (by omega) | exact .inr (ltF (by assumption))))) (g2.symm.trans (scanDown_stop (by first | exact .inl (by omega) | exact .inr (nT (by assumption))))) (by omega) e3; exact ⟨by rw [e] <;> rfl, by rw [e] <;> rfl⟩) | (have e := part_T (g1.symm.trans (scanUp_stop (by first | exact .inl (by omega) | exact .inr (ltF (by assumption))))) (g2.symm.trans (scanDown_stop (by first | exact .inl (by omega) | exact .inr (nT (by assumption))))) (by omega); exact ⟨by rw [e] <;> rfl, by rw [e] <;> rfl⟩)
                · skip
                  refine TL.done ?_
                  refine TQ.then ?_
                  refine TC.condF rfl ?_
                  refine TC.skip ?_
                  refine TQ.then ?_
                  refine TC.seq ?_
                  refine TC.draw2 [(0, true), (1, true), (2, true), (3, true), (4, true), (5, true), (6, true), (7, true), (8, true), (9, true), (10, true), (11, true), (12, true)] 13 [(14, true), (15, false)] [0] fc_m (by kernel_rfl) ?_
                  refine TL.mv (.slice _ _ _) rfl rfl rfl ?_
                  refine TL.mv (.int _ _) rfl rfl rfl ?_
                  refine TL.mv (.slice _ _ _) rfl rfl rfl ?_
                  refine TL.mv (.int _ _) rfl rfl rfl ?_
                  refine TL.mv (.slice _ _ _) rfl rfl rfl ?_
                  refine TL.mv (.int _ _) rfl rfl rfl ?_
                  refine TL.iaO rfl ha rfl fc_l22_29_9 (by omega) rfl rfl ?_
                  refine TL.ldR 0 rfl rfl rowW_of (by omega) fc_a29_9 rfl rfl ?_
                  refine TL.mv (.slice _ _ _) rfl rfl rfl ?_
                  refine TL.mv (.int _ _) rfl rfl rfl ?_
                  refine TL.iaO rfl ha rfl fc_l22_29_9 (by omega) rfl rfl ?_
                  refine TL.ldR 0 rfl rfl rowW_of (by omega) fc_a29_9 rfl rfl ?_
                  refine TL.iaO rfl ha rfl fc_l22_29_9 (by omega) rfl rfl ?_
                  refine TL.late ?_
                  refine TL.stR 0 rfl rfl rfl encA_ok (by omega) fc_a29_9 rfl rfl trivial ?_
                  refine TL.iaO rfl ha rfl fc_l22_29_9 (by omega) rfl rfl ?_
                  refine TL.stR 0 rfl rfl rfl encA_ok (by omega) fc_a29_9 rfl rfl trivial ?_
                  refine TL.done ?_
                  refine TQ.then ?_
                  refine TC.seq ?_
                  refine TC.region ?_
                  refine TL.mv (.int _ _) rfl rfl rfl ?_
                  refine TL.add (((i3 + 1 : Nat) : Int)) rfl rfl (wrN (by omega)) rfl rfl ?_
                  refine TL.asg (.int _ _) rfl rfl rfl ?_
                  refine TL.done ?_
                  refine TQ.then ?_
                  refine TC.region ?_
                  refine TL.mv (.int _ _) rfl rfl rfl ?_
                  refine TL.sub (((j3 - 1 : Nat) : Int)) rfl rfl (wrN (by omega)) rfl rfl ?_
                  refine TL.asg (.int _ _) rfl rfl rfl ?_
                  refine TL.done ?_
                  refine TQ.inBlock ?_
                  refine TQ.roundK ((i3 + 1, j3 - 1, swp d2 i3 j3)) ⟨⟨by omega, by omega, by omega, ploop_go hI (g3.symm.trans (scanUp_stop (by first | exact .inl (by omega) | exact .inr (ltF (by assumption))))) (g4.symm.trans (scanDown_stop (by first | exact .inl (by omega) | exact .inr (nT (by assumption))))) (by omega) (by omega) (by omega)⟩, by show j3 - 1 + 1 - (i3 + 1) < j2 + 1 - i2; omega⟩ ⟨rfl, rfl, trivial⟩ ⟨rfl, trivial⟩ (.cons rfl rfl (.cons rfl rfl (.cons rfl rfl (.cons rfl rfl (.cons rfl rfl trivial))))) trivial
              · skip
                refine TL.not false true rfl rfl rfl rfl ?_
                refine TL.pickT (.bool true) rfl rfl rfl rfl ?_
                refine TL.done ?_
                refine TQ.then ?_
                refine TC.condT rfl ?_
                refine TC.skip ?_
                refine TQ.then ?_
                refine TC.block ?_
                refine TC.region ?_
                refine TL.mv (.int _ _) rfl rfl rfl ?_
                refine TL.sub (((j3 - 1 : Nat) : Int)) rfl rfl (wrN (by omega)) rfl rfl ?_
                refine TL.asg (.int _ _) rfl rfl rfl ?_
                refine TL.done ?_
                refine TQ.inBlock ?_
                refine TQ.roundK (j3 - 1) ⟨⟨by omega, (scanDown_go (p := (fun x => !ltf cf x (d2)[lo]!)) (d := d2) (by omega) (by omega) (nF (by assumption))).trans g4⟩, by omega⟩ ⟨rfl, trivial⟩ ⟨rfl, trivial⟩ (.cons rfl rfl (.cons rfl rfl (.cons rfl rfl (.cons rfl rfl (.cons rfl rfl (.cons rfl rfl trivial)))))) trivial
            · skip
              refine TL.mv (.bool false) rfl rfl rfl ?_
              refine TL.off rfl rfl ?_
              refine TL.off rfl rfl ?_
              refine TL.off rfl rfl ?_
              refine TL.off rfl rfl ?_
              refine TL.off rfl rfl ?_
              refine TL.off rfl rfl ?_
              refine TL.off rfl rfl ?_
              refine TL.off rfl rfl ?_
              refine TL.off rfl rfl ?_
              refine TL.off rfl rfl ?_
              refine TL.off rfl rfl ?_
              refine TL.off rfl rfl ?_
              refine TL.pickF (.bool false) rfl rfl rfl rfl ?_
              refine TL.done ?_
              refine TQ.then ?_
              refine TC.condF rfl ?_
              refine TC.exit ?_
              refine TQ.thenExit ?_
              refine TQ.thenExit ?_
              refine TQ.blockHere ?_
              refine TQ.then ?_
              refine TC.seq ?_
              refine TC.seq ?_
              refine TC.region ?_
              refine TL.mv (.int _ _) rfl rfl rfl ?_
              refine TL.mv (.int _ _) rfl rfl rfl ?_
              refine TL.gtr rfl rfl rfl rfl (fun q7 => ?_) (fun q7 => ?_)
              · skip
                refine TL.done ?_
                refine TQ.then ?_
                refine TC.condT rfl ?_
                refine TC.exit ?_
                refine TQ.thenExit ?_
                refine TQ.blockOut rfl ?_
                refine TQ.thenExit ?_
                refine TQ.blockHere ?_
                refine TQ.then ?_
                refine TC.seq ?_
                refine TC.draw2 [(0, true), (1, true), (2, true), (3, true), (4, true), (5, true), (6, true), (7, true), (8, true), (9, true), (10, true), (11, true), (12, true)] 13 [(14, true), (15, false)] [0] fc_m (by kernel_rfl) ?_
                refine TL.mv (.slice _ _ _) rfl rfl rfl ?_
                refine TL.mv (.int _ _) rfl rfl rfl ?_
                refine TL.mv (.slice _ _ _) rfl rfl rfl ?_
                refine TL.mv (.int _ _) rfl rfl rfl ?_
                refine TL.mv (.slice _ _ _) rfl rfl rfl ?_
                refine TL.mv (.int _ _) rfl rfl rfl ?_
                refine TL.iaO rfl ha rfl fc_l22_29_9 (by omega) rfl rfl ?_
                refine TL.ldR 0 rfl rfl rowW_of (by omega) fc_a29_9 rfl rfl ?_
                refine TL.mv (.slice _ _ _) rfl rfl rfl ?_
                refine TL.mv (.int _ _) rfl rfl rfl ?_
                refine TL.iaO rfl ha rfl fc_l22_29_9 (by omega) rfl rfl ?_
                refine TL.ldR 0 rfl rfl rowW_of (by omega) fc_a29_9 rfl rfl ?_
                refine TL.iaO rfl ha rfl fc_l22_29_9 (by omega) rfl rfl ?_
                refine TL.late ?_
                refine TL.stR 0 rfl rfl rfl encA_ok (by omega) fc_a29_9 rfl rfl trivial ?_
                refine TL.iaO rfl ha rfl fc_l22_29_9 (by omega) rfl rfl ?_
                refine TL.stR 0 rfl rfl rfl encA_ok (by omega) fc_a29_9 rfl rfl trivial ?_
                refine TL.done ?_
                refine TQ.then ?_
                refine TC.seq ?_
                refine TC.region ?_
                refine TL.mv (.int _ _) rfl rfl rfl ?_
                refine TL.asg (.int _ _) rfl rfl rfl ?_
                refine TL.asg (.bool false) rfl rfl rfl ?_
                refine TL.done ?_
                refine TQ.then ?_
                refine TC.ret ?_
                refine FQ.ret2 (v := (.int _ _)) (x := (.bool false)) (Bs := [_]) [0] rfl rfl rfl rfl ⟨rfl, trivial⟩ ?_
                first | (have e3 := ploop_end hI (g3.symm.trans (scanUp_stop (by first | exact .inl (by omega) | exact .inr (ltF (by assumption))))) (g4.symm.trans (scanDown_stop (by first | exact .inl (by omega) | exact .inr (nT (by assumption))))) (by omega); have e := part_F (g1.symm.trans (scanUp_stop (by first | exact .inl (by omega) | exact .inr (ltF (by assumption))))) (g2.symm.trans (scanDown_stop (by first | exact .inl (by omega) | exact .inr (nT (by assumption))))) (by omega) e3; exact ⟨by rw [e] <;> rfl, by rw [e] <;> rfl⟩) | (have e := part_T (g1.symm.trans (scanUp_stop (by first | exact .inl (by omega) | exact .inr (ltF (by assumption))))) (g2.symm.trans (scanDown_stop (by first | exact .inl (by omega) | exact .inr (nT (by assumption))))) (by omega); exact ⟨by rw [e] <;> rfl, by rw [e] <;> rfl⟩)
              · skip
                refine TL.done ?_
                refine TQ.then ?_
                refine TC.condF rfl ?_
                refine TC.skip ?_
                refine TQ.then ?_
                refine TC.seq ?_
                refine TC.draw2 [(0, true), (1, true), (2, true), (3, true), (4, true), (5, true), (6, true), (7, true), (8, true), (9, true), (10, true), (11, true), (12, true)] 13 [(14, true), (15, false)] [0] fc_m (by kernel_rfl) ?_
                refine TL.mv (.slice _ _ _) rfl rfl rfl ?_
                refine TL.mv (.int _ _) rfl rfl rfl ?_
                refine TL.mv (.slice _ _ _) rfl rfl rfl ?_
                refine TL.mv (.int _ _) rfl rfl rfl ?_
                refine TL.mv (.slice _ _ _) rfl rfl rfl ?_
                refine TL.mv (.int _ _) rfl rfl rfl ?_
                refine TL.iaO rfl ha rfl fc_l22_29_9 (by omega) rfl rfl ?_
                refine TL.ldR 0 rfl rfl rowW_of (by omega) fc_a29_9 rfl rfl ?_
                refine TL.mv (.slice _ _ _) rfl rfl rfl ?_
                refine TL.mv (.int _ _) rfl rfl rfl ?_
                refine TL.iaO rfl ha rfl fc_l22_29_9 (by omega) rfl rfl ?_
                refine TL.ldR 0 rfl rfl rowW_of (by omega) fc_a29_9 rfl rfl ?_
                refine TL.iaO rfl ha rfl fc_l22_29_9 (by omega) rfl rfl ?_
                refine TL.late ?_
                refine TL.stR 0 rfl rfl rfl encA_ok (by omega) fc_a29_9 rfl rfl trivial ?_
                refine TL.iaO rfl ha rfl fc_l22_29_9 (by omega) rfl rfl ?_
                refine TL.stR 0 rfl rfl rfl encA_ok (by omega) fc_a29_9 rfl rfl trivial ?_
                refine TL.done ?_
                refine TQ.then ?_
                refine TC.seq ?_
                refine TC.region ?_
                refine TL.mv (.int _ _) rfl rfl rfl ?_
                refine TL.add (((i3 + 1 : Nat) : Int)) rfl rfl (wrN (by omega)) rfl rfl ?_
                refine TL.asg (.int _ _) rfl rfl rfl ?_
                refine TL.done ?_
                refine TQ.then ?_
                refine TC.region ?_
                refine TL.mv (.int _ _) rfl rfl rfl ?_
                refine TL.sub (((j3 - 1 : Nat) : Int)) rfl rfl (wrN (by omega)) rfl rfl ?_
                refine TL.asg (.int _ _) rfl rfl rfl ?_
                refine TL.done ?_
                refine TQ.inBlock ?_
                refine TQ.roundK ((i3 + 1, j3 - 1, swp d2 i3 j3)) ⟨⟨by omega, by omega, by omega, ploop_go hI (g3.symm.trans (scanUp_stop (by first | exact .inl (by omega) | exact .inr (ltF (by assumption))))) (g4.symm.trans (scanDown_stop (by first | exact .inl (by omega) | exact .inr (nT (by assumption))))) (by omega) (by omega) (by omega)⟩, by show j3 - 1 + 1 - (i3 + 1) < j2 + 1 - i2; omega⟩ ⟨rfl, rfl, trivial⟩ ⟨rfl, trivial⟩ (.cons rfl rfl (.cons rfl rfl (.cons rfl rfl (.cons rfl rfl (.cons rfl rfl trivial))))) trivial
  · skip
    refine TL.mv (.bool false) rfl rfl rfl ?_
    refine TL.off rfl rfl ?_
    refine TL.off rfl rfl ?_
    refine TL.off rfl rfl ?_
    refine TL.off rfl rfl ?_
    refine TL.off rfl rfl ?_
    refine TL.off rfl rfl ?_
    refine TL.off rfl rfl ?_
    refine TL.off rfl rfl ?_
    refine TL.off rfl rfl ?_
    refine TL.off rfl rfl ?_
    refine TL.off rfl rfl ?_
    refine TL.pickF (.bool false) rfl rfl rfl rfl ?_
    refine TL.done ?_
    refine TQ.then ?_
    refine TC.condF rfl ?_
    refine TC.exit ?_
    refine TQ.thenExit ?_
    refine TQ.thenExit ?_
    refine TQ.blockHere ?_
    refine TQ.then ?_
    refine TC.seq ?_
    refine TC.block ?_
    refine TC.loopK (X := Nat) [0, 1, 4, 10, 11, 12] [] (fun j => [(13, .int .i64 ((j : Nat) : Int))]) (fun j => [(0, rw9 b off n (swp d lo pv))]) (fun j => j ≤ hi - 1 ∧ scanDown (fun x => !ltf cf x (swp d lo pv)[lo]!) (swp d lo pv) (i) (j) = scanDown (fun x => !ltf cf x (swp d lo pv)[lo]!) (swp d lo pv) (i) (hi - 1)) (fun j => j) (hi - 1) ⟨by omega, rfl⟩ ⟨rfl, trivial⟩ ⟨rfl, trivial⟩ (fun j hI => ?_)
    obtain ⟨g2a, g2⟩ := hI
    refine TC.sub (env' := [(13, _), (0, _), (1, _), (4, _), (10, _), (11, _), (12, _)]) (L' := [(0, _)]) ⟨rfl, rfl, rfl, rfl, rfl, rfl, rfl, trivial⟩ ⟨rfl, trivial⟩ ?_
    refine TC.seq ?_
    refine TC.seq ?_
    refine TC.draw [(0, true), (1, true), (2, true), (3, true), (4, true), (5, true), (6, true), (7, true), (8, true), (9, true), (10, true), (11, true), (12, true), (13, false), (14, true), (15, true), (16, true)] [0] fc_m (by kernel_rfl) ?_
    refine TL.mv (.int _ _) rfl rfl rfl ?_
    refine TL.mv (.int _ _) rfl rfl rfl ?_
    refine TL.leq rfl rfl rfl rfl (fun q2 => ?_) (fun q2 => ?_)
    · skip
      refine TL.mv (.bool true) rfl rfl rfl ?_
      refine TL.mv _ rfl rfl rfl ?_
      refine TL.mv (.slice _ _ _) rfl rfl rfl ?_
      refine TL.mv (.int _ _) rfl rfl rfl ?_
      refine TL.iaO rfl ha rfl fc_l22_29_9 (by omega) rfl rfl ?_
      refine TL.ldR 0 rfl rfl rowW_of (by omega) fc_a29_9 rfl rfl ?_
      refine TL.mv (.slice _ _ _) rfl rfl rfl ?_
      refine TL.mv (.int _ _) rfl rfl rfl ?_
      refine TL.iaO rfl ha rfl fc_l22_29_9 (by omega) rfl rfl ?_
      refine TL.ldR 0 rfl rfl rowW_of (by omega) fc_a29_9 rfl rfl ?_
      refine TL.callC (c1 := []) (c2 := []) (vs := [_, _]) [] [] rfl (hcmp _ _) ⟨rfl, rfl, trivial⟩ trivial hcb rfl rfl rfl rfl rfl (.cons rfl rfl trivial) ?_
      refine TL.lss rfl rfl rfl rfl (fun q3 => ?_) (fun q3 => ?_)
      · skip
        refine TL.not true false rfl rfl rfl rfl ?_
        refine TL.pickT (.bool false) rfl rfl rfl rfl ?_
        refine TL.done ?_
        refine TQ.then ?_
        refine TC.condF rfl ?_
        refine TC.exit ?_
        refine TQ.thenExit ?_
        refine TQ.thenExit ?_
        refine TQ.blockHere ?_
        refine TQ.then ?_
        refine TC.seq ?_
        refine TC.seq ?_
        refine TC.region ?_
        refine TL.mv (.int _ _) rfl rfl rfl ?_
        refine TL.mv (.int _ _) rfl rfl rfl ?_
        refine TL.gtr rfl rfl rfl rfl (fun q4 => ?_) (fun q4 => ?_)
        · skip
          refine TL.done ?_
          refine TQ.then ?_
          refine TC.condT rfl ?_
          refine TC.seq ?_
          refine TC.draw2 [(0, true), (1, true), (2, true), (3, true), (4, true), (5, true), (6, true), (7, true), (8, true), (9, true), (10, true), (11, true), (12, true)] 13 [(14, true), (15, false)] [0] fc_m (by kernel_rfl) ?_
          refine TL.mv (.slice _ _ _) rfl rfl rfl ?_
          refine TL.mv (.int _ _) rfl rfl rfl ?_
          refine TL.mv (.slice _ _ _) rfl rfl rfl ?_
          refine TL.mv (.int _ _) rfl rfl rfl ?_
          refine TL.mv (.slice _ _ _) rfl rfl rfl ?_
          refine TL.mv (.int _ _) rfl rfl rfl ?_
          refine TL.iaO rfl ha rfl fc_l22_29_9 (by omega) rfl rfl ?_
          refine TL.ldR 0 rfl rfl rowW_of (by omega) fc_a29_9 rfl rfl ?_
          refine TL.mv (.slice _ _ _) rfl rfl rfl ?_
          refine TL.mv (.int _ _) rfl rfl rfl ?_
          refine TL.iaO rfl ha rfl fc_l22_29_9 (by omega) rfl rfl ?_
          refine TL.ldR 0 rfl rfl rowW_of (by omega) fc_a29_9 rfl rfl ?_
          refine TL.iaO rfl ha rfl fc_l22_29_9 (by omega) rfl rfl ?_
          refine TL.late ?_
          refine TL.stR 0 rfl rfl rfl encA_ok (by omega) fc_a29_9 rfl rfl trivial ?_
          refine TL.iaO rfl ha rfl fc_l22_29_9 (by omega) rfl rfl ?_
          refine TL.stR 0 rfl rfl rfl encA_ok (by omega) fc_a29_9 rfl rfl trivial ?_
          refine TL.done ?_
          refine TQ.then ?_
          refine TC.seq ?_
          refine TC.region ?_
          refine TL.mv (.int _ _) rfl rfl rfl ?_
          refine TL.asg (.int _ _) rfl rfl rfl ?_
          refine TL.asg (.bool true) rfl rfl rfl ?_
          refine TL.done ?_
          refine TQ.then ?_
          refine TC.ret ?_
          refine TQ.thenRet ?_
          refine FQ.ret2 (v := (.int _ _)) (x := (.bool true)) (Bs := [_]) [0] rfl rfl rfl rfl ⟨rfl, trivial⟩ ?_
          first | (have e3 := ploop_end hI (g3.symm.trans (scanUp_stop (by first | exact .inl (by omega) | exact .inr (ltF (by assumption))))) (g4.symm.trans (scanDown_stop (by first | exact .inl (by omega) | exact .inr (nT (by assumption))))) (by omega); have e := part_F (g1.symm.trans (scanUp_stop (by first | exact .inl (by omega) | exact .inr (ltF (by assumption))))) (g2.symm.trans (scanDown_stop (by first | exact .inl (by omega) | exact .inr (nT (by assumption))))) (by omega) e3; exact ⟨by rw [e] <;> rfl, by rw [e] <;> rfl⟩) | (have e := part_T (g1.symm.trans (scanUp_stop (by first | exact .inl (by omega) | exact .inr (ltF (by assumption))))) (g2.symm.trans (scanDown_stop (by first | exact .inl (by omega) | exact .inr (nT (by assumption))))) (by omega); exact ⟨by rw [e] <;> rfl, by rw [e] <;> rfl⟩)
        · skip
          refine TL.done ?_
          refine TQ.then ?_
          refine TC.condF rfl ?_
          refine TC.skip ?_
          refine TQ.then ?_
          refine TC.seq ?_
          refine TC.draw2 [(0, true), (1, true), (2, true), (3, true), (4, true), (5, true), (6, true), (7, true), (8, true), (9, true), (10, true), (11, true), (12, true)] 13 [(14, true), (15, false)] [0] fc_m (by kernel_rfl) ?_
          refine TL.mv (.slice _ _ _) rfl rfl rfl ?_
          refine TL.mv (.int _ _) rfl rfl rfl ?_
          refine TL.mv (.slice _ _ _) rfl rfl rfl ?_
          refine TL.mv (.int _ _) rfl rfl rfl ?_
          refine TL.mv (.slice _ _ _) rfl rfl rfl ?_
          refine TL.mv (.int _ _) rfl rfl rfl ?_
          refine TL.iaO rfl ha rfl fc_l22_29_9 (by omega) rfl rfl ?_
          refine TL.ldR 0 rfl rfl rowW_of (by omega) fc_a29_9 rfl rfl ?_
          refine TL.mv (.slice _ _ _) rfl rfl rfl ?_
          refine TL.mv (.int _ _) rfl rfl rfl ?_
          refine TL.iaO rfl ha rfl fc_l22_29_9 (by omega) rfl rfl ?_
          refine TL.ldR 0 rfl rfl rowW_of (by omega) fc_a29_9 rfl rfl ?_
          refine TL.iaO rfl ha rfl fc_l22_29_9 (by omega) rfl rfl ?_
          refine TL.late ?_
          refine TL.stR 0 rfl rfl rfl encA_ok (by omega) fc_a29_9 rfl rfl trivial ?_
          refine TL.iaO rfl ha rfl fc_l22_29_9 (by omega) rfl rfl ?_
          refine TL.stR 0 rfl rfl rfl encA_ok (by omega) fc_a29_9 rfl rfl trivial ?_
          refine TL.done ?_
          refine TQ.then ?_
          refine TC.seq ?_
          refine TC.region ?_
          refine TL.mv (.int _ _) rfl rfl rfl ?_
          refine TL.add (((i + 1 : Nat) : Int)) rfl rfl (wrN (by omega)) rfl rfl ?_
          refine TL.asg (.int _ _) rfl rfl rfl ?_
          refine TL.done ?_
          refine TQ.then ?_
          refine TC.seq ?_
          refine TC.region ?_
          refine TL.mv (.int _ _) rfl rfl rfl ?_
          refine TL.sub (((j - 1 : Nat) : Int)) rfl rfl (wrN (by omega)) rfl rfl ?_
          refine TL.asg (.int _ _) rfl rfl rfl ?_
          refine TL.done ?_
          refine TQ.then ?_
          refine TC.seq ?_
          refine TC.block ?_
          refine TC.loopK (X := Nat × Nat × Array Ans) [0, 1, 4, 10, 11] [] (fun ⟨i2, j2, d2⟩ => [(12, .int .i64 ((i2 : Nat) : Int)), (13, .int .i64 ((j2 : Nat) : Int))]) (fun ⟨i2, j2, d2⟩ => [(0, rw9 b off n d2)]) (fun ⟨i2, j2, d2⟩ => lo < i2 ∧ i2 ≤ n ∧ j2 < n ∧ partLoop (ltf cf) lo i2 j2 d2 = partLoop (ltf cf) lo (i + 1) (j - 1) (swp (swp d lo pv) i j)) (fun ⟨i2, j2, d2⟩ => j2 + 1 - i2) ((i + 1, j - 1, swp (swp d lo pv) i j)) ⟨by omega, by omega, by omega, rfl⟩ ⟨rfl, rfl, trivial⟩ ⟨rfl, trivial⟩ (fun y hI => ?_)
          obtain ⟨i2, j2, d2⟩ := y
          obtain ⟨u1, u2, u3, hI⟩ := hI
          replace u1 : lo < i2 := u1
          replace u2 : i2 ≤ n := u2
          replace u3 : j2 < n := u3
          replace hI : partLoop (ltf cf) lo i2 j2 d2 = partLoop (ltf cf) lo (i + 1) (j - 1) (swp (swp d lo pv) i j) := hI
          refine TC.sub (env' := [(12, _), (13, _), (0, _), (1, _), (4, _), (10, _), (11, _)]) (L' := [(0, _)]) ⟨rfl, rfl, rfl, rfl, rfl, rfl, rfl, trivial⟩ ⟨rfl, trivial⟩ ?_
          refine TC.block ?_
          refine TC.seq ?_
          refine TC.block ?_
          refine TC.loopK (X := Nat) [0, 1, 4, 10, 11, 13] [] (fun i3 => [(12, .int .i64 ((i3 : Nat) : Int))]) (fun i3 => [(0, rw9 b off n (d2))]) (fun i3 => i2 ≤ i3 ∧ i3 ≤ n ∧ scanUp (fun x => ltf cf x (d2)[lo]!) (d2) (j2) (i3) = scanUp (fun x => ltf cf x (d2)[lo]!) (d2) (j2) (i2)) (fun i3 => j2 + 1 - i3) (i2) ⟨by omega, by omega, rfl⟩ ⟨rfl, trivial⟩ ⟨rfl, trivial⟩ (fun i3 hI => ?_)
          obtain ⟨g3a, g3b, g3⟩ := hI
          refine TC.sub (env' := [(12, _), (0, _), (1, _), (4, _), (10, _), (11, _), (13, _)]) (L' := [(0, _)]) ⟨rfl, rfl, rfl, rfl, rfl, rfl, rfl, trivial⟩ ⟨rfl, trivial⟩ ?_
          refine TC.seq ?_
          refine TC.seq ?_
          refine TC.draw [(0, true), (1, true), (2, true), (3, true), (4, true), (5, true), (6, true), (7, true), (8, true), (9, true), (10, true), (11, true), (12, true), (13, false), (14, true), (15, true)] [0] fc_m (by kernel_rfl) ?_
          refine TL.mv (.int _ _) rfl rfl rfl ?_
          refine TL.mv (.int _ _) rfl rfl rfl ?_
          refine TL.leq rfl rfl rfl rfl (fun q5 => ?_) (fun q5 => ?_)
          · skip
            refine TL.mv (.bool true) rfl rfl rfl ?_
            refine TL.mv _ rfl rfl rfl ?_
            refine TL.mv (.slice _ _ _) rfl rfl rfl ?_
            refine TL.mv (.int _ _) rfl rfl rfl ?_
            refine TL.iaO rfl ha rfl fc_l22_29_9 (by omega) rfl rfl ?_
            refine TL.ldR 0 rfl rfl rowW_of (by omega) fc_a29_9 rfl rfl ?_
            refine TL.mv (.slice _ _ _) rfl rfl rfl ?_
            refine TL.mv (.int _ _) rfl rfl rfl ?_
            refine TL.iaO rfl ha rfl fc_l22_29_9 (by omega) rfl rfl ?_
            refine TL.ldR 0 rfl rfl rowW_of (by omega) fc_a29_9 rfl rfl ?_
            refine TL.callC (c1 := []) (c2 := []) (vs := [_, _]) [] [] rfl (hcmp _ _) ⟨rfl, rfl, trivial⟩ trivial hcb rfl rfl rfl rfl rfl (.cons rfl rfl trivial) ?_
            refine TL.lss rfl rfl rfl rfl (fun q6 => ?_) (fun q6 => ?_)
            · skip
              refine TL.pickT (.bool true) rfl rfl rfl rfl ?_
              refine TL.done ?_
              refine TQ.then ?_
              refine TC.condT rfl ?_
              refine TC.skip ?_
              refine TQ.then ?_
              refine TC.block ?_
              refine TC.region ?_
              refine TL.mv (.int _ _) rfl rfl rfl ?_
              refine TL.add (((i3 + 1 : Nat) : Int)) rfl rfl (wrN (by omega)) rfl rfl ?_
              refine TL.asg (.int _ _) rfl rfl rfl ?_
              refine TL.done ?_
              refine TQ.inBlock ?_
              refine TQ.roundK (i3 + 1) ⟨⟨by omega, by omega, (scanUp_go (p := (fun x => ltf cf x (d2)[lo]!)) (d := d2) (by omega) (ltT (by assumption))).trans g3⟩, by omega⟩ ⟨rfl, trivial⟩ ⟨rfl, trivial⟩ (.cons rfl rfl (.cons rfl rfl (.cons rfl rfl (.cons rfl rfl (.cons rfl rfl (.cons rfl rfl trivial)))))) trivial
            · skip
              refine TL.pickT (.bool false) rfl rfl rfl rfl ?_
              refine TL.done ?_
              refine TQ.then ?_
              refine TC.condF rfl ?_
              refine TC.exit ?_
              refine TQ.thenExit ?_
              refine TQ.thenExit ?_
              refine TQ.blockHere ?_
              refine TQ.then ?_
              refine TC.seq ?_
              refine TC.block ?_
              refine TC.loopK (X := Nat) [0, 1, 4, 10, 11, 12] [] (fun j3 => [(13, .int .i64 ((j3 : Nat) : Int))]) (fun j3 => [(0, rw9 b off n (d2))]) (fun j3 => j3 ≤ j2 ∧ scanDown (fun x => !ltf cf x (d2)[lo]!) (d2) (i3) (j3) = scanDown (fun x => !ltf cf x (d2)[lo]!) (d2) (i3) (j2)) (fun j3 => j3) (j2) ⟨by omega, rfl⟩ ⟨rfl, trivial⟩ ⟨rfl, trivial⟩ (fun j3 hI => ?_)
              obtain ⟨g4a, g4⟩ := hI
              refine TC.sub (env' := [(13, _), (0, _), (1, _), (4, _), (10, _), (11, _), (12, _)]) (L' := [(0, _)]) ⟨rfl, rfl, rfl, rfl, rfl, rfl, rfl, trivial⟩ ⟨rfl, trivial⟩ ?_
              refine TC.seq ?_
              refine TC.seq ?_
              refine TC.draw [(0, true), (1, true), (2, true), (3, true), (4, true), (5, true), (6, true), (7, true), (8, true), (9, true), (10, true), (11, true), (12, true), (13, false), (14, true), (15, true), (16, true)] [0] fc_m (by kernel_rfl) ?_
              refine TL.mv (.int _ _) rfl rfl rfl ?_
              refine TL.mv (.int _ _) rfl rfl rfl ?_
              refine TL.leq rfl rfl rfl rfl (fun q7 => ?_) (fun q7 => ?_)
              · skip
                refine TL.mv (.bool true) rfl rfl rfl ?_
                refine TL.mv _ rfl rfl rfl ?_
                refine TL.mv (.slice _ _ _) rfl rfl rfl ?_
                refine TL.mv (.int _ _) rfl rfl rfl ?_
                refine TL.iaO rfl ha rfl fc_l22_29_9 (by omega) rfl rfl ?_
                refine TL.ldR 0 rfl rfl rowW_of (by omega) fc_a29_9 rfl rfl ?_
                refine TL.mv (.slice _ _ _) rfl rfl rfl ?_
                refine TL.mv (.int _ _) rfl rfl rfl ?_
                refine TL.iaO rfl ha rfl fc_l22_29_9 (by omega) rfl rfl ?_
                refine TL.ldR 0 rfl rfl rowW_of (by omega) fc_a29_9 rfl rfl ?_
                refine TL.callC (c1 := []) (c2 := []) (vs := [_, _]) [] [] rfl (hcmp _ _) ⟨rfl, rfl, trivial⟩ trivial hcb rfl rfl rfl rfl rfl (.cons rfl rfl trivial) ?_
                refine TL.lss rfl rfl rfl rfl (fun q8 => ?_) (fun q8 => ?_)
                · skip
                  refine TL.not true false rfl rfl rfl rfl ?_
                  refine TL.pickT (.bool false) rfl rfl rfl rfl ?_
                  refine TL.done ?_
                  refine TQ.then ?_
                  refine TC.condF rfl ?_
                  refine TC.exit ?_
                  refine TQ.thenExit ?_
                  refine TQ.thenExit ?_
                  refine TQ.blockHere ?_
                  refine TQ.then ?_
                  refine TC.seq ?_
                  refine TC.seq ?_
                  refine TC.region ?_
                  refine TL.mv (.int _ _) rfl rfl rfl ?_
                  refine TL.mv (.int _ _) rfl rfl rfl ?_
                  refine TL.gtr rfl rfl rfl rfl (fun q9 => ?_) (fun q9 => ?_)
                  · skip
                    refine TL.done ?_
                    refine TQ.then ?_
                    refine TC.condT rfl ?_
                    refine TC.exit ?_
                    refine TQ.thenExit ?_
                    refine TQ.blockOut rfl ?_
                    refine TQ.thenExit ?_
                    refine TQ.blockHere ?_
                    refine TQ.then ?_
                    refine TC.seq ?_
                    refine TC.draw2 [(0, true), (1, true), (2, true), (3, true), (4, true), (5, true), (6, true), (7, true), (8, true), (9, true), (10, true), (11, true), (12, true)] 13 [(14, true), (15, false)] [0] fc_m (by kernel_rfl) ?_
                    refine TL.mv (.slice _ _ _) rfl rfl rfl ?_
                    refine TL.mv (.int _ _) rfl rfl rfl ?_
                    refine TL.mv (.slice _ _ _) rfl rfl rfl ?_
                    refine TL.mv (.int _ _) rfl rfl rfl ?_
                    refine TL.mv (.slice _ _ _) rfl rfl rfl ?_
                    refine TL.mv (.int _ _) rfl rfl rfl ?_
                    refine TL.iaO rfl ha rfl fc_l22_29_9 (by omega) rfl rfl ?_
                    refine TL.ldR 0 rfl rfl rowW_of (by omega) fc_a29_9 rfl rfl ?_
                    refine TL.mv (.slice _ _ _) rfl rfl rfl ?_
                    refine TL.mv (.int _ _) rfl rfl rfl ?_
                    refine TL.iaO rfl ha rfl fc_l22_29_9 (by omega) rfl rfl ?_
                    refine TL.ldR 0 rfl rfl rowW_of (by omega) fc_a29_9 rfl rfl ?_
                    refine TL.iaO rfl ha rfl fc_l22_29_9 (by omega) rfl rfl ?_
                    refine TL.late ?_
                    refine TL.stR 0 rfl rfl rfl encA_ok (by omega) fc_a29_9 rfl rfl trivial ?_
                    refine TL.iaO rfl ha rfl fc_l22_29_9 (by omega) rfl rfl ?_
                    refine TL.stR 0 rfl rfl rfl encA_ok (by omega) fc_a29_9 rfl rfl trivial ?_
                    refine TL.done ?_
                    refine TQ.then ?_
                    refine TC.seq ?_
                    refine TC.region ?_
                    refine TL.mv (.int _ _) rfl rfl rfl ?_
                    refine TL.asg (.int _ _) rfl rfl rfl ?_
                    refine TL.asg (.bool false) rfl rfl rfl ?_
                    refine TL.done ?_
                    refine TQ.then ?_
                    refine TC.ret ?_
                    refine FQ.ret2 (v := (.int _ _)) (x := (.bool false)) (Bs := [_]) [0] rfl rfl rfl rfl ⟨rfl, trivial⟩ ?_
                    first | (have e3 := ploop_end hI (g3.symm.trans (scanUp_stop (by first | exact .inl (by omega) | exact .inr (ltF (by assumption))))) (g4.symm.trans (scanDown_stop (by first | exact .inl (by omega) | exact .inr (nT (by assumption))))) (by omega); have e := part_F (g1.symm.trans (scanUp_stop (by first | exact .inl (by omega) | exact .inr (ltF (by assumption))))) (g2.symm.trans (scanDown_stop (by first | exact .inl (by omega) | exact .inr (nT (by assumption))))) (by omega) e3; exact ⟨by rw [e] <;> rfl, by rw [e] <;> rfl⟩) | (have e := part_T (g1.symm.trans (scanUp_stop (by first | exact .inl (by omega) | exact .inr (ltF (by assumption))))) (g2.symm.trans (scanDown_stop (by first | exact .inl (by omega) | exact .inr (nT (by assumption))))) (by omega); exact ⟨by rw [e] <;> rfl, by rw [e] <;> rfl⟩)
                  · skip
                    refine TL.done ?_
                    refine TQ.then ?_
                    refine TC.condF rfl ?_
                    refine TC.skip ?_
                    refine TQ.then ?_
                    refine TC.seq ?_
                    refine TC.draw2 [(0, true), (1, true), (2, true), (3, true), (4, true), (5, true), (6, true), (7, true), (8, true), (9, true), (10, true), (11, true), (12, true)] 13 [(14, true), (15, false)] [0] fc_m (by kernel_rfl) ?_
                    refine TL.mv (.slice _ _ _) rfl rfl rfl ?_
                    refine TL.mv (.int _ _) rfl rfl rfl ?_
                    refine TL.mv (.slice _ _ _) rfl rfl rfl ?_
                    refine TL.mv (.int _ _) rfl rfl rfl ?_
                    refine TL.mv (.slice _ _ _) rfl rfl rfl ?_
                    refine TL.mv (.int _ _) rfl rfl rfl ?_
                    refine TL.iaO rfl ha rfl fc_l22_29_9 (by omega) rfl rfl ?_
                    refine TL.ldR 0 rfl rfl rowW_of (by omega) fc_a29_9 rfl rfl ?_
                    refine TL.mv (.slice _ _ _) rfl rfl rfl ?_
                    refine TL.mv (.int _ _) rfl rfl rfl ?_
                    refine TL.iaO rfl ha rfl fc_l22_29_9 (by omega) rfl rfl ?_
                    refine TL.ldR 0 rfl rfl rowW_of (by omega) fc_a29_9 rfl rfl ?_
                    refine TL.iaO rfl ha rfl fc_l22_29_9 (by omega) rfl rfl ?_
                    refine TL.late ?_
                    refine TL.stR 0 rfl rfl rfl encA_ok (by omega) fc_a29_9 rfl rfl trivial ?_
                    refine TL.iaO rfl ha rfl fc_l22_29_9 (by omega) rfl rfl ?_
                    refine TL.stR 0 rfl rfl rfl encA_ok (by omega) fc_a29_9 rfl rfl trivial ?_
                    refine TL.done ?_
                    refine TQ.then ?_
                    refine TC.seq ?_
                    refine TC.region ?_
                    refine TL.mv (.int _ _) rfl rfl rfl ?_
                    refine TL.add (((i3 + 1 : Nat) : Int)) rfl rfl (wrN (by omega)) rfl rfl ?_
                    refine TL.asg (.int _ _) rfl rfl rfl ?_
                    refine TL.done ?_
                    refine TQ.then ?_
                    refine TC.region ?_
                    refine TL.mv (.int _ _) rfl rfl rfl ?_
                    refine TL.sub (((j3 - 1 : Nat) : Int)) rfl rfl (wrN (by omega)) rfl rfl ?_
                    refine TL.asg (.int _ _) rfl rfl rfl ?_
                    refine TL.done ?_
                    refine TQ.inBlock ?_
                    refine TQ.roundK ((i3 + 1, j3 - 1, swp d2 i3 j3)) ⟨⟨by omega, by omega, by omega, ploop_go hI (g3.symm.trans (scanUp_stop (by first | exact .inl (by omega) | exact .inr (ltF (by assumption))))) (g4.symm.trans (scanDown_stop (by first | exact .inl (by omega) | exact .inr (nT (by assumption))))) (by omega) (by omega) (by omega)⟩, by show j3 - 1 + 1 - (i3 + 1) < j2 + 1 - i2; omega⟩ ⟨rfl, rfl, trivial⟩ ⟨rfl, trivial⟩ (.cons rfl rfl (.cons rfl rfl (.cons rfl rfl (.cons rfl rfl (.cons rfl rfl trivial))))) trivial
                · skip
                  refine TL.not false true rfl rfl rfl rfl ?_
                  refine TL.pickT (.bool true) rfl rfl rfl rfl ?_
                  refine TL.done ?_
                  refine TQ.then ?_
                  refine TC.condT rfl ?_
                  refine TC.skip ?_
                  refine TQ.then ?_
                  refine TC.block ?_
                  refine TC.region ?_
                  refine TL.mv (.int _ _) rfl rfl rfl ?_
                  refine TL.sub (((j3 - 1 : Nat) : Int)) rfl rfl (wrN (by omega)) rfl rfl ?_
                  refine TL.asg (.int _ _) rfl rfl rfl ?_
                  refine TL.done ?_
                  refine TQ.inBlock ?_
                  refine TQ.roundK (j3 - 1) ⟨⟨by omega, (scanDown_go (p := (fun x => !ltf cf x (d2)[lo]!)) (d := d2) (by omega) (by omega) (nF (by assumption))).trans g4⟩, by omega⟩ ⟨rfl, trivial⟩ ⟨rfl, trivial⟩ (.cons rfl rfl (.cons rfl rfl (.cons rfl rfl (.cons rfl rfl (.cons rfl rfl (.cons rfl rfl trivial)))))) trivial
              · skip
                refine TL.mv (.bool false) rfl rfl rfl ?_
                refine TL.off rfl rfl ?_
                refine TL.off rfl rfl ?_
                refine TL.off rfl rfl ?_
                refine TL.off rfl rfl ?_
                refine TL.off rfl rfl ?_
                refine TL.off rfl rfl ?_
                refine TL.off rfl rfl ?_
                refine TL.off rfl rfl ?_
                refine TL.off rfl rfl ?_
                refine TL.off rfl rfl ?_
                refine TL.off rfl rfl ?_
                refine TL.off rfl rfl ?_
                refine TL.pickF (.bool false) rfl rfl rfl rfl ?_
                refine TL.done ?_
                refine TQ.then ?_
                refine TC.condF rfl ?_
                refine TC.exit ?_
                refine TQ.thenExit ?_
                refine TQ.thenExit ?_
                refine TQ.blockHere ?_
                refine TQ.then ?_
                refine TC.seq ?_
                refine TC.seq ?_
                refine TC.region ?_
                refine TL.mv (.int _ _) rfl rfl rfl ?_
                refine TL.mv (.int _ _) rfl rfl rfl ?_
                refine TL.gtr rfl rfl rfl rfl (fun q8 => ?_) (fun q8 => ?_)
                · skip
                  refine TL.done ?_
                  refine TQ.then ?_
                  refine TC.condT rfl ?_
                  refine TC.exit ?_
                  refine TQ.thenExit ?_
                  refine TQ.blockOut rfl ?_
                  refine TQ.thenExit ?_
                  refine TQ.blockHere ?_
                  refine TQ.then ?_
                  refine TC.seq ?_
                  refine TC.draw2 [(0, true), (1, true), (2, true), (3, true), (4, true), (5, true), (6, true), (7, true), (8, true), (9, true), (10, true), (11, true), (12, true)] 13 [(14, true), (15, false)] [0] fc_m (by kernel_rfl) ?_
                  refine TL.mv (.slice _ _ _) rfl rfl rfl ?_
                  refine TL.mv (.int _ _) rfl rfl rfl ?_
                  refine TL.mv (.slice _ _ _) rfl rfl rfl ?_
                  refine TL.mv (.int _ _) rfl rfl rfl ?_
                  refine TL.mv (.slice _ _ _) rfl rfl rfl ?_
                  refine TL.mv (.int _ _) rfl rfl rfl ?_
                  refine TL.iaO rfl ha rfl fc_l22_29_9 (by omega) rfl rfl ?_
                  refine TL.ldR 0 rfl rfl rowW_of (by omega) fc_a29_9 rfl rfl ?_
                  refine TL.mv (.slice _ _ _) rfl rfl rfl ?_
                  refine TL.mv (.int _ _) rfl rfl rfl ?_
                  refine TL.iaO rfl ha rfl fc_l22_29_9 (by omega) rfl rfl ?_
                  refine TL.ldR 0 rfl rfl rowW_of (by omega) fc_a29_9 rfl rfl ?_
                  refine TL.iaO rfl ha rfl fc_l22_29_9 (by omega) rfl rfl ?_
                  refine TL.late ?_
                  refine TL.stR 0 rfl rfl rfl encA_ok (by omega) fc_a29_9 rfl rfl trivial ?_
                  refine TL.iaO rfl ha rfl fc_l22_29_9 (by omega) rfl rfl ?_
                  refine TL.stR 0 rfl rfl rfl encA_ok (by omega) fc_a29_9 rfl rfl trivial ?_
                  refine TL.done ?_
                  refine TQ.then ?_
                  refine TC.seq ?_
                  refine TC.region ?_
                  refine TL.mv (.int _ _) rfl rfl rfl ?_
                  refine TL.asg (.int _ _) rfl rfl rfl ?_
                  refine TL.asg (.bool false) rfl rfl rfl ?_
                  refine TL.done ?_
                  refine TQ.then ?_
                  refine TC.ret ?_
                  refine FQ.ret2 (v := (.int _ _)) (x := (.bool false)) (Bs := [_]) [0] rfl rfl rfl rfl ⟨rfl, trivial⟩ ?_
                  first | (have e3 := ploop_end hI (g3.symm.trans (scanUp_stop (by first | exact .inl (by omega) | exact .inr (ltF (by assumption))))) (g4.symm.trans (scanDown_stop (by first | exact .inl (by omega) | exact .inr (nT (by assumption))))) (by omega); have e := part_F (g1.symm.trans (scanUp_stop (by first | exact .inl (by omega) | exact .inr (ltF (by assumption))))) (g2.symm.trans (scanDown_stop (by first | exact .inl (by omega) | exact .inr (nT (by assumption))))) (by omega) e3; exact ⟨by rw [e] <;> rfl, by rw [e] <;> rfl⟩) | (have e := part_T (g1.symm.trans (scanUp_stop (by first | exact .inl (by omega) | exact .inr (ltF (by assumption))))) (g2.symm.trans (scanDown_stop (by first | exact .inl (by omega) | exact .inr (nT (by assumption))))) (by omega); exact ⟨by rw [e] <;> rfl, by rw [e] <;> rfl⟩)
                · skip
                  refine TL.done ?_
                  refine TQ.then ?_
                  refine TC.condF rfl ?_
                  refine TC.skip ?_
                  refine TQ.then ?_
                  refine TC.seq ?_
                  refine TC.draw2 [(0, true), (1, true), (2, true), (3, true), (4, true), (5, true), (6, true), (7, true), (8, true), (9, true), (10, true), (11, true), (12, true)] 13 [(14, true), (15, false)] [0] fc_m (by kernel_rfl) ?_
                  refine TL.mv (.slice _ _ _) rfl rfl rfl ?_
                  refine TL.mv (.int _ _) rfl rfl rfl ?_
                  refine TL.mv (.slice _ _ _) rfl rfl rfl ?_
                  refine TL.mv (.int _ _) rfl rfl rfl ?_
                  refine TL.mv (.slice _ _ _) rfl rfl rfl ?_
                  refine TL.mv (.int _ _) rfl rfl rfl ?_
                  refine TL.iaO rfl ha rfl fc_l22_29_9 (by omega) rfl rfl ?_
                  refine TL.ldR 0 rfl rfl rowW_of (by omega) fc_a29_9 rfl rfl ?_
                  refine TL.mv (.slice _ _ _) rfl rfl rfl ?_
                  refine TL.mv (.int _ _) rfl rfl rfl ?_
                  refine TL.iaO rfl ha rfl fc_l22_29_9 (by omega) rfl rfl ?_
                  refine TL.ldR 0 rfl rfl rowW_of (by omega) fc_a29_9 rfl rfl ?_
                  refine TL.iaO rfl ha rfl fc_l22_29_9 (by omega) rfl rfl ?_
                  refine TL.late ?_
                  refine TL.stR 0 rfl rfl rfl encA_ok (by omega) fc_a29_9 rfl rfl trivial ?_
                  refine TL.iaO rfl ha rfl fc_l22_29_9 (by omega) rfl rfl ?_
                  refine TL.stR 0 rfl rfl rfl encA_ok (by omega) fc_a29_9 rfl rfl trivial ?_
                  refine TL.done ?_
                  refine TQ.then ?_
                  refine TC.seq ?_
                  refine TC.region ?_
                  refine TL.mv (.int _ _) rfl rfl rfl ?_
                  refine TL.add (((i3 + 1 : Nat) : Int)) rfl rfl (wrN (by omega)) rfl rfl ?_
                  refine TL.asg (.int _ _) rfl rfl rfl ?_
                  refine TL.done ?_
                  refine TQ.then ?_
                  refine TC.region ?_
                  refine TL.mv (.int _ _) rfl rfl rfl ?_
                  refine TL.sub (((j3 - 1 : Nat) : Int)) rfl rfl (wrN (by omega)) rfl rfl ?_
                  refine TL.asg (.int _ _) rfl rfl rfl ?_
                  refine TL.done ?_
                  refine TQ.inBlock ?_
                  refine TQ.roundK ((i3 + 1, j3 - 1, swp d2 i3 j3)) ⟨⟨by omega, by omega, by omega, ploop_go hI (g3.symm.trans (scanUp_stop (by first | exact .inl (by omega) | exact .inr (ltF (by assumption))))) (g4.symm.trans (scanDown_stop (by first | exact .inl (by omega) | exact .inr (nT (by assumption))))) (by omega) (by omega) (by omega)⟩, by show j3 - 1 + 1 - (i3 + 1) < j2 + 1 - i2; omega⟩ ⟨rfl, rfl, trivial⟩ ⟨rfl, trivial⟩ (.cons rfl rfl (.cons rfl rfl (.cons rfl rfl (.cons rfl rfl (.cons rfl rfl trivial))))) trivial
          · skip
            refine TL.mv (.bool false) rfl rfl rfl ?_
            refine TL.off rfl rfl ?_
            refine TL.off rfl rfl ?_
            refine TL.off rfl rfl ?_
            refine TL.off rfl rfl ?_
            refine TL.off rfl rfl ?_
            refine TL.off rfl rfl ?_
            refine TL.off rfl rfl ?_
            refine TL.off rfl rfl ?_
            refine TL.off rfl rfl ?_
            refine TL.off rfl rfl ?_
            refine TL.off rfl rfl ?_
            refine TL.pickF (.bool false) rfl rfl rfl rfl ?_
            refine TL.done ?_
            refine TQ.then ?_
            refine TC.condF rfl ?_
            refine TC.exit ?_
            refine TQ.thenExit ?_
            refine TQ.thenExit ?_
            refine TQ.blockHere ?_
            refine TQ.then ?_
            refine TC.seq ?_
            refine TC.block ?_
            refine TC.loopK (X := Nat) [0, 1, 4, 10, 11, 12] [] (fun j3 => [(13, .int .i64 ((j3 : Nat) : Int))]) (fun j3 => [(0, rw9 b off n (d2))]) (fun j3 => j3 ≤ j2 ∧ scanDown (fun x => !ltf cf x (d2)[lo]!) (d2) (i3) (j3) = scanDown (fun x => !ltf cf x (d2)[lo]!) (d2) (i3) (j2)) (fun j3 => j3) (j2) ⟨by omega, rfl⟩ ⟨rfl, trivial⟩ ⟨rfl, trivial⟩ (fun j3 hI => ?_)
            obtain ⟨g4a, g4⟩ := hI
            refine TC.sub (env' := [(13, _), (0, _), (1, _), (4, _), (10, _), (11, _), (12, _)]) (L' := [(0, _)]) ⟨rfl, rfl, rfl, rfl, rfl, rfl, rfl, trivial⟩ ⟨rfl, trivial⟩ ?_
            refine TC.seq ?_
            refine TC.seq ?_
            refine TC.draw [(0, true), (1, true), (2, true), (3, true), (4, true), (5, true), (6, true), (7, true), (8, true), (9, true), (10, true), (11, true), (12, true), (13, false), (14, true), (15, true), (16, true)] [0] fc_m (by kernel_rfl) ?_
            refine TL.mv (.int _ _) rfl rfl rfl ?_
            refine TL.mv (.int _ _) rfl rfl rfl ?_
            refine TL.leq rfl rfl rfl rfl (fun q6 => ?_) (fun q6 => ?_)
            · skip
              refine TL.mv (.bool true) rfl rfl rfl ?_
              refine TL.mv _ rfl rfl rfl ?_
              refine TL.mv (.slice _ _ _) rfl rfl rfl ?_
              refine TL.mv (.int _ _) rfl rfl rfl ?_
              refine TL.iaO rfl ha rfl fc_l22_29_9 (by omega) rfl rfl ?_
              refine TL.ldR 0 rfl rfl rowW_of (by omega) fc_a29_9 rfl rfl ?_
              refine TL.mv (.slice _ _ _) rfl rfl rfl ?_
              refine TL.mv (.int _ _) rfl rfl rfl ?_
              refine TL.iaO rfl ha rfl fc_l22_29_9 (by omega) rfl rfl ?_
              refine TL.ldR 0 rfl rfl rowW_of (by omega) fc_a29_9 rfl rfl ?_
              refine TL.callC (c1 := []) (c2 := []) (vs := [_, _]) [] [] rfl (hcmp _ _) ⟨rfl, rfl, trivial⟩ trivial hcb rfl rfl rfl rfl rfl (.cons rfl rfl trivial) ?_
              refine TL.lss rfl rfl rfl rfl (fun q7 => ?_) (fun q7 => ?_)
              · skip
                refine TL.not true false rfl rfl rfl rfl ?_
                refine TL.pickT (.bool false) rfl rfl rfl rfl ?_
                refine TL.done ?_
                refine TQ.then ?_
                refine TC.condF rfl ?_
                refine TC.exit ?_
                refine TQ.thenExit ?_
                refine TQ.thenExit ?_
                refine TQ.blockHere ?_
                refine TQ.then ?_
                refine TC.seq ?_
                refine TC.seq ?_
                refine TC.region ?_
                refine TL.mv (.int _ _) rfl rfl rfl ?_
                refine TL.mv (.int _ _) rfl rfl rfl ?_
                refine TL.gtr rfl rfl rfl rfl (fun q8 => ?_) (fun q8 => ?_)
                · skip
                  refine TL.done ?_
                  refine TQ.then ?_
                  refine TC.condT rfl ?_
                  refine TC.exit ?_
                  refine TQ.thenExit ?_
                  refine TQ.blockOut rfl ?_
                  refine TQ.thenExit ?_
                  refine TQ.blockHere ?_
                  refine TQ.then ?_
                  refine TC.seq ?_
                  refine TC.draw2 [(0, true), (1, true), (2, true), (3, true), (4, true), (5, true), (6, true), (7, true), (8, true), (9, true), (10, true), (11, true), (12, true)] 13 [(14, true), (15, false)] [0] fc_m (by kernel_rfl) ?_
                  refine TL.mv (.slice _ _ _) rfl rfl rfl ?_
                  refine TL.mv (.int _ _) rfl rfl rfl ?_
                  refine TL.mv (.slice _ _ _) rfl rfl rfl ?_
                  refine TL.mv (.int _ _) rfl rfl rfl ?_
                  refine TL.mv (.slice _ _ _) rfl rfl rfl ?_
                  refine TL.mv (.int _ _) rfl rfl rfl ?_
                  refine TL.iaO rfl ha rfl fc_l22_29_9 (by omega) rfl rfl ?_
                  refine TL.ldR 0 rfl rfl rowW_of (by omega) fc_a29_9 rfl rfl ?_
                  refine TL.mv (.slice _ _ _) rfl rfl rfl ?_
                  refine TL.mv (.int _ _) rfl rfl rfl ?_
                  refine TL.iaO rfl ha rfl fc_l22_29_9 (by omega) rfl rfl ?_
                  refine TL.ldR 0 rfl rfl rowW_of (by omega) fc_a29_9 rfl rfl ?_
                  refine TL.iaO rfl ha rfl fc_l22_29_9 (by omega) rfl rfl ?_
                  refine TL.late ?_
                  refine TL.stR 0 rfl rfl rfl encA_ok (by omega) fc_a29_9 rfl rfl trivial ?_
                  refine TL.iaO rfl ha rfl fc_l22_29_9 (by omega) rfl rfl ?_
                  refine TL.stR 0 rfl rfl rfl encA_ok (by omega) fc_a29_9 rfl rfl trivial ?_
                  refine TL.done ?_
                  refine TQ.then ?_
                  refine TC.seq ?_
                  refine TC.region ?_
                  refine TL.mv (.int _ _) rfl rfl rfl ?_
                  refine TL.asg (.int _ _) rfl rfl rfl ?_
                  refine TL.asg (.bool false) rfl rfl rfl ?_
                  refine TL.done ?_
                  refine TQ.then ?_
                  refine TC.ret ?_
                  refine FQ.ret2 (v := (.int _ _)) (x := (.bool false)) (Bs := [_]) [0] rfl rfl rfl rfl ⟨rfl, trivial⟩ ?_
                  first | (have e3 := ploop_end hI (g3.symm.trans (scanUp_stop (by first | exact .inl (by omega) | exact .inr (ltF (by assumption))))) (g4.symm.trans (scanDown_stop (by first | exact .inl (by omega) | exact .inr (nT (by assumption))))) (by omega); have e := part_F (g1.symm.trans (scanUp_stop (by first | exact .inl (by omega) | exact .inr (ltF (by assumption))))) (g2.symm.trans (scanDown_stop (by first | exact .inl (by omega) | exact .inr (nT (by assumption))))) (by omega) e3; exact ⟨by rw [e] <;> rfl, by rw [e] <;> rfl⟩) | (have e := part_T (g1.symm.trans (scanUp_stop (by first | exact .inl (by omega) | exact .inr (ltF (by assumption))))) (g2.symm.trans (scanDown_stop (by first | exact .inl (by omega) | exact .inr (nT (by assumption))))) (by omega); exact ⟨by rw [e] <;> rfl, by rw [e] <;> rfl⟩)
                · skip
                  refine TL.done ?_
                  refine TQ.then ?_
                  refine TC.condF rfl ?_
                  refine TC.skip ?_
                  refine TQ.then ?_
                  refine TC.seq ?_
                  refine TC.draw2 [(0, true), (1, true), (2, true), (3, true), (4, true), (5, true), (6, true), (7, true), (8, true), (9, true), (10, true), (11, true), (12, true)] 13 [(14, true), (15, false)] [0] fc_m (by kernel_rfl) ?_
                  refine TL.mv (.slice _ _ _) rfl rfl rfl ?_
                  refine TL.mv (.int _ _) rfl rfl rfl ?_
                  refine TL.mv (.slice _ _ _) rfl rfl rfl ?_
                  refine TL.mv (.int _ _) rfl rfl rfl ?_
                  refine TL.mv (.slice _ _ _) rfl rfl rfl ?_
                  refine TL.mv (.int _ _) rfl rfl rfl ?_
                  refine TL.iaO rfl ha rfl fc_l22_29_9 (by omega) rfl rfl ?_
                  refine TL.ldR 0 rfl rfl rowW_of (by omega) fc_a29_9 rfl rfl ?_
                  refine TL.mv (.slice _ _ _) rfl rfl rfl ?_
                  refine TL.mv (.int _ _) rfl rfl rfl ?_
                  refine TL.iaO rfl ha rfl fc_l22_29_9 (by omega) rfl rfl ?_
                  refine TL.ldR 0 rfl rfl rowW_of (by omega) fc_a29_9 rfl rfl ?_
                  refine TL.iaO rfl ha rfl fc_l22_29_9 (by omega) rfl rfl ?_
                  refine TL.late ?_
                  refine TL.stR 0 rfl rfl rfl encA_ok (by omega) fc_a29_9 rfl rfl trivial ?_
                  refine TL.iaO rfl ha rfl fc_l22_29_9 (by omega) rfl rfl ?_
                  refine TL.stR 0 rfl rfl rfl encA_ok (by omega) fc_a29_9 rfl rfl trivial ?_
                  refine TL.done ?_
                  refine TQ.then ?_
                  refine TC.seq ?_
                  refine TC.region ?_
                  refine TL.mv (.int _ _) rfl rfl rfl ?_
                  refine TL.add (((i3 + 1 : Nat) : Int)) rfl rfl (wrN (by omega)) rfl rfl ?_
                  refine TL.asg (.int _ _) rfl rfl rfl ?_
                  refine TL.done ?_
                  refine TQ.then ?_
                  refine TC.region ?_
                  refine TL.mv (.int _ _) rfl rfl rfl ?_
                  refine TL.sub (((j3 - 1 : Nat) : Int)) rfl rfl (wrN (by omega)) rfl rfl ?_
                  refine TL.asg (.int _ _) rfl rfl rfl ?_
                  refine TL.done ?_
                  refine TQ.inBlock ?_
                  refine TQ.roundK ((i3 + 1, j3 - 1, swp d2 i3 j3)) ⟨⟨by omega, by omega, by omega, ploop_go hI (g3.symm.trans (scanUp_stop (by first | exact .inl (by omega) | exact .inr (ltF (by assumption))))) (g4.symm.trans (scanDown_stop (by first | exact .inl (by omega) | exact .inr (nT (by assumption))))) (by omega) (by omega) (by omega)⟩, by show j3 - 1 + 1 - (i3 + 1) < j2 + 1 - i2; omega⟩ ⟨rfl, rfl, trivial⟩ ⟨rfl, trivial⟩ (.cons rfl rfl (.cons rfl rfl (.cons rfl rfl (.cons rfl rfl (.cons rfl rfl trivial))))) trivial
              · skip
                refine TL.not false true rfl rfl rfl rfl ?_
                refine TL.pickT (.bool true) rfl rfl rfl rfl ?_
                refine TL.done ?_
                refine TQ.then ?_
                refine TC.condT rfl ?_
                refine TC.skip ?_
                refine TQ.then ?_
                refine TC.block ?_
                refine TC.region ?_
                refine TL.mv (.int _ _) rfl rfl rfl ?_
                refine TL.sub (((j3 - 1 : Nat) : Int)) rfl rfl (wrN (by omega)) rfl rfl ?_
                refine TL.asg (.int _ _) rfl rfl rfl ?_
                refine TL.done ?_
                refine TQ.inBlock ?_
                refine TQ.roundK (j3 - 1) ⟨⟨by omega, (scanDown_go (p := (fun x => !ltf cf x (d2)[lo]!)) (d := d2) (by omega) (by omega) (nF (by assumption))).trans g4⟩, by omega⟩ ⟨rfl, trivial⟩ ⟨rfl, trivial⟩ (.cons rfl rfl (.cons rfl rfl (.cons rfl rfl (.cons rfl rfl (.cons rfl rfl (.cons rfl rfl trivial)))))) trivial
            · skip
              refine TL.mv (.bool false) rfl rfl rfl ?_
              refine TL.off rfl rfl ?_
              refine TL.off rfl rfl ?_
              refine TL.off rfl rfl ?_
              refine TL.off rfl rfl ?_
              refine TL.off rfl rfl ?_
              refine TL.off rfl rfl ?_
              refine TL.off rfl rfl ?_
              refine TL.off rfl rfl ?_
              refine TL.off rfl rfl ?_
              refine TL.off rfl rfl ?_
              refine TL.off rfl rfl ?_
              refine TL.off rfl rfl ?_
              refine TL.pickF (.bool false) rfl rfl rfl rfl ?_
              refine TL.done ?_
              refine TQ.then ?_
              refine TC.condF rfl ?_
              refine TC.exit ?_
              refine TQ.thenExit ?_
              refine TQ.thenExit ?_
              refine TQ.blockHere ?_
              refine TQ.then ?_
              refine TC.seq ?_
              refine TC.seq ?_
              refine TC.region ?_
              refine TL.mv (.int _ _) rfl rfl rfl ?_
              refine TL.mv (.int _ _) rfl rfl rfl ?_
              refine TL.gtr rfl rfl rfl rfl (fun q7 => ?_) (fun q7 => ?_)
              · skip
                refine TL.done ?_
                refine TQ.then ?_
                refine TC.condT rfl ?_
                refine TC.exit ?_
                refine TQ.thenExit ?_
                refine TQ.blockOut rfl ?_
                refine TQ.thenExit ?_
                refine TQ.blockHere ?_
                refine TQ.then ?_
                refine TC.seq ?_
                refine TC.draw2 [(0, true), (1, true), (2, true), (3, true), (4, true), (5, true), (6, true), (7, true), (8, true), (9, true), (10, true), (11, true), (12, true)] 13 [(14, true), (15, false)] [0] fc_m (by kernel_rfl) ?_
                refine TL.mv (.slice _ _ _) rfl rfl rfl ?_
                refine TL.mv (.int _ _) rfl rfl rfl ?_
                refine TL.mv (.slice _ _ _) rfl rfl rfl ?_
                refine TL.mv (.int _ _) rfl rfl rfl ?_
                refine TL.mv (.slice _ _ _) rfl rfl rfl ?_
                refine TL.mv (.int _ _) rfl rfl rfl ?_
                refine TL.iaO rfl ha rfl fc_l22_29_9 (by omega) rfl rfl ?_
                refine TL.ldR 0 rfl rfl rowW_of (by omega) fc_a29_9 rfl rfl ?_
                refine TL.mv (.slice _ _ _) rfl rfl rfl ?_
                refine TL.mv (.int _ _) rfl rfl rfl ?_
                refine TL.iaO rfl ha rfl fc_l22_29_9 (by omega) rfl rfl ?_
                refine TL.ldR 0 rfl rfl rowW_of (by omega) fc_a29_9 rfl rfl ?_
                refine TL.iaO rfl ha rfl fc_l22_29_9 (by omega) rfl rfl ?_
                refine TL.late ?_
                refine TL.stR 0 rfl rfl rfl encA_ok (by omega) fc_a29_9 rfl rfl trivial ?_
                refine TL.iaO rfl ha rfl fc_l22_29_9 (by omega) rfl rfl ?_
                refine TL.stR 0 rfl rfl rfl encA_ok (by omega) fc_a29_9 rfl rfl trivial ?_
                refine TL.done ?_
                refine TQ.then ?_
                refine TC.seq ?_
                refine TC.region ?_
                refine TL.mv (.int _ _) rfl rfl rfl ?_
                refine TL.asg (.int _ _) rfl rfl rfl ?_
                refine TL.asg (.bool false) rfl rfl rfl ?_
                refine TL.done ?_
                refine TQ.then ?_
                refine TC.ret ?_
                refine FQ.ret2 (v := (.int _ _)) (x := (.bool false)) (Bs := [_]) [0] rfl rfl rfl rfl ⟨rfl, trivial⟩ ?_
                first | (have e3 := ploop_end hI (g3.symm.trans (scanUp_stop (by first | exact .inl (by omega) | exact .inr (ltF (by assumption))))) (g4.symm.trans (scanDown_stop (by first | exact .inl (by omega) | exact .inr (nT (by assumption))))) (by omega); have e := part_F (g1.symm.trans (scanUp_stop (by first | exact .inl (by omega) | exact .inr (ltF (by assumption))))) (g2.symm.trans (scanDown_stop (by first | exact .inl (by omega) | exact .inr (nT (by assumption))))) (by omega) e3; exact ⟨by rw [e] <;> rfl, by rw [e] <;> rfl⟩) | (have e := part_T (g1.symm.trans (scanUp_stop (by first | exact .inl (by omega) | exact .inr (ltF (by assumption))))) (g2.symm.trans (scanDown_stop (by first | exact .inl (by omega) | exact .inr (nT (by assumption))))) (by omega); exact ⟨by rw [e] <;> rfl, by rw [e] <;> rfl⟩)
              · skip
                refine TL.done ?_
                refine TQ.then ?_
                refine TC.condF rfl ?_
                refine TC.skip ?_
                refine TQ.then ?_
                refine TC.seq ?_
                refine TC.draw2 [(0, true), (1, true), (2, true), (3, true), (4, true), (5, true), (6, true), (7, true), (8, true), (9, true), (10, true), (11, true), (12, true)] 13 [(14, true), (15, false)] [0] fc_m (by kernel_rfl) ?_
                refine TL.mv (.slice _ _ _) rfl rfl rfl ?_
                refine TL.mv (.int _ _) rfl rfl rfl ?_
                refine TL.mv (.slice _ _ _) rfl rfl rfl ?_
                refine TL.mv (.int _ _) rfl rfl rfl ?_
                refine TL.mv (.slice _ _ _) rfl rfl rfl ?_
                refine TL.mv (.int _ _) rfl rfl rfl ?_
                refine TL.iaO rfl ha rfl fc_l22_29_9 (by omega) rfl rfl ?_
                refine TL.ldR 0 rfl rfl rowW_of (by omega) fc_a29_9 rfl rfl ?_
                refine TL.mv (.slice _ _ _) rfl rfl rfl ?_
                refine TL.mv (.int _ _) rfl rfl rfl ?_
                refine TL.iaO rfl ha rfl fc_l22_29_9 (by omega) rfl rfl ?_
                refine TL.ldR 0 rfl rfl rowW_of (by omega) fc_a29_9 rfl rfl ?_
                refine TL.iaO rfl ha rfl fc_l22_29_9 (by omega) rfl rfl ?_
                refine TL.late ?_
                refine TL.stR 0 rfl rfl rfl encA_ok (by omega) fc_a29_9 rfl rfl trivial ?_
                refine TL.iaO rfl ha rfl fc_l22_29_9 (by omega) rfl rfl ?_
                refine TL.stR 0 rfl rfl rfl encA_ok (by omega) fc_a29_9 rfl rfl trivial ?_
                refine TL.done ?_
                refine TQ.then ?_
                refine TC.seq ?_
                refine TC.region ?_
                refine TL.mv (.int _ _) rfl rfl rfl ?_
                refine TL.add (((i3 + 1 : Nat) : Int)) rfl rfl (wrN (by omega)) rfl rfl ?_
                refine TL.asg (.int _ _) rfl rfl rfl ?_
                refine TL.done ?_
                refine TQ.then ?_
                refine TC.region ?_
                refine TL.mv (.int _ _) rfl rfl rfl ?_
                refine TL.sub (((j3 - 1 : Nat) : Int)) rfl rfl (wrN (by omega)) rfl rfl ?_
                refine TL.asg (.int _ _) rfl rfl rfl ?_
                refine TL.done ?_
                refine TQ.inBlock ?_
                refine TQ.roundK ((i3 + 1, j3 - 1, swp d2 i3 j3)) ⟨⟨by omega, by omega, by omega, ploop_go hI (g3.symm.trans (scanUp_stop (by first | exact .inl (by omega) | exact .inr (ltF (by assumption))))) (g4.symm.trans (scanDown_stop (by first | exact .inl (by omega) | exact .inr (nT (by assumption))))) (by omega) (by omega) (by omega)⟩, by show j3 - 1 + 1 - (i3 + 1) < j2 + 1 - i2; omega⟩ ⟨rfl, rfl, trivial⟩ ⟨rfl, trivial⟩ (.cons rfl rfl (.cons rfl rfl (.cons rfl rfl (.cons rfl rfl (.cons rfl rfl trivial))))) trivial
      · skip
        refine TL.not false true rfl rfl rfl rfl ?_
        refine TL.pickT (.bool true) rfl rfl rfl rfl ?_
        refine TL.done ?_
        refine TQ.then ?_
        refine TC.condT rfl ?_
        refine TC.skip ?_
        refine TQ.then ?_
        refine TC.block ?_
        refine TC.region ?_
        refine TL.mv (.int _ _) rfl rfl rfl ?_
        refine TL.sub (((j - 1 : Nat) : Int)) rfl rfl (wrN (by omega)) rfl rfl ?_
        refine TL.asg (.int _ _) rfl rfl rfl ?_
        refine TL.done ?_
        refine TQ.inBlock ?_
        refine TQ.roundK (j - 1) ⟨⟨by omega, (scanDown_go (p := (fun x => !ltf cf x (swp d lo pv)[lo]!)) (d := swp d lo pv) (by omega) (by omega) (nF (by assumption))).trans g2⟩, by omega⟩ ⟨rfl, trivial⟩ ⟨rfl, trivial⟩ (.cons rfl rfl (.cons rfl rfl (.cons rfl rfl (.cons rfl rfl (.cons rfl rfl (.cons rfl rfl trivial)))))) trivial
    · skip
      refine TL.mv (.bool false) rfl rfl rfl ?_
      refine TL.off rfl rfl ?_
      refine TL.off rfl rfl ?_
      refine TL.off rfl rfl ?_
      refine TL.off rfl rfl ?_
      refine TL.off rfl rfl ?_
      refine TL.off rfl rfl ?_
      refine TL.off rfl rfl ?_
      refine TL.off rfl rfl ?_
      refine TL.off rfl rfl ?_
      refine TL.off rfl rfl ?_
      refine TL.off rfl rfl ?_
      refine TL.off rfl rfl ?_
      refine TL.pickF (.bool false) rfl rfl rfl rfl ?_
      refine TL.done ?_
      refine TQ.then ?_
      refine TC.condF rfl ?_
      refine TC.exit ?_
      refine TQ.thenExit ?_
      refine TQ.thenExit ?_
      refine TQ.blockHere ?_
      refine TQ.then ?_
      refine TC.seq ?_
      refine TC.seq ?_
      refine TC.region ?_
      refine TL.mv (.int _ _) rfl rfl rfl ?_
      refine TL.mv (.int _ _) rfl rfl rfl ?_
      refine TL.gtr rfl rfl rfl rfl (fun q3 => ?_) (fun q3 => ?_)
      · skip
        refine TL.done ?_
        refine TQ.then ?_
        refine TC.condT rfl ?_
        refine TC.seq ?_
        refine TC.draw2 [(0, true), (1, true), (2, true), (3, true), (4, true), (5, true), (6, true), (7, true), (8, true), (9, true), (10, true), (11, true), (12, true)] 13 [(14, true), (15, false)] [0] fc_m (by kernel_rfl) ?_
        refine TL.mv (.slice _ _ _) rfl rfl rfl ?_
        refine TL.mv (.int _ _) rfl rfl rfl ?_
        refine TL.mv (.slice _ _ _) rfl rfl rfl ?_
        refine TL.mv (.int _ _) rfl rfl rfl ?_
        refine TL.mv (.slice _ _ _) rfl rfl rfl ?_
        refine TL.mv (.int _ _) rfl rfl rfl ?_
        refine TL.iaO rfl ha rfl fc_l22_29_9 (by omega) rfl rfl ?_
        refine TL.ldR 0 rfl rfl rowW_of (by omega) fc_a29_9 rfl rfl ?_
        refine TL.mv (.slice _ _ _) rfl rfl rfl ?_
        refine TL.mv (.int _ _) rfl rfl rfl ?_
        refine TL.iaO rfl ha rfl fc_l22_29_9 (by omega) rfl rfl ?_
        refine TL.ldR 0 rfl rfl rowW_of (by omega) fc_a29_9 rfl rfl ?_
        refine TL.iaO rfl ha rfl fc_l22_29_9 (by omega) rfl rfl ?_
        refine TL.late ?_
        refine TL.stR 0 rfl rfl rfl encA_ok (by omega) fc_a29_9 rfl rfl trivial ?_
        refine TL.iaO rfl ha rfl fc_l22_29_9 (by omega) rfl rfl ?_
        refine TL.stR 0 rfl rfl rfl encA_ok (by omega) fc_a29_9 rfl rfl trivial ?_
        refine TL.done ?_
        refine TQ.then ?_
        refine TC.seq ?_
        refine TC.region ?_
        refine TL.mv (.int _ _) rfl rfl rfl ?_
        refine TL.asg (.int _ _) rfl rfl rfl ?_
        refine TL.asg (.bool true) rfl rfl rfl ?_
        refine TL.done ?_
        refine TQ.then ?_
        refine TC.ret ?_
        refine TQ.thenRet ?_
        refine FQ.ret2 (v := (.int _ _)) (x := (.bool true)) (Bs := [_]) [0] rfl rfl rfl rfl ⟨rfl, trivial⟩ ?_
        first | (have e3 := ploop_end hI (g3.symm.trans (scanUp_stop (by first | exact .inl (by omega) | exact .inr (ltF (by assumption))))) (g4.symm.trans (scanDown_stop (by first | exact .inl (by omega) | exact .inr (nT (by assumption))))) (by omega); have e := part_F (g1.symm.trans (scanUp_stop (by first | exact .inl (by omega) | exact .inr (ltF (by assumption))))) (g2.symm.trans (scanDown_stop (by first | exact .inl (by omega) | exact .inr (nT (by assumption))))) (by omega) e3; exact ⟨by rw [e] <;> rfl, by rw [e] <;> rfl⟩) | (have e := part_T (g1.symm.trans (scanUp_stop (by first | exact .inl (by omega) | exact .inr (ltF (by assumption))))) (g2.symm.trans (scanDown_stop (by first | exact .inl (by omega) | exact .inr (nT (by assumption))))) (by omega); exact ⟨by rw [e] <;> rfl, by rw [e] <;> rfl⟩)
      · skip
        refine TL.done ?_
        refine TQ.then ?_
        refine TC.condF rfl ?_
        refine TC.skip ?_
        refine TQ.then ?_
        refine TC.seq ?_
        refine TC.draw2 [(0, true), (1, true), (2, true), (3, true), (4, true), (5, true), (6, true), (7, true), (8, true), (9, true), (10, true), (11, true), (12, true)] 13 [(14, true), (15, false)] [0] fc_m (by kernel_rfl) ?_
        refine TL.mv (.slice _ _ _) rfl rfl rfl ?_
        refine TL.mv (.int _ _) rfl rfl rfl ?_
        refine TL.mv (.slice _ _ _) rfl rfl rfl ?_
        refine TL.mv (.int _ _) rfl rfl rfl ?_
        refine TL.mv (.slice _ _ _) rfl rfl rfl ?_
        refine TL.mv (.int _ _) rfl rfl rfl ?_
        refine TL.iaO rfl ha rfl fc_l22_29_9 (by omega) rfl rfl ?_
        refine TL.ldR 0 rfl rfl rowW_of (by omega) fc_a29_9 rfl rfl ?_
        refine TL.mv (.slice _ _ _) rfl rfl rfl ?_
        refine TL.mv (.int _ _) rfl rfl rfl ?_
        refine TL.iaO rfl ha rfl fc_l22_29_9 (by omega) rfl rfl ?_
        refine TL.ldR 0 rfl rfl rowW_of (by omega) fc_a29_9 rfl rfl ?_
        refine TL.iaO rfl ha rfl fc_l22_29_9 (by omega) rfl rfl ?_
        refine TL.late ?_
        refine TL.stR 0 rfl rfl rfl encA_ok (by omega) fc_a29_9 rfl rfl trivial ?_
        refine TL.iaO rfl ha rfl fc_l22_29_9 (by omega) rfl rfl ?_
        refine TL.stR 0 rfl rfl rfl encA_ok (by omega) fc_a29_9 rfl rfl trivial ?_
        refine TL.done ?_
        refine TQ.then ?_
        refine TC.seq ?_
        refine TC.region ?_
        refine TL.mv (.int _ _) rfl rfl rfl ?_
        refine TL.add (((i + 1 : Nat) : Int)) rfl rfl (wrN (by omega)) rfl rfl ?_
        refine TL.asg (.int _ _) rfl rfl rfl ?_
        refine TL.done ?_
        refine TQ.then ?_
        refine TC.seq ?_
        refine TC.region ?_
        refine TL.mv (.int _ _) rfl rfl rfl ?_
        refine TL.sub (((j - 1 : Nat) : Int)) rfl rfl (wrN (by omega)) rfl rfl ?_
        refine TL.asg (.int _ _) rfl rfl rfl ?_
        refine TL.done ?_
        refine TQ.then ?_
        refine TC.seq ?_
        refine TC.block ?_
        refine TC.loopK (X := Nat × Nat × Array Ans) [0, 1, 4, 10, 11] [] (fun ⟨i2, j2, d2⟩ => [(12, .int .i64 ((i2 : Nat) : Int)), (13, .int .i64 ((j2 : Nat) : Int))]) (fun ⟨i2, j2, d2⟩ => [(0, rw9 b off n d2)]) (fun ⟨i2, j2, d2⟩ => lo < i2 ∧ i2 ≤ n ∧ j2 < n ∧ partLoop (ltf cf) lo i2 j2 d2 = partLoop (ltf cf) lo (i + 1) (j - 1) (swp (swp d lo pv) i j)) (fun ⟨i2, j2, d2⟩ => j2 + 1 - i2) ((i + 1, j - 1, swp (swp d lo pv) i j)) ⟨by omega, by omega, by omega, rfl⟩ ⟨rfl, rfl, trivial⟩ ⟨rfl, trivial⟩ (fun y hI => ?_)
        obtain ⟨i2, j2, d2⟩ := y
        obtain ⟨u1, u2, u3, hI⟩ := hI
        replace u1 : lo < i2 := u1
        replace u2 : i2 ≤ n := u2
        replace u3 : j2 < n := u3
        replace hI : partLoop (ltf cf) lo i2 j2 d2 = partLoop (ltf cf) lo (i + 1) (j - 1) (swp (swp d lo pv) i j) := hI
        refine TC.sub (env' := [(12, _), (13, _), (0, _), (1, _), (4, _), (10, _), (11, _)]) (L' := [(0, _)]) ⟨rfl, rfl, rfl, rfl, rfl, rfl, rfl, trivial⟩ ⟨rfl, trivial⟩ ?_
        refine TC.block ?_
        refine TC.seq ?_
        refine TC.block ?_
        refine TC.loopK (X := Nat) [0, 1, 4, 10, 11, 13] [] (fun i3 => [(12, .int .i64 ((i3 : Nat) : Int))]) (fun i3 => [(0, rw9 b off n (d2))]) (fun i3 => i2 ≤ i3 ∧ i3 ≤ n ∧ scanUp (fun x => ltf cf x (d2)[lo]!) (d2) (j2) (i3) = scanUp (fun x => ltf cf x (d2)[lo]!) (d2) (j2) (i2)) (fun i3 => j2 + 1 - i3) (i2) ⟨by omega, by omega, rfl⟩ ⟨rfl, trivial⟩ ⟨rfl, trivial⟩ (fun i3 hI => ?_)
        obtain ⟨g3a, g3b, g3⟩ := hI
        refine TC.sub (env' := [(12, _), (0, _), (1, _), (4, _), (10, _), (11, _), (13, _)]) (L' := [(0, _)]) ⟨rfl, rfl, rfl, rfl, rfl, rfl, rfl, trivial⟩ ⟨rfl, trivial⟩ ?_
        refine TC.seq ?_
        refine TC.seq ?_
        refine TC.draw [(0, true), (1, true), (2, true), (3, true), (4, true), (5, true), (6, true), (7, true), (8, true), (9, true), (10, true), (11, true), (12, true), (13, false), (14, true), (15, true)] [0] fc_m (by kernel_rfl) ?_
        refine TL.mv (.int _ _) rfl rfl rfl ?_
        refine TL.mv (.int _ _) rfl rfl rfl ?_
        refine TL.leq rfl rfl rfl rfl (fun q4 => ?_) (fun q4 => ?_)
        · skip
          refine TL.mv (.bool true) rfl rfl rfl ?_
          refine TL.mv _ rfl rfl rfl ?_
          refine TL.mv (.slice _ _ _) rfl rfl rfl ?_
          refine TL.mv (.int _ _) rfl rfl rfl ?_
          refine TL.iaO rfl ha rfl fc_l22_29_9 (by omega) rfl rfl ?_
          refine TL.ldR 0 rfl rfl rowW_of (by omega) fc_a29_9 rfl rfl ?_
          refine TL.mv (.slice _ _ _) rfl rfl rfl ?_
          refine TL.mv (.int _ _) rfl rfl rfl ?_
          refine TL.iaO rfl ha rfl fc_l22_29_9 (by omega) rfl rfl ?_
          refine TL.ldR 0 rfl rfl rowW_of (by omega) fc_a29_9 rfl rfl ?_
          refine TL.callC (c1 := []) (c2 := []) (vs := [_, _]) [] [] rfl (hcmp _ _) ⟨rfl, rfl, trivial⟩ trivial hcb rfl rfl rfl rfl rfl (.cons rfl rfl trivial) ?_
          refine TL.lss rfl rfl rfl rfl (fun q5 => ?_) (fun q5 => ?_)
          · skip
            refine TL.pickT (.bool true) rfl rfl rfl rfl ?_
            refine TL.done ?_
            refine TQ.then ?_
            refine TC.condT rfl ?_
            refine TC.skip ?_
            refine TQ.then ?_
            refine TC.block ?_
            refine TC.region ?_
            refine TL.mv (.int _ _) rfl rfl rfl ?_
            refine TL.add (((i3 + 1 : Nat) : Int)) rfl rfl (wrN (by omega)) rfl rfl ?_
            refine TL.asg (.int _ _) rfl rfl rfl ?_
            refine TL.done ?_
            refine TQ.inBlock ?_
            refine TQ.roundK (i3 + 1) ⟨⟨by omega, by omega, (scanUp_go (p := (fun x => ltf cf x (d2)[lo]!)) (d := d2) (by omega) (ltT (by assumption))).trans g3⟩, by omega⟩ ⟨rfl, trivial⟩ ⟨rfl, trivial⟩ (.cons rfl rfl (.cons rfl rfl (.cons rfl rfl (.cons rfl rfl (.cons rfl rfl (.cons rfl rfl trivial)))))) trivial
          · skip
            refine TL.pickT (.bool false) rfl rfl rfl rfl ?_
            refine TL.done ?_
            refine TQ.then ?_
            refine TC.condF rfl ?_
            refine TC.exit ?_
            refine TQ.thenExit ?_
            refine TQ.thenExit ?_
            refine TQ.blockHere ?_
            refine TQ.then ?_
            refine TC.seq ?_
            refine TC.block ?_
            refine TC.loopK (X := Nat) [0, 1, 4, 10, 11, 12] [] (fun j3 => [(13, .int .i64 ((j3 : Nat) : Int))]) (fun j3 => [(0, rw9 b off n (d2))]) (fun j3 => j3 ≤ j2 ∧ scanDown (fun x => !ltf cf x (d2)[lo]!) (d2) (i3) (j3) = scanDown (fun x => !ltf cf x (d2)[lo]!) (d2) (i3) (j2)) (fun j3 => j3) (j2) ⟨by omega, rfl⟩ ⟨rfl, trivial⟩ ⟨rfl, trivial⟩ (fun j3 hI => ?_)
            obtain ⟨g4a, g4⟩ := hI
            refine TC.sub (env' := [(13, _), (0, _), (1, _), (4, _), (10, _), (11, _), (12, _)]) (L' := [(0, _)]) ⟨rfl, rfl, rfl, rfl, rfl, rfl, rfl, trivial⟩ ⟨rfl, trivial⟩ ?_
            refine TC.seq ?_
            refine TC.seq ?_
            refine TC.draw [(0, true), (1, true), (2, true), (3, true), (4, true), (5, true), (6, true), (7, true), (8, true), (9, true), (10, true), (11, true), (12, true), (13, false), (14, true), (15, true), (16, true)] [0] fc_m (by kernel_rfl) ?_
            refine TL.mv (.int _ _) rfl rfl rfl ?_
            refine TL.mv (.int _ _) rfl rfl rfl ?_
            refine TL.leq rfl rfl rfl rfl (fun q6 => ?_) (fun q6 => ?_)
            · skip
              refine TL.mv (.bool true) rfl rfl rfl ?_
              refine TL.mv _ rfl rfl rfl ?_
              refine TL.mv (.slice _ _ _) rfl rfl rfl ?_
              refine TL.mv (.int _ _) rfl rfl rfl ?_
              refine TL.iaO rfl ha rfl fc_l22_29_9 (by omega) rfl rfl ?_
              refine TL.ldR 0 rfl rfl rowW_of (by omega) fc_a29_9 rfl rfl ?_
              refine TL.mv (.slice _ _ _) rfl rfl rfl ?_
              refine TL.mv (.int _ _) rfl rfl rfl ?_
              refine TL.iaO rfl ha rfl fc_l22_29_9 (by omega) rfl rfl ?_
              refine TL.ldR 0 rfl rfl rowW_of (by omega) fc_a29_9 rfl rfl ?_
              refine TL.callC (c1 := []) (c2 := []) (vs := [_, _]) [] [] rfl (hcmp _ _) ⟨rfl, rfl, trivial⟩ trivial hcb rfl rfl rfl rfl rfl (.cons rfl rfl trivial) ?_
              refine TL.lss rfl rfl rfl rfl (fun q7 => ?_) (fun q7 => ?_)
              · skip
                refine TL.not true false rfl rfl rfl rfl ?_
                refine TL.pickT (.bool false) rfl rfl rfl rfl ?_
                refine TL.done ?_
                refine TQ.then ?_
                refine TC.condF rfl ?_
                refine TC.exit ?_
                refine TQ.thenExit ?_
                refine TQ.thenExit ?_
                refine TQ.blockHere ?_
                refine TQ.then ?_
                refine TC.seq ?_
                refine TC.seq ?_
                refine TC.region ?_
                refine TL.mv (.int _ _) rfl rfl rfl ?_
                refine TL.mv (.int _ _) rfl rfl rfl ?_
                refine TL.gtr rfl rfl rfl rfl (fun q8 => ?_) (fun q8 => ?_)
                · skip
                  refine TL.done ?_
                  refine TQ.then ?_
                  refine TC.condT rfl ?_
                  refine TC.exit ?_
                  refine TQ.thenExit ?_
                  refine TQ.blockOut rfl ?_
                  refine TQ.thenExit ?_
                  refine TQ.blockHere ?_
                  refine TQ.then ?_
                  refine TC.seq ?_
                  refine TC.draw2 [(0, true), (1, true), (2, true), (3, true), (4, true), (5, true), (6, true), (7, true), (8, true), (9, true), (10, true), (11, true), (12, true)] 13 [(14, true), (15, false)] [0] fc_m (by kernel_rfl) ?_
                  refine TL.mv (.slice _ _ _) rfl rfl rfl ?_
                  refine TL.mv (.int _ _) rfl rfl rfl ?_
                  refine TL.mv (.slice _ _ _) rfl rfl rfl ?_
                  refine TL.mv (.int _ _) rfl rfl rfl ?_
                  refine TL.mv (.slice _ _ _) rfl rfl rfl ?_
                  refine TL.mv (.int _ _) rfl rfl rfl ?_
                  refine TL.iaO rfl ha rfl fc_l22_29_9 (by omega) rfl rfl ?_
                  refine TL.ldR 0 rfl rfl rowW_of (by omega) fc_a29_9 rfl rfl ?_
                  refine TL.mv (.slice _ _ _) rfl rfl rfl ?_
                  refine TL.mv (.int _ _) rfl rfl rfl ?_
                  refine TL.iaO rfl ha rfl fc_l22_29_9 (by omega) rfl rfl ?_
                  refine TL.ldR 0 rfl rfl rowW_of (by omega) fc_a29_9 rfl rfl ?_
                  refine TL.iaO rfl ha rfl fc_l22_29_9 (by omega) rfl rfl ?_
                  refine TL.late ?_
                  refine TL.stR 0 rfl rfl rfl encA_ok (by omega) fc_a29_9 rfl rfl trivial ?_
                  refine TL.iaO rfl ha rfl fc_l22_29_9 (by omega) rfl rfl ?_
                  refine TL.stR 0 rfl rfl rfl encA_ok (by omega) fc_a29_9 rfl rfl trivial ?_
                  refine TL.done ?_
                  refine TQ.then ?_
                  refine TC.seq ?_
                  refine TC.region ?_
                  refine TL.mv (.int _ _) rfl rfl rfl ?_
                  refine TL.asg (.int _ _) rfl rfl rfl ?_
                  refine TL.asg (.bool false) rfl rfl rfl ?_
                  refine TL.done ?_
                  refine TQ.then ?_
                  refine TC.ret ?_
                  refine FQ.ret2 (v := (.int _ _)) (x := (.bool false)) (Bs := [_]) [0] rfl rfl rfl rfl ⟨rfl, trivial⟩ ?_
                  first | (have e3 := ploop_end hI (g3.symm.trans (scanUp_stop (by first | exact .inl (by omega) | exact .inr (ltF (by assumption))))) (g4.symm.trans (scanDown_stop (by first | exact .inl (by omega) | exact .inr (nT (by assumption))))) (by omega); have e := part_F (g1.symm.trans (scanUp_stop (by first | exact .inl (by omega) | exact .inr (ltF (by assumption))))) (g2.symm.trans (scanDown_stop (by first | exact .inl (by omega) | exact .inr (nT (by assumption))))) (by omega) e3; exact ⟨by rw [e] <;> rfl, by rw [e] <;> rfl⟩) | (have e := part_T (g1.symm.trans (scanUp_stop (by first | exact .inl (by omega) | exact .inr (ltF (by assumption))))) (g2.symm.trans (scanDown_stop (by first | exact .inl (by omega) | exact .inr (nT (by assumption))))) (by omega); exact ⟨by rw [e] <;> rfl, by rw [e] <;> rfl⟩)
                · skip
                  refine TL.done ?_
                  refine TQ.then ?_
                  refine TC.condF rfl ?_
                  refine TC.skip ?_
                  refine TQ.then ?_
                  refine TC.seq ?_
                  refine TC.draw2 [(0, true), (1, true), (2, true), (3, true), (4, true), (5, true), (6, true), (7, true), (8, true), (9, true), (10, true), (11, true), (12, true)] 13 [(14, true), (15, false)] [0] fc_m (by kernel_rfl) ?_
                  refine TL.mv (.slice _ _ _) rfl rfl rfl ?_
                  refine TL.mv (.int _ _) rfl rfl rfl ?_
                  refine TL.mv (.slice _ _ _) rfl rfl rfl ?_
                  refine TL.mv (.int _ _) rfl rfl rfl ?_
                  refine TL.mv (.slice _ _ _) rfl rfl rfl ?_
                  refine TL.mv (.int _ _) rfl rfl rfl ?_
                  refine TL.iaO rfl ha rfl fc_l22_29_9 (by omega) rfl rfl ?_
                  refine TL.ldR 0 rfl rfl rowW_of (by omega) fc_a29_9 rfl rfl ?_
                  refine TL.mv (.slice _ _ _) rfl rfl rfl ?_
                  refine TL.mv (.int _ _) rfl rfl rfl ?_
                  refine TL.iaO rfl ha rfl fc_l22_29_9 (by omega) rfl rfl ?_
                  refine TL.ldR 0 rfl rfl rowW_of (by omega) fc_a29_9 rfl rfl ?_
                  refine TL.iaO rfl ha rfl fc_l22_29_9 (by omega) rfl rfl ?_
                  refine TL.late ?_
                  refine TL.stR 0 rfl rfl rfl encA_ok (by omega) fc_a29_9 rfl rfl trivial ?_
                  refine TL.iaO rfl ha rfl fc_l22_29_9 (by omega) rfl rfl ?_
                  refine TL.stR 0 rfl rfl rfl encA_ok (by omega) fc_a29_9 rfl rfl trivial ?_
                  refine TL.done ?_
                  refine TQ.then ?_
                  refine TC.seq ?_
                  refine TC.region ?_
                  refine TL.mv (.int _ _) rfl rfl rfl ?_
                  refine TL.add (((i3 + 1 : Nat) : Int)) rfl rfl (wrN (by omega)) rfl rfl ?_
                  refine TL.asg (.int _ _) rfl rfl rfl ?_
                  refine TL.done ?_
                  refine TQ.then ?_
                  refine TC.region ?_
                  refine TL.mv (.int _ _) rfl rfl rfl ?_
                  refine TL.sub (((j3 - 1 : Nat) : Int)) rfl rfl (wrN (by omega)) rfl rfl ?_
                  refine TL.asg (.int _ _) rfl rfl rfl ?_
                  refine TL.done ?_
                  refine TQ.inBlock ?_
                  refine TQ.roundK ((i3 + 1, j3 - 1, swp d2 i3 j3)) ⟨⟨by omega, by omega, by omega, ploop_go hI (g3.symm.trans (scanUp_stop (by first | exact .inl (by omega) | exact .inr (ltF (by assumption))))) (g4.symm.trans (scanDown_stop (by first | exact .inl (by omega) | exact .inr (nT (by assumption))))) (by omega) (by omega) (by omega)⟩, by show j3 - 1 + 1 - (i3 + 1) < j2 + 1 - i2; omega⟩ ⟨rfl, rfl, trivial⟩ ⟨rfl, trivial⟩ (.cons rfl rfl (.cons rfl rfl (.cons rfl rfl (.cons rfl rfl (.cons rfl rfl trivial))))) trivial
              · skip
                refine TL.not false true rfl rfl rfl rfl ?_
                refine TL.pickT (.bool true) rfl rfl rfl rfl ?_
                refine TL.done ?_
                refine TQ.then ?_
                refine TC.condT rfl ?_
                refine TC.skip ?_
                refine TQ.then ?_
                refine TC.block ?_
                refine TC.region ?_
                refine TL.mv (.int _ _) rfl rfl rfl ?_
                refine TL.sub (((j3 - 1 : Nat) : Int)) rfl rfl (wrN (by omega)) rfl rfl ?_
                refine TL.asg (.int _ _) rfl rfl rfl ?_
                refine TL.done ?_
                refine TQ.inBlock ?_
                refine TQ.roundK (j3 - 1) ⟨⟨by omega, (scanDown_go (p := (fun x => !ltf cf x (d2)[lo]!)) (d := d2) (by omega) (by omega) (nF (by assumption))).trans g4⟩, by omega⟩ ⟨rfl, trivial⟩ ⟨rfl, trivial⟩ (.cons rfl rfl (.cons rfl rfl (.cons rfl rfl (.cons rfl rfl (.cons rfl rfl (.cons rfl rfl trivial)))))) trivial
            · skip
              refine TL.mv (.bool false) rfl rfl rfl ?_
              refine TL.off rfl rfl ?_
              refine TL.off rfl rfl ?_
              refine TL.off rfl rfl ?_
              refine TL.off rfl rfl ?_
              refine TL.off rfl rfl ?_
              refine TL.off rfl rfl ?_
              refine TL.off rfl rfl ?_
              refine TL.off rfl rfl ?_
              refine TL.off rfl rfl ?_
              refine TL.off rfl rfl ?_
              refine TL.off rfl rfl ?_
              refine TL.off rfl rfl ?_
              refine TL.pickF (.bool false) rfl rfl rfl rfl ?_
              refine TL.done ?_
              refine TQ.then ?_
              refine TC.condF rfl ?_
              refine TC.exit ?_
              refine TQ.thenExit ?_
              refine TQ.thenExit ?_
              refine TQ.blockHere ?_
              refine TQ.then ?_
              refine TC.seq ?_
              refine TC.seq ?_
              refine TC.region ?_
              refine TL.mv (.int _ _) rfl rfl rfl ?_
              refine TL.mv (.int _ _) rfl rfl rfl ?_
              refine TL.gtr rfl rfl rfl rfl (fun q7 => ?_) (fun q7 => ?_)
              · skip
                refine TL.done ?_
                refine TQ.then ?_
                refine TC.condT rfl ?_
                refine TC.exit ?_
                refine TQ.thenExit ?_
                refine TQ.blockOut rfl ?_
                refine TQ.thenExit ?_
                refine TQ.blockHere ?_
                refine TQ.then ?_
                refine TC.seq ?_
                refine TC.draw2 [(0, true), (1, true), (2, true), (3, true), (4, true), (5, true), (6, true), (7, true), (8, true), (9, true), (10, true), (11, true), (12, true)] 13 [(14, true), (15, false)] [0] fc_m (by kernel_rfl) ?_
                refine TL.mv (.slice _ _ _) rfl rfl rfl ?_
                refine TL.mv (.int _ _) rfl rfl rfl ?_
                refine TL.mv (.slice _ _ _) rfl rfl rfl ?_
                refine TL.mv (.int _ _) rfl rfl rfl ?_
                refine TL.mv (.slice _ _ _) rfl rfl rfl ?_
                refine TL.mv (.int _ _) rfl rfl rfl ?_
                refine TL.iaO rfl ha rfl fc_l22_29_9 (by omega) rfl rfl ?_
                refine TL.ldR 0 rfl rfl rowW_of (by omega) fc_a29_9 rfl rfl ?_
                refine TL.mv (.slice _ _ _) rfl rfl rfl ?_
                refine TL.mv (.int _ _) rfl rfl rfl ?_
                refine TL.iaO rfl ha rfl fc_l22_29_9 (by omega) rfl rfl ?_
                refine TL.ldR 0 rfl rfl rowW_of (by omega) fc_a29_9 rfl rfl ?_
                refine TL.iaO rfl ha rfl fc_l22_29_9 (by omega) rfl rfl ?_
                refine TL.late ?_
                refine TL.stR 0 rfl rfl rfl encA_ok (by omega) fc_a29_9 rfl rfl trivial ?_
                refine TL.iaO rfl ha rfl fc_l22_29_9 (by omega) rfl rfl ?_
                refine TL.stR 0 rfl rfl rfl encA_ok (by omega) fc_a29_9 rfl rfl trivial ?_
                refine TL.done ?_
                refine TQ.then ?_
                refine TC.seq ?_
                refine TC.region ?_
                refine TL.mv (.int _ _) rfl rfl rfl ?_
                refine TL.asg (.int _ _) rfl rfl rfl ?_
                refine TL.asg (.bool false) rfl rfl rfl ?_
                refine TL.done ?_
                refine TQ.then ?_
                refine TC.ret ?_
                refine FQ.ret2 (v := (.int _ _)) (x := (.bool false)) (Bs := [_]) [0] rfl rfl rfl rfl ⟨rfl, trivial⟩ ?_
                first | (have e3 := ploop_end hI (g3.symm.trans (scanUp_stop (by first | exact .inl (by omega) | exact .inr (ltF (by assumption))))) (g4.symm.trans (scanDown_stop (by first | exact .inl (by omega) | exact .inr (nT (by assumption))))) (by omega); have e := part_F (g1.symm.trans (scanUp_stop (by first | exact .inl (by omega) | exact .inr (ltF (by assumption))))) (g2.symm.trans (scanDown_stop (by first | exact .inl (by omega) | exact .inr (nT (by assumption))))) (by omega) e3; exact ⟨by rw [e] <;> rfl, by rw [e] <;> rfl⟩) | (have e := part_T (g1.symm.trans (scanUp_stop (by first | exact .inl (by omega) | exact .inr (ltF (by assumption))))) (g2.symm.trans (scanDown_stop (by first | exact .inl (by omega) | exact .inr (nT (by assumption))))) (by omega); exact ⟨by rw [e] <;> rfl, by rw [e] <;> rfl⟩)
              · skip
                refine TL.done ?_
                refine TQ.then ?_
                refine TC.condF rfl ?_
                refine TC.skip ?_
                refine TQ.then ?_
                refine TC.seq ?_
                refine TC.draw2 [(0, true), (1, true), (2, true), (3, true), (4, true), (5, true), (6, true), (7, true), (8, true), (9, true), (10, true), (11, true), (12, true)] 13 [(14, true), (15, false)] [0] fc_m (by kernel_rfl) ?_
                refine TL.mv (.slice _ _ _) rfl rfl rfl ?_
                refine TL.mv (.int _ _) rfl rfl rfl ?_
                refine TL.mv (.slice _ _ _) rfl rfl rfl ?_
                refine TL.mv (.int _ _) rfl rfl rfl ?_
                refine TL.mv (.slice _ _ _) rfl rfl rfl ?_
                refine TL.mv (.int _ _) rfl rfl rfl ?_
                refine TL.iaO rfl ha rfl fc_l22_29_9 (by omega) rfl rfl ?_
                refine TL.ldR 0 rfl rfl rowW_of (by omega) fc_a29_9 rfl rfl ?_
                refine TL.mv (.slice _ _ _) rfl rfl rfl ?_
                refine TL.mv (.int _ _) rfl rfl rfl ?_
                refine TL.iaO rfl ha rfl fc_l22_29_9 (by omega) rfl rfl ?_
                refine TL.ldR 0 rfl rfl rowW_of (by omega) fc_a29_9 rfl rfl ?_
                refine TL.iaO rfl ha rfl fc_l22_29_9 (by omega) rfl rfl ?_
                refine TL.late ?_
                refine TL.stR 0 rfl rfl rfl encA_ok (by omega) fc_a29_9 rfl rfl trivial ?_
                refine TL.iaO rfl ha rfl fc_l22_29_9 (by omega) rfl rfl ?_
                refine TL.stR 0 rfl rfl rfl encA_ok (by omega) fc_a29_9 rfl rfl trivial ?_
                refine TL.done ?_
                refine TQ.then ?_
                refine TC.seq ?_
                refine TC.region ?_
                refine TL.mv (.int _ _) rfl rfl rfl ?_
                refine TL.add (((i3 + 1 : Nat) : Int)) rfl rfl (wrN (by omega)) rfl rfl ?_
                refine TL.asg (.int _ _) rfl rfl rfl ?_
                refine TL.done ?_
                refine TQ.then ?_
                refine TC.region ?_
                refine TL.mv (.int _ _) rfl rfl rfl ?_
                refine TL.sub (((j3 - 1 : Nat) : Int)) rfl rfl (wrN (by omega)) rfl rfl ?_
                refine TL.asg (.int _ _) rfl rfl rfl ?_
                refine TL.done ?_
                refine TQ.inBlock ?_
                refine TQ.roundK ((i3 + 1, j3 - 1, swp d2 i3 j3)) ⟨⟨by omega, by omega, by omega, ploop_go hI (g3.symm.trans (scanUp_stop (by first | exact .inl (by omega) | exact .inr (ltF (by assumption))))) (g4.symm.trans (scanDown_stop (by first | exact .inl (by omega) | exact .inr (nT (by assumption))))) (by omega) (by omega) (by omega)⟩, by show j3 - 1 + 1 - (i3 + 1) < j2 + 1 - i2; omega⟩ ⟨rfl, rfl, trivial⟩ ⟨rfl, trivial⟩ (.cons rfl rfl (.cons rfl rfl (.cons rfl rfl (.cons rfl rfl (.cons rfl rfl trivial))))) trivial
        · skip
          refine TL.mv (.bool false) rfl rfl rfl ?_
          refine TL.off rfl rfl ?_
          refine TL.off rfl rfl ?_
          refine TL.off rfl rfl ?_
          refine TL.off rfl rfl ?_
          refine TL.off rfl rfl ?_
          refine TL.off rfl rfl ?_
          refine TL.off rfl rfl ?_
          refine TL.off rfl rfl ?_
          refine TL.off rfl rfl ?_
          refine TL.off rfl rfl ?_
          refine TL.off rfl rfl ?_
          refine TL.pickF (.bool false) rfl rfl rfl rfl ?_
          refine TL.done ?_
          refine TQ.then ?_
          refine TC.condF rfl ?_
          refine TC.exit ?_
          refine TQ.thenExit ?_
          refine TQ.thenExit ?_
          refine TQ.blockHere ?_
          refine TQ.then ?_
          refine TC.seq ?_
          refine TC.block ?_
          refine TC.loopK (X := Nat) [0, 1, 4, 10, 11, 12] [] (fun j3 => [(13, .int .i64 ((j3 : Nat) : Int))]) (fun j3 => [(0, rw9 b off n (d2))]) (fun j3 => j3 ≤ j2 ∧ scanDown (fun x => !ltf cf x (d2)[lo]!) (d2) (i3) (j3) = scanDown (fun x => !ltf cf x (d2)[lo]!) (d2) (i3) (j2)) (fun j3 => j3) (j2) ⟨by omega, rfl⟩ ⟨rfl, trivial⟩ ⟨rfl, trivial⟩ (fun j3 hI => ?_)
          obtain ⟨g4a, g4⟩ := hI
          refine TC.sub (env' := [(13, _), (0, _), (1, _), (4, _), (10, _), (11, _), (12, _)]) (L' := [(0, _)]) ⟨rfl, rfl, rfl, rfl, rfl, rfl, rfl, trivial⟩ ⟨rfl, trivial⟩ ?_
          refine TC.seq ?_
          refine TC.seq ?_
          refine TC.draw [(0, true), (1, true), (2, true), (3, true), (4, true), (5, true), (6, true), (7, true), (8, true), (9, true), (10, true), (11, true), (12, true), (13, false), (14, true), (15, true), (16, true)] [0] fc_m (by kernel_rfl) ?_
          refine TL.mv (.int _ _) rfl rfl rfl ?_
          refine TL.mv (.int _ _) rfl rfl rfl ?_
          refine TL.leq rfl rfl rfl rfl (fun q5 => ?_) (fun q5 => ?_)
          · skip
            refine TL.mv (.bool true) rfl rfl rfl ?_
            refine TL.mv _ rfl rfl rfl ?_
            refine TL.mv (.slice _ _ _) rfl rfl rfl ?_
            refine TL.mv (.int _ _) rfl rfl rfl ?_
            refine TL.iaO rfl ha rfl fc_l22_29_9 (by omega) rfl rfl ?_
            refine TL.ldR 0 rfl rfl rowW_of (by omega) fc_a29_9 rfl rfl ?_
            refine TL.mv (.slice _ _ _) rfl rfl rfl ?_
            refine TL.mv (.int _ _) rfl rfl rfl ?_
            refine TL.iaO rfl ha rfl fc_l22_29_9 (by omega) rfl rfl ?_
            refine TL.ldR 0 rfl rfl rowW_of (by omega) fc_a29_9 rfl rfl ?_
            refine TL.callC (c1 := []) (c2 := []) (vs := [_, _]) [] [] rfl (hcmp _ _) ⟨rfl, rfl, trivial⟩ trivial hcb rfl rfl rfl rfl rfl (.cons rfl rfl trivial) ?_
            refine TL.lss rfl rfl rfl rfl (fun q6 => ?_) (fun q6 => ?_)
            · skip
              refine TL.not true false rfl rfl rfl rfl ?_
              refine TL.pickT (.bool false) rfl rfl rfl rfl ?_
              refine TL.done ?_
              refine TQ.then ?_
              refine TC.condF rfl ?_
              refine TC.exit ?_
              refine TQ.thenExit ?_
              refine TQ.thenExit ?_
              refine TQ.blockHere ?_
              refine TQ.then ?_
              refine TC.seq ?_
              refine TC.seq ?_
              refine TC.region ?_
              refine TL.mv (.int _ _) rfl rfl rfl ?_
              refine TL.mv (.int _ _) rfl rfl rfl ?_
              refine TL.gtr rfl rfl rfl rfl (fun q7 => ?_) (fun q7 => ?_)
              · skip
                refine TL.done ?_
                refine TQ.then ?_
                refine TC.condT rfl ?_
                refine TC.exit ?_
                refine TQ.thenExit ?_
                refine TQ.blockOut rfl ?_
                refine TQ.thenExit ?_
                refine TQ.blockHere ?_
                refine TQ.then ?_
                refine TC.seq ?_
                refine TC.draw2 [(0, true), (1, true), (2, true), (3, true), (4, true), (5, true), (6, true), (7, true), (8, true), (9, true), (10, true), (11, true), (12, true)] 13 [(14, true), (15, false)] [0] fc_m (by kernel_rfl) ?_
                refine TL.mv (.slice _ _ _) rfl rfl rfl ?_
                refine TL.mv (.int _ _) rfl rfl rfl ?_
                refine TL.mv (.slice _ _ _) rfl rfl rfl ?_
                refine TL.mv (.int _ _) rfl rfl rfl ?_
                refine TL.mv (.slice _ _ _) rfl rfl rfl ?_
                refine TL.mv (.int _ _) rfl rfl rfl ?_
                refine TL.iaO rfl ha rfl fc_l22_29_9 (by omega) rfl rfl ?_
                refine TL.ldR 0 rfl rfl rowW_of (by omega) fc_a29_9 rfl rfl ?_
                refine TL.mv (.slice _ _ _) rfl rfl rfl ?_
                refine TL.mv (.int _ _) rfl rfl rfl ?_
                refine TL.iaO rfl ha rfl fc_l22_29_9 (by omega) rfl rfl ?_
                refine TL.ldR 0 rfl rfl rowW_of (by omega) fc_a29_9 rfl rfl ?_
                refine TL.iaO rfl ha rfl fc_l22_29_9 (by omega) rfl rfl ?_
                refine TL.late ?_
                refine TL.stR 0 rfl rfl rfl encA_ok (by omega) fc_a29_9 rfl rfl trivial ?_
                refine TL.iaO rfl ha rfl fc_l22_29_9 (by omega) rfl rfl ?_
                refine TL.stR 0 rfl rfl rfl encA_ok (by omega) fc_a29_9 rfl rfl trivial ?_
                refine TL.done ?_
                refine TQ.then ?_
                refine TC.seq ?_
                refine TC.region ?_
                refine TL.mv (.int _ _) rfl rfl rfl ?_
                refine TL.asg (.int _ _) rfl rfl rfl ?_
                refine TL.asg (.bool false) rfl rfl rfl ?_
                refine TL.done ?_
                refine TQ.then ?_
                refine TC.ret ?_
                refine FQ.ret2 (v := (.int _ _)) (x := (.bool false)) (Bs := [_]) [0] rfl rfl rfl rfl ⟨rfl, trivial⟩ ?_
                first | (have e3 := ploop_end hI (g3.symm.trans (scanUp_stop (by first | exact .inl (by omega) | exact .inr (ltF (by assumption))))) (g4.symm.trans (scanDown_stop (by first | exact .inl (by omega) | exact .inr (nT (by assumption))))) (by omega); have e := part_F (g1.symm.trans (scanUp_stop (by first | exact .inl (by omega) | exact .inr (ltF (by assumption))))) (g2.symm.trans (scanDown_stop (by first | exact .inl (by omega) | exact .inr (nT (by assumption))))) (by omega) e3; exact ⟨by rw [e] <;> rfl, by rw [e] <;> rfl⟩) | (have e := part_T (g1.symm.trans (scanUp_stop (by first | exact .inl (by omega) | exact .inr (ltF (by assumption))))) (g2.symm.trans (scanDown_stop (by first | exact .inl (by omega) | exact .inr (nT (by assumption))))) (by omega); exact ⟨by rw [e] <;> rfl, by rw [e] <;> rfl⟩)
              · skip
                refine TL.done ?_
                refine TQ.then ?_
                refine TC.condF rfl ?_
                refine TC.skip ?_
                refine TQ.then ?_
                refine TC.seq ?_
                refine TC.draw2 [(0, true), (1, true), (2, true), (3, true), (4, true), (5, true), (6, true), (7, true), (8, true), (9, true), (10, true), (11, true), (12, true)] 13 [(14, true), (15, false)] [0] fc_m (by kernel_rfl) ?_
                refine TL.mv (.slice _ _ _) rfl rfl rfl ?_
                refine TL.mv (.int _ _) rfl rfl rfl ?_
                refine TL.mv (.slice _ _ _) rfl rfl rfl ?_
                refine TL.mv (.int _ _) rfl rfl rfl ?_
                refine TL.mv (.slice _ _ _) rfl rfl rfl ?_
                refine TL.mv (.int _ _) rfl rfl rfl ?_
                refine TL.iaO rfl ha rfl fc_l22_29_9 (by omega) rfl rfl ?_
                refine TL.ldR 0 rfl rfl rowW_of (by omega) fc_a29_9 rfl rfl ?_
                refine TL.mv (.slice _ _ _) rfl rfl rfl ?_
                refine TL.mv (.int _ _) rfl rfl rfl ?_
                refine TL.iaO rfl ha rfl fc_l22_29_9 (by omega) rfl rfl ?_
                refine TL.ldR 0 rfl rfl rowW_of (by omega) fc_a29_9 rfl rfl ?_
                refine TL.iaO rfl ha rfl fc_l22_29_9 (by omega) rfl rfl ?_
                refine TL.late ?_
                refine TL.stR 0 rfl rfl rfl encA_ok (by omega) fc_a29_9 rfl rfl trivial ?_
                refine TL.iaO rfl ha rfl fc_l22_29_9 (by omega) rfl rfl ?_
                refine TL.stR 0 rfl rfl rfl encA_ok (by omega) fc_a29_9 rfl rfl trivial ?_
                refine TL.done ?_
                refine TQ.then ?_
                refine TC.seq ?_
                refine TC.region ?_
                refine TL.mv (.int _ _) rfl rfl rfl ?_
                refine TL.add (((i3 + 1 : Nat) : Int)) rfl rfl (wrN (by omega)) rfl rfl ?_
                refine TL.asg (.int _ _) rfl rfl rfl ?_
                refine TL.done ?_
                refine TQ.then ?_
                refine TC.region ?_
                refine TL.mv (.int _ _) rfl rfl rfl ?_
                refine TL.sub (((j3 - 1 : Nat) : Int)) rfl rfl (wrN (by omega)) rfl rfl ?_
                refine TL.asg (.int _ _) rfl rfl rfl ?_
                refine TL.done ?_
                refine TQ.inBlock ?_
                refine TQ.roundK ((i3 + 1, j3 - 1, swp d2 i3 j3)) ⟨⟨by omega, by omega, by omega, ploop_go hI (g3.symm.trans (scanUp_stop (by first | exact .inl (by omega) | exact .inr (ltF (by assumption))))) (g4.symm.trans (scanDown_stop (by first | exact .inl (by omega) | exact .inr (nT (by assumption))))) (by omega) (by omega) (by omega)⟩, by show j3 - 1 + 1 - (i3 + 1) < j2 + 1 - i2; omega⟩ ⟨rfl, rfl, trivial⟩ ⟨rfl, trivial⟩ (.cons rfl rfl (.cons rfl rfl (.cons rfl rfl (.cons rfl rfl (.cons rfl rfl trivial))))) trivial
            · skip
              refine TL.not false true rfl rfl rfl rfl ?_
              refine TL.pickT (.bool true) rfl rfl rfl rfl ?_
              refine TL.done ?_
              refine TQ.then ?_
              refine TC.condT rfl ?_
              refine TC.skip ?_
              refine TQ.then ?_
              refine TC.block ?_
              refine TC.region ?_
              refine TL.mv (.int _ _) rfl rfl rfl ?_
              refine TL.sub (((j3 - 1 : Nat) : Int)) rfl rfl (wrN (by omega)) rfl rfl ?_
              refine TL.asg (.int _ _) rfl rfl rfl ?_
              refine TL.done ?_
              refine TQ.inBlock ?_
              refine TQ.roundK (j3 - 1) ⟨⟨by omega, (scanDown_go (p := (fun x => !ltf cf x (d2)[lo]!)) (d := d2) (by omega) (by omega) (nF (by assumption))).trans g4⟩, by omega⟩ ⟨rfl, trivial⟩ ⟨rfl, trivial⟩ (.cons rfl rfl (.cons rfl rfl (.cons rfl rfl (.cons rfl rfl (.cons rfl rfl (.cons rfl rfl trivial)))))) trivial
          · skip
            refine TL.mv (.bool false) rfl rfl rfl ?_
            refine TL.off rfl rfl ?_
            refine TL.off rfl rfl ?_
            refine TL.off rfl rfl ?_
            refine TL.off rfl rfl ?_
            refine TL.off rfl rfl ?_
            refine TL.off rfl rfl ?_
            refine TL.off rfl rfl ?_
            refine TL.off rfl rfl ?_
            refine TL.off rfl rfl ?_
            refine TL.off rfl rfl ?_
            refine TL.off rfl rfl ?_
            refine TL.off rfl rfl ?_
            refine TL.pickF (.bool false) rfl rfl rfl rfl ?_
            refine TL.done ?_
            refine TQ.then ?_
            refine TC.condF rfl ?_
            refine TC.exit ?_
            refine TQ.thenExit ?_
            refine TQ.thenExit ?_
            refine TQ.blockHere ?_
            refine TQ.then ?_
            refine TC.seq ?_
            refine TC.seq ?_
            refine TC.region ?_
            refine TL.mv (.int _ _) rfl rfl rfl ?_
            refine TL.mv (.int _ _) rfl rfl rfl ?_
            refine TL.gtr rfl rfl rfl rfl (fun q6 => ?_) (fun q6 => ?_)
            · skip
              refine TL.done ?_
              refine TQ.then ?_
              refine TC.condT rfl ?_
              refine TC.exit ?_
              refine TQ.thenExit ?_
              refine TQ.blockOut rfl ?_
              refine TQ.thenExit ?_
              refine TQ.blockHere ?_
              refine TQ.then ?_
              refine TC.seq ?_
              refine TC.draw2 [(0, true), (1, true), (2, true), (3, true), (4, true), (5, true), (6, true), (7, true), (8, true), (9, true), (10, true), (11, true), (12, true)] 13 [(14, true), (15, false)] [0] fc_m (by kernel_rfl) ?_
              refine TL.mv (.slice _ _ _) rfl rfl rfl ?_
              refine TL.mv (.int _ _) rfl rfl rfl ?_
              refine TL.mv (.slice _ _ _) rfl rfl rfl ?_
              refine TL.mv (.int _ _) rfl rfl rfl ?_
              refine TL.mv (.slice _ _ _) rfl rfl rfl ?_
              refine TL.mv (.int _ _) rfl rfl rfl ?_
              refine TL.iaO rfl ha rfl fc_l22_29_9 (by omega) rfl rfl ?_
              refine TL.ldR 0 rfl rfl rowW_of (by omega) fc_a29_9 rfl rfl ?_
              refine TL.mv (.slice _ _ _) rfl rfl rfl ?_
              refine TL.mv (.int _ _) rfl rfl rfl ?_
              refine TL.iaO rfl ha rfl fc_l22_29_9 (by omega) rfl rfl ?_
              refine TL.ldR 0 rfl rfl rowW_of (by omega) fc_a29_9 rfl rfl ?_
              refine TL.iaO rfl ha rfl fc_l22_29_9 (by omega) rfl rfl ?_
              refine TL.late ?_
              refine TL.stR 0 rfl rfl rfl encA_ok (by omega) fc_a29_9 rfl rfl trivial ?_
              refine TL.iaO rfl ha rfl fc_l22_29_9 (by omega) rfl rfl ?_
              refine TL.stR 0 rfl rfl rfl encA_ok (by omega) fc_a29_9 rfl rfl trivial ?_
              refine TL.done ?_
              refine TQ.then ?_
              refine TC.seq ?_
              refine TC.region ?_
              refine TL.mv (.int _ _) rfl rfl rfl ?_
              refine TL.asg (.int _ _) rfl rfl rfl ?_
              refine TL.asg (.bool false) rfl rfl rfl ?_
              refine TL.done ?_
              refine TQ.then ?_
              refine TC.ret ?_
              refine FQ.ret2 (v := (.int _ _)) (x := (.bool false)) (Bs := [_]) [0] rfl rfl rfl rfl ⟨rfl, trivial⟩ ?_
              first | (have e3 := ploop_end hI (g3.symm.trans (scanUp_stop (by first | exact .inl (by omega) | exact .inr (ltF (by assumption))))) (g4.symm.trans (scanDown_stop (by first | exact .inl (by omega) | exact .inr (nT (by assumption))))) (by omega); have e := part_F (g1.symm.trans (scanUp_stop (by first | exact .inl (by omega) | exact .inr (ltF (by assumption))))) (g2.symm.trans (scanDown_stop (by first | exact .inl (by omega) | exact .inr (nT (by assumption))))) (by omega) e3; exact ⟨by rw [e] <;> rfl, by rw [e] <;> rfl⟩) | (have e := part_T (g1.symm.trans (scanUp_stop (by first | exact .inl (by omega) | exact .inr (ltF (by assumption))))) (g2.symm.trans (scanDown_stop (by first | exact .inl (by omega) | exact .inr (nT (by assumption))))) (by omega); exact ⟨by rw [e] <;> rfl, by rw [e] <;> rfl⟩)
            · skip
              refine TL.done ?_
              refine TQ.then ?_
              refine TC.condF rfl ?_
              refine TC.skip ?_
              refine TQ.then ?_
              refine TC.seq ?_
              refine TC.draw2 [(0, true), (1, true), (2, true), (3, true), (4, true), (5, true), (6, true), (7, true), (8, true), (9, true), (10, true), (11, true), (12, true)] 13 [(14, true), (15, false)] [0] fc_m (by kernel_rfl) ?_
              refine TL.mv (.slice _ _ _) rfl rfl rfl ?_
              refine TL.mv (.int _ _) rfl rfl rfl ?_
              refine TL.mv (.slice _ _ _) rfl rfl rfl ?_
              refine TL.mv (.int _ _) rfl rfl rfl ?_
              refine TL.mv (.slice _ _ _) rfl rfl rfl ?_
              refine TL.mv (.int _ _) rfl rfl rfl ?_
              refine TL.iaO rfl ha rfl fc_l22_29_9 (by omega) rfl rfl ?_
              refine TL.ldR 0 rfl rfl rowW_of (by omega) fc_a29_9 rfl rfl ?_
              refine TL.mv (.slice _ _ _) rfl rfl rfl ?_
              refine TL.mv (.int _ _) rfl rfl rfl ?_
              refine TL.iaO rfl ha rfl fc_l22_29_9 (by omega) rfl rfl ?_
              refine TL.ldR 0 rfl rfl rowW_of (by omega) fc_a29_9 rfl rfl ?_
              refine TL.iaO rfl ha rfl fc_l22_29_9 (by omega) rfl rfl ?_
              refine TL.late ?_
              refine TL.stR 0 rfl rfl rfl encA_ok (by omega) fc_a29_9 rfl rfl trivial ?_
              refine TL.iaO rfl ha rfl fc_l22_29_9 (by omega) rfl rfl ?_
              refine TL.stR 0 rfl rfl rfl encA_ok (by omega) fc_a29_9 rfl rfl trivial ?_
              refine TL.done ?_
              refine TQ.then ?_
              refine TC.seq ?_
              refine TC.region ?_
              refine TL.mv (.int _ _) rfl rfl rfl ?_
              refine TL.add (((i3 + 1 : Nat) : Int)) rfl rfl (wrN (by omega)) rfl rfl ?_
              refine TL.asg (.int _ _) rfl rfl rfl ?_
              refine TL.done ?_
              refine TQ.then ?_
              refine TC.region ?_
              refine TL.mv (.int _ _) rfl rfl rfl ?_
              refine TL.sub (((j3 - 1 : Nat) : Int)) rfl rfl (wrN (by omega)) rfl rfl ?_
              refine TL.asg (.int _ _) rfl rfl rfl ?_
              refine TL.done ?_
              refine TQ.inBlock ?_
              refine TQ.roundK ((i3 + 1, j3 - 1, swp d2 i3 j3)) ⟨⟨by omega, by omega, by omega, ploop_go hI (g3.symm.trans (scanUp_stop (by first | exact .inl (by omega) | exact .inr (ltF (by assumption))))) (g4.symm.trans (scanDown_stop (by first | exact .inl (by omega) | exact .inr (nT (by assumption))))) (by omega) (by omega) (by omega)⟩, by show j3 - 1 + 1 - (i3 + 1) < j2 + 1 - i2; omega⟩ ⟨rfl, rfl, trivial⟩ ⟨rfl, trivial⟩ (.cons rfl rfl (.cons rfl rfl (.cons rfl rfl (.cons rfl rfl (.cons rfl rfl trivial))))) trivial

set_option maxHeartbeats 4000000 in
theorem parteq_ok {a : Option Addr} {b off n c g : Nat} {d : Array Ans} {cf : Ans → Ans → Int} (ha : 0 < n → a = some ⟨b, off, none⟩) (hn : n ≤ 1000) (hcb : callB Try.prog g = true) (hcmp : ∀ x y, FnD Try.prog g [.agg (encA x).toArray, .agg (encA y).toArray] [] (.int .i64 (cf x y)) []) {lo hi pv : Nat} (hlo : lo < hi) (hhi : hi ≤ n) (hpv : pv < n) : FnD Try.prog 39 [.slice a n c, .int .i64 ((lo : Nat) : Int), .int .i64 ((hi : Nat) : Int), .int .i64 ((pv : Nat) : Int), .func (.func g) #[] #[]] [rw9 b off n d] (.int .i64 (((partitionEqual (ltf cf) d lo hi pv).1 : Nat) : Int)) [rw9 b off n ((partitionEqual (ltf cf) d lo hi pv).2)] := by
  refine Fn.enter (Try.func39) rfl rfl (fun w0 R => ?_)
  refine TC.seq ?_
  refine TC.region ?_
  refine TL.asg (.int _ _) rfl rfl rfl ?_
  refine TL.done ?_
  refine TQ.then ?_
  refine TC.seq ?_
  refine TC.draw2 [(0, true), (1, true), (2, true), (3, true), (4, true), (5, true), (6, true), (7, true), (8, true), (9, true), (10, true), (11, true), (12, true)] 13 [(14, true), (15, false)] [0] fc_m (by kernel_rfl) ?_
  refine TL.mv (.slice _ _ _) rfl rfl rfl ?_
  refine TL.mv (.int _ _) rfl rfl rfl ?_
  refine TL.mv (.slice _ _ _) rfl rfl rfl ?_
  refine TL.mv (.int _ _) rfl rfl rfl ?_
  refine TL.mv (.slice _ _ _) rfl rfl rfl ?_
  refine TL.mv (.int _ _) rfl rfl rfl ?_
  refine TL.iaO rfl ha rfl fc_l22_29_9 (by omega) rfl rfl ?_
  refine TL.ldR 0 rfl rfl rowW_of (by omega) fc_a29_9 rfl rfl ?_
  refine TL.mv (.slice _ _ _) rfl rfl rfl ?_
  refine TL.mv (.int _ _) rfl rfl rfl ?_
  refine TL.iaO rfl ha rfl fc_l22_29_9 (by omega) rfl rfl ?_
  refine TL.ldR 0 rfl rfl rowW_of (by omega) fc_a29_9 rfl rfl ?_
  refine TL.iaO rfl ha rfl fc_l22_29_9 (by omega) rfl rfl ?_
  refine TL.late ?_
  refine TL.stR 0 rfl rfl rfl encA_ok (by omega) fc_a29_9 rfl rfl trivial ?_
  refine TL.iaO rfl ha rfl fc_l22_29_9 (by omega) rfl rfl ?_
  refine TL.stR 0 rfl rfl rfl encA_ok (by omega) fc_a29_9 rfl rfl trivial ?_
  refine TL.done ?_
  refine TQ.then ?_
  refine TC.seq ?_
  refine TC.region ?_
  refine TL.mv (.int _ _) rfl rfl rfl ?_
  refine TL.add (((lo + 1 : Nat) : Int)) rfl rfl (wrN (by omega)) rfl rfl ?_
  refine TL.mv (.int _ _) rfl rfl rfl ?_
  refine TL.sub (((hi - 1 : Nat) : Int)) rfl rfl (wrN (by omega)) rfl rfl ?_
  refine TL.asg (.int _ _) rfl rfl rfl ?_
  refine TL.asg (.int _ _) rfl rfl rfl ?_
  refine TL.done ?_
  refine TQ.then ?_
  refine TC.seq ?_
  refine TC.block ?_
  refine TC.loopK (X := Nat × Nat × Array Ans) [0, 1, 4, 10] [] (fun ⟨i2, j2, d2⟩ => [(11, .int .i64 ((i2 : Nat) : Int)), (12, .int .i64 ((j2 : Nat) : Int))]) (fun ⟨i2, j2, d2⟩ => [(0, rw9 b off n d2)]) (fun ⟨i2, j2, d2⟩ => lo < i2 ∧ i2 ≤ n ∧ j2 < n ∧ partEqLoop (ltf cf) lo i2 j2 d2 = partitionEqual (ltf cf) d lo hi pv) (fun ⟨i2, j2, d2⟩ => j2 + 1 - i2) ((lo + 1, hi - 1, swp d lo pv)) ⟨by omega, by omega, by omega, rfl⟩ ⟨rfl, rfl, trivial⟩ ⟨rfl, trivial⟩ (fun y hI => ?_)
  obtain ⟨i2, j2, d2⟩ := y
  obtain ⟨u1, u2, u3, hI⟩ := hI
  replace u1 : lo < i2 := u1
  replace u2 : i2 ≤ n := u2
  replace u3 : j2 < n := u3
  replace hI : partEqLoop (ltf cf) lo i2 j2 d2 = partitionEqual (ltf cf) d lo hi pv := hI
  refine TC.sub (env' := [(11, _), (12, _), (0, _), (1, _), (4, _), (10, _)]) (L' := [(0, _)]) ⟨rfl, rfl, rfl, rfl, rfl, rfl, trivial⟩ ⟨rfl, trivial⟩ ?_
  refine TC.block ?_
  refine TC.seq ?_
  refine TC.block ?_
  refine TC.loopK (X := Nat) [0, 1, 4, 10, 12] [] (fun i => [(11, .int .i64 ((i : Nat) : Int))]) (fun i => [(0, rw9 b off n (d2))]) (fun i => i2 ≤ i ∧ i ≤ n ∧ scanUp (fun x => !ltf cf (d2)[lo]! x) (d2) (j2) (i) = scanUp (fun x => !ltf cf (d2)[lo]! x) (d2) (j2) (i2)) (fun i => j2 + 1 - i) (i2) ⟨by omega, by omega, rfl⟩ ⟨rfl, trivial⟩ ⟨rfl, trivial⟩ (fun i hI => ?_)
  obtain ⟨g1a, g1b, g1⟩ := hI
  refine TC.sub (env' := [(11, _), (0, _), (1, _), (4, _), (10, _), (12, _)]) (L' := [(0, _)]) ⟨rfl, rfl, rfl, rfl, rfl, rfl, trivial⟩ ⟨rfl, trivial⟩ ?_
  refine TC.seq ?_
  refine TC.seq ?_
  refine TC.draw [(0, true), (1, true), (2, true), (3, true), (4, true), (5, true), (6, true), (7, true), (8, true), (9, true), (10, true), (11, true), (12, true), (13, false), (14, true), (15, true), (16, true)] [0] fc_m (by kernel_rfl) ?_
  refine TL.mv (.int _ _) rfl rfl rfl ?_
  refine TL.mv (.int _ _) rfl rfl rfl ?_
  refine TL.leq rfl rfl rfl rfl (fun q1 => ?_) (fun q1 => ?_)
  · skip
    refine TL.mv (.bool true) rfl rfl rfl ?_
    refine TL.mv _ rfl rfl rfl ?_
    refine TL.mv (.slice _ _ _) rfl rfl rfl ?_
    refine TL.mv (.int _ _) rfl rfl rfl ?_
    refine TL.iaO rfl ha rfl fc_l22_29_9 (by omega) rfl rfl ?_
    refine TL.ldR 0 rfl rfl rowW_of (by omega) fc_a29_9 rfl rfl ?_
    refine TL.mv (.slice _ _ _) rfl rfl rfl ?_
    refine TL.mv (.int _ _) rfl rfl rfl ?_
    refine TL.iaO rfl ha rfl fc_l22_29_9 (by omega) rfl rfl ?_
    refine TL.ldR 0 rfl rfl rowW_of (by omega) fc_a29_9 rfl rfl ?_
    refine TL.callC (c1 := []) (c2 := []) (vs := [_, _]) [] [] rfl (hcmp _ _) ⟨rfl, rfl, trivial⟩ trivial hcb rfl rfl rfl rfl rfl (.cons rfl rfl trivial) ?_
    refine TL.lss rfl rfl rfl rfl (fun q2 => ?_) (fun q2 => ?_)
    · skip
      refine TL.not true false rfl rfl rfl rfl ?_
      refine TL.pickT (.bool false) rfl rfl rfl rfl ?_
      refine TL.done ?_
      refine TQ.then ?_
      refine TC.condF rfl ?_
      refine TC.exit ?_
      refine TQ.thenExit ?_
      refine TQ.thenExit ?_
      refine TQ.blockHere ?_
      refine TQ.then ?_
      refine TC.seq ?_
      refine TC.block ?_
      refine TC.loopK (X := Nat) [0, 1, 4, 10, 11] [] (fun j => [(12, .int .i64 ((j : Nat) : Int))]) (fun j => [(0, rw9 b off n (d2))]) (fun j => j ≤ j2 ∧ scanDown (fun x => ltf cf (d2)[lo]! x) (d2) (i) (j) = scanDown (fun x => ltf cf (d2)[lo]! x) (d2) (i) (j2)) (fun j => j) (j2) ⟨by omega, rfl⟩ ⟨rfl, trivial⟩ ⟨rfl, trivial⟩ (fun j hI => ?_)
      obtain ⟨g2a, g2⟩ := hI
      refine TC.sub (env' := [(12, _), (0, _), (1, _), (4, _), (10, _), (11, _)]) (L' := [(0, _)]) ⟨rfl, rfl, rfl, rfl, rfl, rfl, trivial⟩ ⟨rfl, trivial⟩ ?_
      refine TC.seq ?_
      refine TC.seq ?_
      refine TC.draw [(0, true), (1, true), (2, true), (3, true), (4, true), (5, true), (6, true), (7, true), (8, true), (9, true), (10, true), (11, true), (12, true), (13, false), (14, true), (15, true)] [0] fc_m (by kernel_rfl) ?_
      refine TL.mv (.int _ _) rfl rfl rfl ?_
      refine TL.mv (.int _ _) rfl rfl rfl ?_
      refine TL.leq rfl rfl rfl rfl (fun q3 => ?_) (fun q3 => ?_)
      · skip
        refine TL.mv (.bool true) rfl rfl rfl ?_
        refine TL.mv _ rfl rfl rfl ?_
        refine TL.mv (.slice _ _ _) rfl rfl rfl ?_
        refine TL.mv (.int _ _) rfl rfl rfl ?_
        refine TL.iaO rfl ha rfl fc_l22_29_9 (by omega) rfl rfl ?_
        refine TL.ldR 0 rfl rfl rowW_of (by omega) fc_a29_9 rfl rfl ?_
        refine TL.mv (.slice _ _ _) rfl rfl rfl ?_
        refine TL.mv (.int _ _) rfl rfl rfl ?_
        refine TL.iaO rfl ha rfl fc_l22_29_9 (by omega) rfl rfl ?_
        refine TL.ldR 0 rfl rfl rowW_of (by omega) fc_a29_9 rfl rfl ?_
        refine TL.callC (c1 := []) (c2 := []) (vs := [_, _]) [] [] rfl (hcmp _ _) ⟨rfl, rfl, trivial⟩ trivial hcb rfl rfl rfl rfl rfl (.cons rfl rfl trivial) ?_
        refine TL.lss rfl rfl rfl rfl (fun q4 => ?_) (fun q4 => ?_)
        · skip
          refine TL.pickT (.bool true) rfl rfl rfl rfl ?_
          refine TL.done ?_
          refine TQ.then ?_
          refine TC.condT rfl ?_
          refine TC.skip ?_
          refine TQ.then ?_
          refine TC.block ?_
          refine TC.region ?_
          refine TL.mv (.int _ _) rfl rfl rfl ?_
          refine TL.sub (((j - 1 : Nat) : Int)) rfl rfl (wrN (by omega)) rfl rfl ?_
          refine TL.asg (.int _ _) rfl rfl rfl ?_
          refine TL.done ?_
          refine TQ.inBlock ?_
          refine TQ.roundK (j - 1) ⟨⟨by omega, (scanDown_go (p := (fun x => ltf cf (d2)[lo]! x)) (d := d2) (by omega) (by omega) (ltT (by assumption))).trans g2⟩, by omega⟩ ⟨rfl, trivial⟩ ⟨rfl, trivial⟩ (.cons rfl rfl (.cons rfl rfl (.cons rfl rfl (.cons rfl rfl (.cons rfl rfl trivial))))) trivial
        · skip
          refine TL.pickT (.bool false) rfl rfl rfl rfl ?_
          refine TL.done ?_
          refine TQ.then ?_
          refine TC.condF rfl ?_
          refine TC.exit ?_
          refine TQ.thenExit ?_
          refine TQ.thenExit ?_
          refine TQ.blockHere ?_
          refine TQ.then ?_
          refine TC.seq ?_
          refine TC.seq ?_
          refine TC.region ?_
          refine TL.mv (.int _ _) rfl rfl rfl ?_
          refine TL.mv (.int _ _) rfl rfl rfl ?_
          refine TL.gtr rfl rfl rfl rfl (fun q5 => ?_) (fun q5 => ?_)
          · skip
            refine TL.done ?_
            refine TQ.then ?_
            refine TC.condT rfl ?_
            refine TC.exit ?_
            refine TQ.thenExit ?_
            refine TQ.blockOut rfl ?_
            refine TQ.thenExit ?_
            refine TQ.blockHere ?_
            refine TQ.then ?_
            refine TC.seq ?_
            refine TC.region ?_
            refine TL.mv (.int _ _) rfl rfl rfl ?_
            refine TL.asg (.int _ _) rfl rfl rfl ?_
            refine TL.done ?_
            refine TQ.then ?_
            refine TC.ret ?_
            refine FQ.ret1 (v := (.int _ _)) (Bs := [_]) [0] rfl rfl rfl ⟨rfl, trivial⟩ ?_
            have e := qloop_end hI (g1.symm.trans (scanUp_stop (by first | exact .inl (by omega) | exact .inr (nT (by assumption))))) (g2.symm.trans (scanDown_stop (by first | exact .inl (by omega) | exact .inr (ltF (by assumption))))) (by omega)
            exact ⟨by rw [e] <;> rfl, by rw [e] <;> rfl⟩
          · skip
            refine TL.done ?_
            refine TQ.then ?_
            refine TC.condF rfl ?_
            refine TC.skip ?_
            refine TQ.then ?_
            refine TC.seq ?_
            refine TC.draw2 [(0, true), (1, true), (2, true), (3, true), (4, true), (5, true), (6, true), (7, true), (8, true), (9, true), (10, true), (11, true), (12, true)] 13 [(14, true), (15, false)] [0] fc_m (by kernel_rfl) ?_
            refine TL.mv (.slice _ _ _) rfl rfl rfl ?_
            refine TL.mv (.int _ _) rfl rfl rfl ?_
            refine TL.mv (.slice _ _ _) rfl rfl rfl ?_
            refine TL.mv (.int _ _) rfl rfl rfl ?_
            refine TL.mv (.slice _ _ _) rfl rfl rfl ?_
            refine TL.mv (.int _ _) rfl rfl rfl ?_
            refine TL.iaO rfl ha rfl fc_l22_29_9 (by omega) rfl rfl ?_
            refine TL.ldR 0 rfl rfl rowW_of (by omega) fc_a29_9 rfl rfl ?_
            refine TL.mv (.slice _ _ _) rfl rfl rfl ?_
            refine TL.mv (.int _ _) rfl rfl rfl ?_
            refine TL.iaO rfl ha rfl fc_l22_29_9 (by omega) rfl rfl ?_
            refine TL.ldR 0 rfl rfl rowW_of (by omega) fc_a29_9 rfl rfl ?_
            refine TL.iaO rfl ha rfl fc_l22_29_9 (by omega) rfl rfl ?_
            refine TL.late ?_
            refine TL.stR 0 rfl rfl rfl encA_ok (by omega) fc_a29_9 rfl rfl trivial ?_
            refine TL.iaO rfl ha rfl fc_l22_29_9 (by omega) rfl rfl ?_
            refine TL.stR 0 rfl rfl rfl encA_ok (by omega) fc_a29_9 rfl rfl trivial ?_
            refine TL.done ?_
            refine TQ.then ?_
            refine TC.seq ?_
            refine TC.region ?_
            refine TL.mv (.int _ _) rfl rfl rfl ?_
            refine TL.add (((i + 1 : Nat) : Int)) rfl rfl (wrN (by omega)) rfl rfl ?_
            refine TL.asg (.int _ _) rfl rfl rfl ?_
            refine TL.done ?_
            refine TQ.then ?_
            refine TC.region ?_
            refine TL.mv (.int _ _) rfl rfl rfl ?_
            refine TL.sub (((j - 1 : Nat) : Int)) rfl rfl (wrN (by omega)) rfl rfl ?_
            refine TL.asg (.int _ _) rfl rfl rfl ?_
            refine TL.done ?_
            refine TQ.inBlock ?_
            refine TQ.roundK ((i + 1, j - 1, swp d2 i j)) ⟨⟨by omega, by omega, by omega, qloop_go hI (g1.symm.trans (scanUp_stop (by first | exact .inl (by omega) | exact .inr (nT (by assumption))))) (g2.symm.trans (scanDown_stop (by first | exact .inl (by omega) | exact .inr (ltF (by assumption))))) (by omega) (by omega) (by omega)⟩, by show j - 1 + 1 - (i + 1) < j2 + 1 - i2; omega⟩ ⟨rfl, rfl, trivial⟩ ⟨rfl, trivial⟩ (.cons rfl rfl (.cons rfl rfl (.cons rfl rfl (.cons rfl rfl trivial)))) trivial
      · skip
        refine TL.mv (.bool false) rfl rfl rfl ?_
        refine TL.off rfl rfl ?_
        refine TL.off rfl rfl ?_
        refine TL.off rfl rfl ?_
        refine TL.off rfl rfl ?_
        refine TL.off rfl rfl ?_
        refine TL.off rfl rfl ?_
        refine TL.off rfl rfl ?_
        refine TL.off rfl rfl ?_
        refine TL.off rfl rfl ?_
        refine TL.off rfl rfl ?_
        refine TL.off rfl rfl ?_
        refine TL.pickF (.bool false) rfl rfl rfl rfl ?_
        refine TL.done ?_
        refine TQ.then ?_
        refine TC.condF rfl ?_
        refine TC.exit ?_
        refine TQ.thenExit ?_
        refine TQ.thenExit ?_
        refine TQ.blockHere ?_
        refine TQ.then ?_
        refine TC.seq ?_
        refine TC.seq ?_
        refine TC.region ?_
        refine TL.mv (.int _ _) rfl rfl rfl ?_
        refine TL.mv (.int _ _) rfl rfl rfl ?_
        refine TL.gtr rfl rfl rfl rfl (fun q4 => ?_) (fun q4 => ?_)
        · skip
          refine TL.done ?_
          refine TQ.then ?_
          refine TC.condT rfl ?_
          refine TC.exit ?_
          refine TQ.thenExit ?_
          refine TQ.blockOut rfl ?_
          refine TQ.thenExit ?_
          refine TQ.blockHere ?_
          refine TQ.then ?_
          refine TC.seq ?_
          refine TC.region ?_
          refine TL.mv (.int _ _) rfl rfl rfl ?_
          refine TL.asg (.int _ _) rfl rfl rfl ?_
          refine TL.done ?_
          refine TQ.then ?_
          refine TC.ret ?_
          refine FQ.ret1 (v := (.int _ _)) (Bs := [_]) [0] rfl rfl rfl ⟨rfl, trivial⟩ ?_
          have e := qloop_end hI (g1.symm.trans (scanUp_stop (by first | exact .inl (by omega) | exact .inr (nT (by assumption))))) (g2.symm.trans (scanDown_stop (by first | exact .inl (by omega) | exact .inr (ltF (by assumption))))) (by omega)
          exact ⟨by rw [e] <;> rfl, by rw [e] <;> rfl⟩
        · skip
          refine TL.done ?_
          refine TQ.then ?_
          refine TC.condF rfl ?_
          refine TC.skip ?_
          refine TQ.then ?_
          refine TC.seq ?_
          refine TC.draw2 [(0, true), (1, true), (2, true), (3, true), (4, true), (5, true), (6, true), (7, true), (8, true), (9, true), (10, true), (11, true), (12, true)] 13 [(14, true), (15, false)] [0] fc_m (by kernel_rfl) ?_
          refine TL.mv (.slice _ _ _) rfl rfl rfl ?_
          refine TL.mv (.int _ _) rfl rfl rfl ?_
          refine TL.mv (.slice _ _ _) rfl rfl rfl ?_
          refine TL.mv (.int _ _) rfl rfl rfl ?_
          refine TL.mv (.slice _ _ _) rfl rfl rfl ?_
          refine TL.mv (.int _ _) rfl rfl rfl ?_
          refine TL.iaO rfl ha rfl fc_l22_29_9 (by omega) rfl rfl ?_
          refine TL.ldR 0 rfl rfl rowW_of (by omega) fc_a29_9 rfl rfl ?_
          refine TL.mv (.slice _ _ _) rfl rfl rfl ?_
          refine TL.mv (.int _ _) rfl rfl rfl ?_
          refine TL.iaO rfl ha rfl fc_l22_29_9 (by omega) rfl rfl ?_
          refine TL.ldR 0 rfl rfl rowW_of (by omega) fc_a29_9 rfl rfl ?_
          refine TL.iaO rfl ha rfl fc_l22_29_9 (by omega) rfl rfl ?_
          refine TL.late ?_
          refine TL.stR 0 rfl rfl rfl encA_ok (by omega) fc_a29_9 rfl rfl trivial ?_
          refine TL.iaO rfl ha rfl fc_l22_29_9 (by omega) rfl rfl ?_
          refine TL.stR 0 rfl rfl rfl encA_ok (by omega) fc_a29_9 rfl rfl trivial ?_
          refine TL.done ?_
          refine TQ.then ?_
          refine TC.seq ?_
          refine TC.region ?_
          refine TL.mv (.int _ _) rfl rfl rfl ?_
          refine TL.add (((i + 1 : Nat) : Int)) rfl rfl (wrN (by omega)) rfl rfl ?_
          refine TL.asg (.int _ _) rfl rfl rfl ?_
          refine TL.done ?_
          refine TQ.then ?_
          refine TC.region ?_
          refine TL.mv (.int _ _) rfl rfl rfl ?_
          refine TL.sub (((j - 1 : Nat) : Int)) rfl rfl (wrN (by omega)) rfl rfl ?_
          refine TL.asg (.int _ _) rfl rfl rfl ?_
          refine TL.done ?_
          refine TQ.inBlock ?_
          refine TQ.roundK ((i + 1, j - 1, swp d2 i j)) ⟨⟨by omega, by omega, by omega, qloop_go hI (g1.symm.trans (scanUp_stop (by first | exact .inl (by omega) | exact .inr (nT (by assumption))))) (g2.symm.trans (scanDown_stop (by first | exact .inl (by omega) | exact .inr (ltF (by assumption))))) (by omega) (by omega) (by omega)⟩, by show j - 1 + 1 - (i + 1) < j2 + 1 - i2; omega⟩ ⟨rfl, rfl, trivial⟩ ⟨rfl, trivial⟩ (.cons rfl rfl (.cons rfl rfl (.cons rfl rfl (.cons rfl rfl trivial)))) trivial
    · skip
      refine TL.not false true rfl rfl rfl rfl ?_
      refine TL.pickT (.bool true) rfl rfl rfl rfl ?_
      refine TL.done ?_
      refine TQ.then ?_
      refine TC.condT rfl ?_
      refine TC.skip ?_
      refine TQ.then ?_
      refine TC.block ?_
      refine TC.region ?_
      refine TL.mv (.int _ _) rfl rfl rfl ?_
      refine TL.add (((i + 1 : Nat) : Int)) rfl rfl (wrN (by omega)) rfl rfl ?_
      refine TL.asg (.int _ _) rfl rfl rfl ?_
      refine TL.done ?_
      refine TQ.inBlock ?_
      refine TQ.roundK (i + 1) ⟨⟨by omega, by omega, (scanUp_go (p := (fun x => !ltf cf (d2)[lo]! x)) (d := d2) (by omega) (nF (by assumption))).trans g1⟩, by omega⟩ ⟨rfl, trivial⟩ ⟨rfl, trivial⟩ (.cons rfl rfl (.cons rfl rfl (.cons rfl rfl (.cons rfl rfl (.cons rfl rfl trivial))))) trivial
  · skip
    refine TL.mv (.bool false) rfl rfl rfl ?_
    refine TL.off rfl rfl ?_
    refine TL.off rfl rfl ?_
    refine TL.off rfl rfl ?_
    refine TL.off rfl rfl ?_
    refine TL.off rfl rfl ?_
    refine TL.off rfl rfl ?_
    refine TL.off rfl rfl ?_
    refine TL.off rfl rfl ?_
    refine TL.off rfl rfl ?_
    refine TL.off rfl rfl ?_
    refine TL.off rfl rfl ?_
    refine TL.off rfl rfl ?_
    refine TL.pickF (.bool false) rfl rfl rfl rfl ?_
    refine TL.done ?_
    refine TQ.then ?_
    refine TC.condF rfl ?_
    refine TC.exit ?_
    refine TQ.thenExit ?_
    refine TQ.thenExit ?_
    refine TQ.blockHere ?_
    refine TQ.then ?_
    refine TC.seq ?_
    refine TC.block ?_
    refine TC.loopK (X := Nat) [0, 1, 4, 10, 11] [] (fun j => [(12, .int .i64 ((j : Nat) : Int))]) (fun j => [(0, rw9 b off n (d2))]) (fun j => j ≤ j2 ∧ scanDown (fun x => ltf cf (d2)[lo]! x) (d2) (i) (j) = scanDown (fun x => ltf cf (d2)[lo]! x) (d2) (i) (j2)) (fun j => j) (j2) ⟨by omega, rfl⟩ ⟨rfl, trivial⟩ ⟨rfl, trivial⟩ (fun j hI => ?_)
    obtain ⟨g2a, g2⟩ := hI
    refine TC.sub (env' := [(12, _), (0, _), (1, _), (4, _), (10, _), (11, _)]) (L' := [(0, _)]) ⟨rfl, rfl, rfl, rfl, rfl, rfl, trivial⟩ ⟨rfl, trivial⟩ ?_
    refine TC.seq ?_
    refine TC.seq ?_
    refine TC.draw [(0, true), (1, true), (2, true), (3, true), (4, true), (5, true), (6, true), (7, true), (8, true), (9, true), (10, true), (11, true), (12, true), (13, false), (14, true), (15, true)] [0] fc_m (by kernel_rfl) ?_
    refine TL.mv (.int _ _) rfl rfl rfl ?_
    refine TL.mv (.int _ _) rfl rfl rfl ?_
    refine TL.leq rfl rfl rfl rfl (fun q2 => ?_) (fun q2 => ?_)
    · skip
      refine TL.mv (.bool true) rfl rfl rfl ?_
      refine TL.mv _ rfl rfl rfl ?_
      refine TL.mv (.slice _ _ _) rfl rfl rfl ?_
      refine TL.mv (.int _ _) rfl rfl rfl ?_
      refine TL.iaO rfl ha rfl fc_l22_29_9 (by omega) rfl rfl ?_
      refine TL.ldR 0 rfl rfl rowW_of (by omega) fc_a29_9 rfl rfl ?_
      refine TL.mv (.slice _ _ _) rfl rfl rfl ?_
      refine TL.mv (.int _ _) rfl rfl rfl ?_
      refine TL.iaO rfl ha rfl fc_l22_29_9 (by omega) rfl rfl ?_
      refine TL.ldR 0 rfl rfl rowW_of (by omega) fc_a29_9 rfl rfl ?_
      refine TL.callC (c1 := []) (c2 := []) (vs := [_, _]) [] [] rfl (hcmp _ _) ⟨rfl, rfl, trivial⟩ trivial hcb rfl rfl rfl rfl rfl (.cons rfl rfl trivial) ?_
      refine TL.lss rfl rfl rfl rfl (fun q3 => ?_) (fun q3 => ?_)
      · skip
        refine TL.pickT (.bool true) rfl rfl rfl rfl ?_
        refine TL.done ?_
        refine TQ.then ?_
        refine TC.condT rfl ?_
        refine TC.skip ?_
        refine TQ.then ?_
        refine TC.block ?_
        refine TC.region ?_
        refine TL.mv (.int _ _) rfl rfl rfl ?_
        refine TL.sub (((j - 1 : Nat) : Int)) rfl rfl (wrN (by omega)) rfl rfl ?_
        refine TL.asg (.int _ _) rfl rfl rfl ?_
        refine TL.done ?_
        refine TQ.inBlock ?_
        refine TQ.roundK (j - 1) ⟨⟨by omega, (scanDown_go (p := (fun x => ltf cf (d2)[lo]! x)) (d := d2) (by omega) (by omega) (ltT (by assumption))).trans g2⟩, by omega⟩ ⟨rfl, trivial⟩ ⟨rfl, trivial⟩ (.cons rfl rfl (.cons rfl rfl (.cons rfl rfl (.cons rfl rfl (.cons rfl rfl trivial))))) trivial
      · skip
        refine TL.pickT (.bool false) rfl rfl rfl rfl ?_
        refine TL.done ?_
        refine TQ.then ?_
        refine TC.condF rfl ?_
        refine TC.exit ?_
        refine TQ.thenExit ?_
        refine TQ.thenExit ?_
        refine TQ.blockHere ?_
        refine TQ.then ?_
        refine TC.seq ?_
        refine TC.seq ?_
        refine TC.region ?_
        refine TL.mv (.int _ _) rfl rfl rfl ?_
        refine TL.mv (.int _ _) rfl rfl rfl ?_
        refine TL.gtr rfl rfl rfl rfl (fun q4 => ?_) (fun q4 => ?_)
        · skip
          refine TL.done ?_
          refine TQ.then ?_
          refine TC.condT rfl ?_
          refine TC.exit ?_
          refine TQ.thenExit ?_
          refine TQ.blockOut rfl ?_
          refine TQ.thenExit ?_
          refine TQ.blockHere ?_
          refine TQ.then ?_
          refine TC.seq ?_
          refine TC.region ?_
          refine TL.mv (.int _ _) rfl rfl rfl ?_
          refine TL.asg (.int _ _) rfl rfl rfl ?_
          refine TL.done ?_
          refine TQ.then ?_
          refine TC.ret ?_
          refine FQ.ret1 (v := (.int _ _)) (Bs := [_]) [0] rfl rfl rfl ⟨rfl, trivial⟩ ?_
          have e := qloop_end hI (g1.symm.trans (scanUp_stop (by first | exact .inl (by omega) | exact .inr (nT (by assumption))))) (g2.symm.trans (scanDown_stop (by first | exact .inl (by omega) | exact .inr (ltF (by assumption))))) (by omega)
          exact ⟨by rw [e] <;> rfl, by rw [e] <;> rfl⟩
        · skip
          refine TL.done ?_
          refine TQ.then ?_
          refine TC.condF rfl ?_
          refine TC.skip ?_
          refine TQ.then ?_
          refine TC.seq ?_
          refine TC.draw2 [(0, true), (1, true), (2, true), (3, true), (4, true), (5, true), (6, true), (7, true), (8, true), (9, true), (10, true), (11, true), (12, true)] 13 [(14, true), (15, false)] [0] fc_m (by kernel_rfl) ?_
          refine TL.mv (.slice _ _ _) rfl rfl rfl ?_
          refine TL.mv (.int _ _) rfl rfl rfl ?_
          refine TL.mv (.slice _ _ _) rfl rfl rfl ?_
          refine TL.mv (.int _ _) rfl rfl rfl ?_
          refine TL.mv (.slice _ _ _) rfl rfl rfl ?_
          refine TL.mv (.int _ _) rfl rfl rfl ?_
          refine TL.iaO rfl ha rfl fc_l22_29_9 (by omega) rfl rfl ?_
          refine TL.ldR 0 rfl rfl rowW_of (by omega) fc_a29_9 rfl rfl ?_
          refine TL.mv (.slice _ _ _) rfl rfl rfl ?_
          refine TL.mv (.int _ _) rfl rfl rfl ?_
          refine TL.iaO rfl ha rfl fc_l22_29_9 (by omega) rfl rfl ?_
          refine TL.ldR 0 rfl rfl rowW_of (by omega) fc_a29_9 rfl rfl ?_
          refine TL.iaO rfl ha rfl fc_l22_29_9 (by omega) rfl rfl ?_
          refine TL.late ?_
          refine TL.stR 0 rfl rfl rfl encA_ok (by omega) fc_a29_9 rfl rfl trivial ?_
          refine TL.iaO rfl ha rfl fc_l22_29_9 (by omega) rfl rfl ?_
          refine TL.stR 0 rfl rfl rfl encA_ok (by omega) fc_a29_9 rfl rfl trivial ?_
          refine TL.done ?_
          refine TQ.then ?_
          refine TC.seq ?_
          refine TC.region ?_
          refine TL.mv (.int _ _) rfl rfl rfl ?_
          refine TL.add (((i + 1 : Nat) : Int)) rfl rfl (wrN (by omega)) rfl rfl ?_
          refine TL.asg (.int _ _) rfl rfl rfl ?_
          refine TL.done ?_
          refine TQ.then ?_
          refine TC.region ?_
          refine TL.mv (.int _ _) rfl rfl rfl ?_
          refine TL.sub (((j - 1 : Nat) : Int)) rfl rfl (wrN (by omega)) rfl rfl ?_
          refine TL.asg (.int _ _) rfl rfl rfl ?_
          refine TL.done ?_
          refine TQ.inBlock ?_
          refine TQ.roundK ((i + 1, j - 1, swp d2 i j)) ⟨⟨by omega, by omega, by omega, qloop_go hI (g1.symm.trans (scanUp_stop (by first | exact .inl (by omega) | exact .inr (nT (by assumption))))) (g2.symm.trans (scanDown_stop (by first | exact .inl (by omega) | exact .inr (ltF (by assumption))))) (by omega) (by omega) (by omega)⟩, by show j - 1 + 1 - (i + 1) < j2 + 1 - i2; omega⟩ ⟨rfl, rfl, trivial⟩ ⟨rfl, trivial⟩ (.cons rfl rfl (.cons rfl rfl (.cons rfl rfl (.cons rfl rfl trivial)))) trivial
    · skip
      refine TL.mv (.bool false) rfl rfl rfl ?_
      refine TL.off rfl rfl ?_
      refine TL.off rfl rfl ?_
      refine TL.off rfl rfl ?_
      refine TL.off rfl rfl ?_
      refine TL.off rfl rfl ?_
      refine TL.off rfl rfl ?_
      refine TL.off rfl rfl ?_
      refine TL.off rfl rfl ?_
      refine TL.off rfl rfl ?_
      refine TL.off rfl rfl ?_
      refine TL.off rfl rfl ?_
      refine TL.pickF (.bool false) rfl rfl rfl rfl ?_
      refine TL.done ?_
      refine TQ.then ?_
      refine TC.condF rfl ?_
      refine TC.exit ?_
      refine TQ.thenExit ?_
      refine TQ.thenExit ?_
      refine TQ.blockHere ?_
      refine TQ.then ?_
      refine TC.seq ?_
      refine TC.seq ?_
      refine TC.region ?_
      refine TL.mv (.int _ _) rfl rfl rfl ?_
      refine TL.mv (.int _ _) rfl rfl rfl ?_
      refine TL.gtr rfl rfl rfl rfl (fun q3 => ?_) (fun q3 => ?_)
      · skip
        refine TL.done ?_
        refine TQ.then ?_
        refine TC.condT rfl ?_
        refine TC.exit ?_
        refine TQ.thenExit ?_
        refine TQ.blockOut rfl ?_
        refine TQ.thenExit ?_
        refine TQ.blockHere ?_
        refine TQ.then ?_
        refine TC.seq ?_
        refine TC.region ?_
        refine TL.mv (.int _ _) rfl rfl rfl ?_
        refine TL.asg (.int _ _) rfl rfl rfl ?_
        refine TL.done ?_
        refine TQ.then ?_
        refine TC.ret ?_
        refine FQ.ret1 (v := (.int _ _)) (Bs := [_]) [0] rfl rfl rfl ⟨rfl, trivial⟩ ?_
        have e := qloop_end hI (g1.symm.trans (scanUp_stop (by first | exact .inl (by omega) | exact .inr (nT (by assumption))))) (g2.symm.trans (scanDown_stop (by first | exact .inl (by omega) | exact .inr (ltF (by assumption))))) (by omega)
        exact ⟨by rw [e] <;> rfl, by rw [e] <;> rfl⟩
      · skip
        refine TL.done ?_
        refine TQ.then ?_
        refine TC.condF rfl ?_
        refine TC.skip ?_
        refine TQ.then ?_
        refine TC.seq ?_
        refine TC.draw2 [(0, true), (1, true), (2, true), (3, true), (4, true), (5, true), (6, true), (7, true), (8, true), (9, true), (10, true), (11, true), (12, true)] 13 [(14, true), (15, false)] [0] fc_m (by kernel_rfl) ?_
        refine TL.mv (.slice _ _ _) rfl rfl rfl ?_
        refine TL.mv (.int _ _) rfl rfl rfl ?_
        refine TL.mv (.slice _ _ _) rfl rfl rfl ?_
        refine TL.mv (.int _ _) rfl rfl rfl ?_
        refine TL.mv (.slice _ _ _) rfl rfl rfl ?_
        refine TL.mv (.int _ _) rfl rfl rfl ?_
        refine TL.iaO rfl ha rfl fc_l22_29_9 (by omega) rfl rfl ?_
        refine TL.ldR 0 rfl rfl rowW_of (by omega) fc_a29_9 rfl rfl ?_
        refine TL.mv (.slice _ _ _) rfl rfl rfl ?_
        refine TL.mv (.int _ _) rfl rfl rfl ?_
        refine TL.iaO rfl ha rfl fc_l22_29_9 (by omega) rfl rfl ?_
        refine TL.ldR 0 rfl rfl rowW_of (by omega) fc_a29_9 rfl rfl ?_
        refine TL.iaO rfl ha rfl fc_l22_29_9 (by omega) rfl rfl ?_
        refine TL.late ?_
        refine TL.stR 0 rfl rfl rfl encA_ok (by omega) fc_a29_9 rfl rfl trivial ?_
        refine TL.iaO rfl ha rfl fc_l22_29_9 (by omega) rfl rfl ?_
        refine TL.stR 0 rfl rfl rfl encA_ok (by omega) fc_a29_9 rfl rfl trivial ?_
        refine TL.done ?_
        refine TQ.then ?_
        refine TC.seq ?_
        refine TC.region ?_
        refine TL.mv (.int _ _) rfl rfl rfl ?_
        refine TL.add (((i + 1 : Nat) : Int)) rfl rfl (wrN (by omega)) rfl rfl ?_
        refine TL.asg (.int _ _) rfl rfl rfl ?_
        refine TL.done ?_
        refine TQ.then ?_
        refine TC.region ?_
        refine TL.mv (.int _ _) rfl rfl rfl ?_
        refine TL.sub (((j - 1 : Nat) : Int)) rfl rfl (wrN (by omega)) rfl rfl ?_
        refine TL.asg (.int _ _) rfl rfl rfl ?_
        refine TL.done ?_
        refine TQ.inBlock ?_
        refine TQ.roundK ((i + 1, j - 1, swp d2 i j)) ⟨⟨by omega, by omega, by omega, qloop_go hI (g1.symm.trans (scanUp_stop (by first | exact .inl (by omega) | exact .inr (nT (by assumption))))) (g2.symm.trans (scanDown_stop (by first | exact .inl (by omega) | exact .inr (ltF (by assumption))))) (by omega) (by omega) (by omega)⟩, by show j - 1 + 1 - (i + 1) < j2 + 1 - i2; omega⟩ ⟨rfl, rfl, trivial⟩ ⟨rfl, trivial⟩ (.cons rfl rfl (.cons rfl rfl (.cons rfl rfl (.cons rfl rfl trivial)))) trivial

theorem len64_ok {x : Nat} (h : x ≤ 40) : FnD Try.prog 42 [.int .u64 ((x : Nat) : Int)] [] (.int .i64 ((bitsLen x : Nat) : Int)) [] := by
  have hb := bl_le h
  refine Fn.enter (Try.func42) rfl rfl (fun w0 R => ?_)
  refine TC.seq ?_
  refine TC.region ?_
  refine TL.asg (.int _ _) rfl rfl rfl ?_
  refine TL.done ?_
  refine TQ.then ?_
  refine TC.seq ?_
  refine TC.seq ?_
  refine TC.region ?_
  refine TL.mv (.int _ _) rfl rfl rfl ?_
  refine TL.geqF rfl rfl (by omega) rfl rfl ?_
  refine TL.done ?_
  refine TQ.then ?_
  refine TC.condF rfl ?_
  refine TC.skip ?_
  refine TQ.then ?_
  refine TC.seq ?_
  refine TC.seq ?_
  refine TC.region ?_
  refine TL.mv (.int _ _) rfl rfl rfl ?_
  refine TL.geqF rfl rfl (by omega) rfl rfl ?_
  refine TL.done ?_
  refine TQ.then ?_
  refine TC.condF rfl ?_
  refine TC.skip ?_
  refine TQ.then ?_
  refine TC.seq ?_
  refine TC.seq ?_
  refine TC.region ?_
  refine TL.mv (.int _ _) rfl rfl rfl ?_
  refine TL.geqF rfl rfl (by omega) rfl rfl ?_
  refine TL.done ?_
  refine TQ.then ?_
  refine TC.condF rfl ?_
  refine TC.skip ?_
  refine TQ.then ?_
  refine TC.seq ?_
  refine TC.region ?_
  refine TL.mv (.int _ _) rfl rfl rfl ?_
  refine TL.mv (.int _ _) rfl rfl rfl ?_
  refine TL.conv _ rfl fc_u62 fc_i5_u8 (wru8 (by omega)) rfl rfl ?_
  refine TL.ixS (((bitsLen x : Nat) : Int)) rfl rfl fc_str (by omega) (blTab h (by kernel_rfl)) rfl rfl ?_
  refine TL.conv _ rfl fc_u5 fc_i3_i64 (wr64 (by omega)) rfl rfl ?_
  refine TL.add (((bitsLen x : Nat) : Int)) rfl rfl (wrN (by omega)) rfl rfl ?_
  refine TL.asg (.int _ _) rfl rfl rfl ?_
  refine TL.done ?_
  refine TQ.then ?_
  refine TC.ret ?_
  refine FQ.ret1 (v := (.int _ _)) (Bs := []) [] rfl rfl rfl trivial ?_
  exact ⟨rfl, rfl⟩

theorem len_ok {x : Nat} (h : x ≤ 40) : FnD Try.prog 29 [.int .u64 ((x : Nat) : Int)] [] (.int .i64 ((bitsLen x : Nat) : Int)) [] := by
  refine Fn.enter (Try.func29) rfl rfl (fun w0 R => ?_)
  refine TC.seq ?_
  refine TC.region ?_
  refine TL.asg (.int _ _) rfl rfl rfl ?_
  refine TL.done ?_
  refine TQ.then ?_
  refine TC.seq ?_
  refine TC.condF rfl ?_
  refine TC.skip ?_
  refine TQ.then ?_
  refine TC.seq ?_
  refine TC.region ?_
  refine TL.mv (.int _ _) rfl rfl rfl ?_
  refine TL.callD [] [] (len64_ok (by omega)) ⟨rfl, trivial⟩ trivial fc_c42 rfl rfl rfl rfl rfl trivial ?_
  refine TL.asg (.int _ _) rfl rfl rfl ?_
  refine TL.done ?_
  refine TQ.then ?_
  refine TC.ret ?_
  refine FQ.ret1 (v := (.int _ _)) (Bs := []) [] rfl rfl rfl trivial ?_
  exact ⟨rfl, rfl⟩

theorem npo2_ok {x : Nat} (h : x ≤ 40) : FnD Try.prog 45 [.int .i64 ((x : Nat) : Int)] [] (.int .u64 ((1 <<< bitsLen x : Nat) : Int)) [] := by
  refine Fn.enter (Try.func45) rfl rfl (fun w0 R => ?_)
  refine TC.seq ?_
  refine TC.region ?_
  refine TL.asg (.int _ _) rfl rfl rfl ?_
  refine TL.done ?_
  refine TQ.then ?_
  refine TC.seq ?_
  refine TC.region ?_
  refine TL.mv (.int _ _) rfl rfl rfl ?_
  refine TL.conv _ rfl fc_u3 fc_i48_u64 (wru64 (by omega)) rfl rfl ?_
  refine TL.callD [] [] (len_ok (by omega)) ⟨rfl, trivial⟩ trivial fc_c29 rfl rfl rfl rfl rfl trivial ?_
  refine TL.shl (((1 <<< bitsLen x : Nat) : Int)) rfl rfl (by omega) (shl_one (bl_le h)) rfl rfl ?_
  refine TL.asg (.int _ _) rfl rfl rfl ?_
  refine TL.done ?_
  refine TQ.then ?_
  refine TC.ret ?_
  refine FQ.ret1 (v := (.int _ _)) (Bs := []) [] rfl rfl rfl trivial ?_
  exact ⟨rfl, rfl⟩

theorem next_ok {r : UInt64} {br : Nat} : FnD Try.prog 46 [.pointer (some ⟨br, 0, none⟩)] [pt br (.cells #[.int .u64 ((r).toNat : Int)] 64)] (.int .u64 ((xorNext r).toNat : Int)) [pt br (.cells #[.int .u64 ((xorNext r).toNat : Int)] 64)] := by
  refine Fn.enter (Try.func46) rfl rfl (fun w0 R => ?_)
  refine TC.seq ?_
  refine TC.region ?_
  refine TL.asg (.int _ _) rfl rfl rfl ?_
  refine TL.done ?_
  refine TQ.then ?_
  refine TC.seq ?_
  refine TC.draw2 [(0, true), (1, true), (2, true), (3, true), (4, true), (5, true), (6, true), (7, true), (8, true)] 9 [] [0] fc_m (by kernel_rfl) ?_
  refine TL.mv (.pointer (some ⟨_, _, none⟩)) rfl rfl rfl ?_
  refine TL.nc rfl rfl rfl ?_
  refine TL.ld 0 (.int _ _) rfl rfl rfl fc_s64 rfl rfl ?_
  refine TL.mv (.pointer (some ⟨_, _, none⟩)) rfl rfl rfl ?_
  refine TL.nc rfl rfl rfl ?_
  refine TL.ld 0 (.int _ _) rfl rfl rfl fc_s64 rfl rfl ?_
  refine TL.shl ((((r <<< 13).toNat : Nat) : Int)) rfl rfl (by omega) (u_shl r 13 (by decide)) rfl rfl ?_
  refine TL.xor ((((r ^^^ (r <<< 13)).toNat : Nat) : Int)) rfl rfl (u_xor _ _) rfl rfl ?_
  refine TL.nc rfl rfl rfl ?_
  refine TL.late ?_
  refine TL.st 0 #[_] (.int _ _) rfl rfl rfl rfl rfl rfl fc_s64 rfl rfl trivial ?_
  refine TL.done ?_
  refine TQ.then ?_
  refine TC.seq ?_
  refine TC.draw2 [(0, true), (1, true), (2, true), (3, true), (4, true), (5, true), (6, true), (7, true), (8, true)] 9 [] [0] fc_m (by kernel_rfl) ?_
  refine TL.mv (.pointer (some ⟨_, _, none⟩)) rfl rfl rfl ?_
  refine TL.nc rfl rfl rfl ?_
  refine TL.ld 0 (.int _ _) rfl rfl rfl fc_s64 rfl rfl ?_
  refine TL.mv (.pointer (some ⟨_, _, none⟩)) rfl rfl rfl ?_
  refine TL.nc rfl rfl rfl ?_
  refine TL.ld 0 (.int _ _) rfl rfl rfl fc_s64 rfl rfl ?_
  refine TL.shr (((((r ^^^ (r <<< 13)) >>> 7).toNat : Nat) : Int)) rfl rfl (by omega) (u_shr _ 7 (by decide)) rfl rfl ?_
  refine TL.xor (((((r ^^^ (r <<< 13)) ^^^ ((r ^^^ (r <<< 13)) >>> 7)).toNat : Nat) : Int)) rfl rfl (u_xor _ _) rfl rfl ?_
  refine TL.nc rfl rfl rfl ?_
  refine TL.late ?_
  refine TL.st 0 #[_] (.int _ _) rfl rfl rfl rfl rfl rfl fc_s64 rfl rfl trivial ?_
  refine TL.done ?_
  refine TQ.then ?_
  refine TC.seq ?_
  refine TC.draw2 [(0, true), (1, true), (2, true), (3, true), (4, true), (5, true), (6, true), (7, true), (8, true)] 9 [] [0] fc_m (by kernel_rfl) ?_
  refine TL.mv (.pointer (some ⟨_, _, none⟩)) rfl rfl rfl ?_
  refine TL.nc rfl rfl rfl ?_
  refine TL.ld 0 (.int _ _) rfl rfl rfl fc_s64 rfl rfl ?_
  refine TL.mv (.pointer (some ⟨_, _, none⟩)) rfl rfl rfl ?_
  refine TL.nc rfl rfl rfl ?_
  refine TL.ld 0 (.int _ _) rfl rfl rfl fc_s64 rfl rfl ?_
  refine TL.shl ((((((r ^^^ (r <<< 13)) ^^^ ((r ^^^ (r <<< 13)) >>> 7)) <<< 17).toNat : Nat) : Int)) rfl rfl (by omega) (u_shl _ 17 (by decide)) rfl rfl ?_
  refine TL.xor ((((xorNext r).toNat : Nat) : Int)) rfl rfl (u_xor _ _) rfl rfl ?_
  refine TL.nc rfl rfl rfl ?_
  refine TL.late ?_
  refine TL.st 0 #[_] (.int _ _) rfl rfl rfl rfl rfl rfl fc_s64 rfl rfl trivial ?_
  refine TL.done ?_
  refine TQ.then ?_
  refine TC.seq ?_
  refine TC.region ?_
  refine TL.mv (.pointer (some ⟨_, _, none⟩)) rfl rfl rfl ?_
  refine TL.nc rfl rfl rfl ?_
  refine TL.ld 0 (.int _ _) rfl rfl rfl fc_s64 rfl rfl ?_
  refine TL.asg (.int _ _) rfl rfl rfl ?_
  refine TL.done ?_
  refine TQ.then ?_
  refine TC.ret ?_
  refine FQ.ret1 (v := (.int _ _)) (Bs := [pt br (.cells #[.int .u64 ((xorNext r).toNat : Int)] 64)]) [0] rfl rfl rfl ⟨rfl, trivial⟩ ?_
  exact ⟨rfl, rfl⟩

set_option maxHeartbeats 4000000 in
theorem brk_ok {a : Option Addr} {b off n c g : Nat} {d : Array Ans} {cf : Ans → Ans → Int} (ha : 0 < n → a = some ⟨b, off, none⟩) (hn : n ≤ 1000) (hcb : callB Try.prog g = true) (hcmp : ∀ x y, FnD Try.prog g [.agg (encA x).toArray, .agg (encA y).toArray] [] (.int .i64 (cf x y)) []) {lo hi : Nat} (hlo : lo + 8 ≤ hi) (hhi : hi ≤ n) (hn4 : n ≤ 40) : FnD Try.prog 35 [.slice a n c, .int .i64 ((lo : Nat) : Int), .int .i64 ((hi : Nat) : Int), .func (.func g) #[] #[]] [rw9 b off n d] (.tuple #[]) [rw9 b off n (breakPatterns d lo hi)] := by
  have hm := mod_bd (len := hi - lo) (by omega) (by omega)
  refine Fn.enter (Try.func35) rfl rfl (fun w0 R => ?_)
  refine TC.seq ?_
  refine TC.region ?_
  refine TL.mv (.int _ _) rfl rfl rfl ?_
  refine TL.mv (.int _ _) rfl rfl rfl ?_
  refine TL.sub (((hi - lo : Nat) : Int)) rfl rfl (wrN (by omega)) rfl rfl ?_
  refine TL.asg (.int _ _) rfl rfl rfl ?_
  refine TL.done ?_
  refine TQ.then ?_
  refine TC.seq ?_
  refine TC.region ?_
  refine TL.mv (.int _ _) rfl rfl rfl ?_
  refine TL.geqT rfl rfl (by omega) rfl rfl ?_
  refine TL.done ?_
  refine TQ.then ?_
  refine TC.condT rfl ?_
  refine TC.seq ?_
  refine TC.region ?_
  refine TL.mv (.int _ _) rfl rfl rfl ?_
  refine TL.conv _ rfl fc_u3 fc_i64_u64 (u_ofNat (x := hi - lo) (by omega)) rfl rfl ?_
  refine TL.alloc 1 (cs := #[.int .u64 0]) fc_z64 rfl rfl rfl (fun _ => trivial) (fun bk1 => ?_)
  refine TL.st 1 #[_] (.int _ _) rfl rfl rfl rfl rfl rfl fc_s64 rfl rfl trivial ?_
  refine TL.done ?_
  refine TQ.then ?_
  refine TC.seq ?_
  refine TC.region ?_
  refine TL.mv (.int _ _) rfl rfl rfl ?_
  refine TL.callD [] [] (npo2_ok (by omega)) ⟨rfl, trivial⟩ trivial fc_c45 rfl rfl rfl rfl rfl trivial ?_
  refine TL.asg (.int _ _) rfl rfl rfl ?_
  refine TL.done ?_
  refine TQ.then ?_
  refine TC.seq ?_
  refine TC.region ?_
  refine TL.mv (.int _ _) rfl rfl rfl ?_
  refine TL.mv (.int _ _) rfl rfl rfl ?_
  refine TL.quo ((((hi - lo) / 4 : Nat) : Int)) rfl rfl (by omega) (quoN (k := 4) (by omega)) rfl rfl ?_
  refine TL.mul ((((hi - lo) / 4 * 2 : Nat) : Int)) rfl rfl (wrN (by omega)) rfl rfl ?_
  refine TL.add (((lo + (hi - lo) / 4 * 2 : Nat) : Int)) rfl rfl (wrN (by omega)) rfl rfl ?_
  refine TL.sub (((lo + (hi - lo) / 4 * 2 - 1 : Nat) : Int)) rfl rfl (wrN (by omega)) rfl rfl ?_
  refine TL.asg (.int _ _) rfl rfl rfl ?_
  refine TL.done ?_
  refine TQ.then ?_
  refine TC.block ?_
  refine TC.loopK (X := Nat × UInt64 × Array Ans) [0, 1, 8, 9, 10] [] (fun ⟨ix, r1, d1⟩ => [(11, .int .i64 ((ix : Nat) : Int))]) (fun ⟨ix, r1, d1⟩ => [(0, rw9 b off n d1), (1, pt bk1 (.cells #[.int .u64 ((r1).toNat : Int)] 64))]) (fun ⟨ix, r1, d1⟩ => ∃ k, ix + k = lo + (hi - lo) / 4 * 2 - 1 + 3 ∧ (bpIter lo (hi - lo) (1 <<< bitsLen (hi - lo)) k ix (r1, d1)).2 = breakPatterns d lo hi) (fun ⟨ix, r1, d1⟩ => lo + (hi - lo) / 4 * 2 - 1 + 3 - ix) ((lo + (hi - lo) / 4 * 2 - 1, UInt64.ofNat (hi - lo), d)) ⟨3, rfl, (by unfold breakPatterns; rw [if_pos (by omega)]; rfl)⟩ ⟨rfl, trivial⟩ ⟨rfl, rfl, trivial⟩ (fun y hI => ?_)
  obtain ⟨ix, r1, d1⟩ := y
  obtain ⟨k, hk, hI⟩ := hI
  replace hk : ix + k = lo + (hi - lo) / 4 * 2 - 1 + 3 := hk
  replace hI : (bpIter lo (hi - lo) (1 <<< bitsLen (hi - lo)) k ix (r1, d1)).2 = breakPatterns d lo hi := hI
  refine TC.sub (env' := [(11, _), (0, _), (1, _), (8, _), (9, _), (10, _)]) (L' := [(0, _), (1, _)]) ⟨rfl, rfl, rfl, rfl, rfl, rfl, trivial⟩ ⟨rfl, rfl, trivial⟩ ?_
  refine TC.seq ?_
  refine TC.seq ?_
  refine TC.region ?_
  refine TL.mv (.int _ _) rfl rfl rfl ?_
  refine TL.mv (.int _ _) rfl rfl rfl ?_
  refine TL.mv (.int _ _) rfl rfl rfl ?_
  refine TL.quo ((((hi - lo) / 4 : Nat) : Int)) rfl rfl (by omega) (quoN (k := 4) (by omega)) rfl rfl ?_
  refine TL.mul ((((hi - lo) / 4 * 2 : Nat) : Int)) rfl rfl (wrN (by omega)) rfl rfl ?_
  refine TL.add (((lo + (hi - lo) / 4 * 2 : Nat) : Int)) rfl rfl (wrN (by omega)) rfl rfl ?_
  refine TL.add (((lo + (hi - lo) / 4 * 2 + 1 : Nat) : Int)) rfl rfl (wrN (by omega)) rfl rfl ?_
  refine TL.leq rfl rfl rfl rfl (fun q1 => ?_) (fun q1 => ?_)
  · skip
    refine TL.done ?_
    refine TQ.then ?_
    refine TC.condT rfl ?_
    refine TC.skip ?_
    refine TQ.then ?_
    refine TC.seq ?_
    refine TC.block ?_
    refine TC.seq ?_
    refine TC.region ?_
    refine TL.callD [1] [1] next_ok ⟨rfl, trivial⟩ ⟨rfl, trivial⟩ fc_c46 rfl rfl rfl rfl rfl trivial ?_
    refine TL.mv (.int _ _) rfl rfl rfl ?_
    refine TL.sub ((((1 <<< bitsLen (hi - lo)) - 1 : Nat) : Int)) rfl rfl (wruN (by omega)) rfl rfl ?_
    refine TL.and (((((xorNext r1).toNat &&& ((1 <<< bitsLen (hi - lo)) - 1)) : Nat) : Int)) rfl rfl (u_and (by have := u_lt (xorNext r1); omega) (by omega)) rfl rfl ?_
    refine TL.conv _ rfl fc_u48 fc_i3_i64 (wr64 (by have := Nat.and_le_right (n := (xorNext r1).toNat) (m := (1 <<< bitsLen (hi - lo)) - 1); omega)) rfl rfl ?_
    refine TL.asg (.int _ _) rfl rfl rfl ?_
    refine TL.done ?_
    refine TQ.then ?_
    refine TC.seq ?_
    refine TC.seq ?_
    refine TC.region ?_
    have ho := Nat.and_le_right (n := (xorNext r1).toNat) (m := (1 <<< bitsLen (hi - lo)) - 1)
    refine TL.mv (.int _ _) rfl rfl rfl ?_
    refine TL.mv (.int _ _) rfl rfl rfl ?_
    refine TL.geq rfl rfl rfl rfl (fun q2 => ?_) (fun q2 => ?_)
    · skip
      refine TL.done ?_
      refine TQ.then ?_
      refine TC.condT rfl ?_
      refine TC.region ?_
      refine TL.mv (.int _ _) rfl rfl rfl ?_
      refine TL.mv (.int _ _) rfl rfl rfl ?_
      refine TL.sub (((((xorNext r1).toNat &&& ((1 <<< bitsLen (hi - lo)) - 1)) - (hi - lo) : Nat) : Int)) rfl rfl (wrN (by omega)) rfl rfl ?_
      refine TL.asg (.int _ _) rfl rfl rfl ?_
      refine TL.done ?_
      refine TQ.then ?_
      refine TC.draw2 [(0, true), (1, true), (2, true), (3, true), (4, true), (5, true), (6, true), (7, true), (8, true), (9, true), (10, true), (11, true), (12, true), (13, true), (14, true), (15, true), (16, true)] 17 [(18, true), (19, false)] [0] fc_m (by kernel_rfl) ?_
      refine TL.mv (.slice _ _ _) rfl rfl rfl ?_
      refine TL.mv (.int _ _) rfl rfl rfl ?_
      refine TL.mv (.slice _ _ _) rfl rfl rfl ?_
      refine TL.mv (.int _ _) rfl rfl rfl ?_
      refine TL.mv (.int _ _) rfl rfl rfl ?_
      refine TL.add (((lo + (((xorNext r1).toNat &&& ((1 <<< bitsLen (hi - lo)) - 1)) - (hi - lo)) : Nat) : Int)) rfl rfl (wrN (by omega)) rfl rfl ?_
      refine TL.mv (.slice _ _ _) rfl rfl rfl ?_
      refine TL.mv (.int _ _) rfl rfl rfl ?_
      refine TL.mv (.int _ _) rfl rfl rfl ?_
      refine TL.add (((lo + (((xorNext r1).toNat &&& ((1 <<< bitsLen (hi - lo)) - 1)) - (hi - lo)) : Nat) : Int)) rfl rfl (wrN (by omega)) rfl rfl ?_
      refine TL.iaO rfl ha rfl fc_l22_29_9 (by omega) rfl rfl ?_
      refine TL.ldR 0 rfl rfl rowW_of (by omega) fc_a29_9 rfl rfl ?_
      refine TL.mv (.slice _ _ _) rfl rfl rfl ?_
      refine TL.mv (.int _ _) rfl rfl rfl ?_
      refine TL.iaO rfl ha rfl fc_l22_29_9 (by omega) rfl rfl ?_
      refine TL.ldR 0 rfl rfl rowW_of (by omega) fc_a29_9 rfl rfl ?_
      refine TL.iaO rfl ha rfl fc_l22_29_9 (by omega) rfl rfl ?_
      refine TL.late ?_
      refine TL.stR 0 rfl rfl rfl encA_ok (by omega) fc_a29_9 rfl rfl trivial ?_
      refine TL.iaO rfl ha rfl fc_l22_29_9 (by omega) rfl rfl ?_
      refine TL.stR 0 rfl rfl rfl encA_ok (by omega) fc_a29_9 rfl rfl trivial ?_
      refine TL.done ?_
      refine TQ.inBlock ?_
      refine TQ.then ?_
      refine TC.region ?_
      refine TL.mv (.int _ _) rfl rfl rfl ?_
      refine TL.add (((ix + 1 : Nat) : Int)) rfl rfl (wrN (by omega)) rfl rfl ?_
      refine TL.asg (.int _ _) rfl rfl rfl ?_
      refine TL.done ?_
      refine TQ.roundK ((ix + 1, xorNext r1, swp d1 ix (lo + (((xorNext r1).toNat &&& ((1 <<< bitsLen (hi - lo)) - 1)) - (hi - lo))))) ⟨(by obtain ⟨k, rfl⟩ : ∃ k1, k = k1 + 1 := ⟨k - 1, by omega⟩; refine ⟨k, by omega, ?_⟩; rw [bpIter, breakStep_eq, bpO, if_pos (by omega)] at hI; exact hI), by show lo + (hi - lo) / 4 * 2 - 1 + 3 - (ix + 1) < lo + (hi - lo) / 4 * 2 - 1 + 3 - ix; omega⟩ ⟨rfl, trivial⟩ ⟨rfl, rfl, trivial⟩ (.cons rfl rfl (.cons rfl rfl (.cons rfl rfl (.cons rfl rfl (.cons rfl rfl trivial))))) trivial
    · skip
      refine TL.done ?_
      refine TQ.then ?_
      refine TC.condF rfl ?_
      refine TC.skip ?_
      refine TQ.then ?_
      refine TC.draw2 [(0, true), (1, true), (2, true), (3, true), (4, true), (5, true), (6, true), (7, true), (8, true), (9, true), (10, true), (11, true), (12, true), (13, true), (14, true), (15, true), (16, true)] 17 [(18, true), (19, false)] [0] fc_m (by kernel_rfl) ?_
      refine TL.mv (.slice _ _ _) rfl rfl rfl ?_
      refine TL.mv (.int _ _) rfl rfl rfl ?_
      refine TL.mv (.slice _ _ _) rfl rfl rfl ?_
      refine TL.mv (.int _ _) rfl rfl rfl ?_
      refine TL.mv (.int _ _) rfl rfl rfl ?_
      refine TL.add (((lo + ((xorNext r1).toNat &&& ((1 <<< bitsLen (hi - lo)) - 1)) : Nat) : Int)) rfl rfl (wrN (by omega)) rfl rfl ?_
      refine TL.mv (.slice _ _ _) rfl rfl rfl ?_
      refine TL.mv (.int _ _) rfl rfl rfl ?_
      refine TL.mv (.int _ _) rfl rfl rfl ?_
      refine TL.add (((lo + ((xorNext r1).toNat &&& ((1 <<< bitsLen (hi - lo)) - 1)) : Nat) : Int)) rfl rfl (wrN (by omega)) rfl rfl ?_
      refine TL.iaO rfl ha rfl fc_l22_29_9 (by omega) rfl rfl ?_
      refine TL.ldR 0 rfl rfl rowW_of (by omega) fc_a29_9 rfl rfl ?_
      refine TL.mv (.slice _ _ _) rfl rfl rfl ?_
      refine TL.mv (.int _ _) rfl rfl rfl ?_
      refine TL.iaO rfl ha rfl fc_l22_29_9 (by omega) rfl rfl ?_
      refine TL.ldR 0 rfl rfl rowW_of (by omega) fc_a29_9 rfl rfl ?_
      refine TL.iaO rfl ha rfl fc_l22_29_9 (by omega) rfl rfl ?_
      refine TL.late ?_
      refine TL.stR 0 rfl rfl rfl encA_ok (by omega) fc_a29_9 rfl rfl trivial ?_
      refine TL.iaO rfl ha rfl fc_l22_29_9 (by omega) rfl rfl ?_
      refine TL.stR 0 rfl rfl rfl encA_ok (by omega) fc_a29_9 rfl rfl trivial ?_
      refine TL.done ?_
      refine TQ.inBlock ?_
      refine TQ.then ?_
      refine TC.region ?_
      refine TL.mv (.int _ _) rfl rfl rfl ?_
      refine TL.add (((ix + 1 : Nat) : Int)) rfl rfl (wrN (by omega)) rfl rfl ?_
      refine TL.asg (.int _ _) rfl rfl rfl ?_
      refine TL.done ?_
      refine TQ.roundK ((ix + 1, xorNext r1, swp d1 ix (lo + ((xorNext r1).toNat &&& ((1 <<< bitsLen (hi - lo)) - 1))))) ⟨(by obtain ⟨k, rfl⟩ : ∃ k1, k = k1 + 1 := ⟨k - 1, by omega⟩; refine ⟨k, by omega, ?_⟩; rw [bpIter, breakStep_eq, bpO, if_neg (by omega)] at hI; exact hI), by show lo + (hi - lo) / 4 * 2 - 1 + 3 - (ix + 1) < lo + (hi - lo) / 4 * 2 - 1 + 3 - ix; omega⟩ ⟨rfl, trivial⟩ ⟨rfl, rfl, trivial⟩ (.cons rfl rfl (.cons rfl rfl (.cons rfl rfl (.cons rfl rfl (.cons rfl rfl trivial))))) trivial
  · skip
    refine TL.done ?_
    refine TQ.then ?_
    refine TC.condF rfl ?_
    refine TC.exit ?_
    refine TQ.thenExit ?_
    refine TQ.thenExit ?_
    refine TQ.blockHere ?_
    refine FQ.end0 (Bs := [_]) [0] rfl rfl ⟨rfl, trivial⟩ ?_
    obtain rfl : k = 0 := by omega
    exact ⟨rfl, by rw [← hI]; rfl⟩

set_option maxHeartbeats 4000000 in
theorem pins_ok {a : Option Addr} {b off n c g : Nat} {d : Array Ans} {cf : Ans → Ans → Int} (ha : 0 < n → a = some ⟨b, off, none⟩) (hn : n ≤ 1000) (hcb : callB Try.prog g = true) (hcmp : ∀ x y, FnD Try.prog g [.agg (encA x).toArray, .agg (encA y).toArray] [] (.int .i64 (cf x y)) []) {lo hi : Nat} (hlo : lo < hi) (hhi : hi ≤ n) (hn4 : n ≤ 40) : FnD Try.prog 38 [.slice a n c, .int .i64 ((lo : Nat) : Int), .int .i64 ((hi : Nat) : Int), .func (.func g) #[] #[]] [rw9 b off n d] (.bool (partialInsertionSort (ltf cf) d lo hi).2) [rw9 b off n ((partialInsertionSort (ltf cf) d lo hi).1)] := by
  refine Fn.enter (Try.func38) rfl rfl (fun w0 R => ?_)
  refine TC.seq ?_
  refine TC.region ?_
  refine TL.asg (.bool false) rfl rfl rfl ?_
  refine TL.done ?_
  refine TQ.then ?_
  refine TC.seq ?_
  refine TC.region ?_
  refine TL.mv (.int _ _) rfl rfl rfl ?_
  refine TL.add (((lo + 1 : Nat) : Int)) rfl rfl (wrN (by omega)) rfl rfl ?_
  refine TL.asg (.int _ _) rfl rfl rfl ?_
  refine TL.done ?_
  refine TQ.then ?_
  refine TC.seq ?_
  refine TC.seq ?_
  refine TC.region ?_
  refine TL.asg (.int _ _) rfl rfl rfl ?_
  refine TL.done ?_
  refine TQ.then ?_
  refine TC.block ?_
  refine TC.loopK (X := Unit) [0, 1, 2, 3] [0] (fun _u => [(9, .int .i64 ((lo + 1 : Nat) : Int)), (10, .int .i64 0)]) (fun _u => []) (fun _u => True) (fun _u => 0) (()) trivial ⟨rfl, rfl, trivial⟩ trivial (fun _u hI => ?_)
  refine TC.sub (env' := [(9, _), (10, _), (0, _), (1, _), (2, _), (3, _)]) (L' := [(0, _)]) ⟨rfl, rfl, rfl, rfl, rfl, rfl, trivial⟩ ⟨rfl, trivial⟩ ?_
  refine TC.seq ?_
  refine TC.seq ?_
  refine TC.region ?_
  refine TL.mv (.int _ _) rfl rfl rfl ?_
  refine TL.lssT rfl rfl (by decide) rfl rfl ?_
  refine TL.done ?_
  refine TQ.then ?_
  refine TC.condT rfl ?_
  refine TC.skip ?_
  refine TQ.then ?_
  refine TC.seq ?_
  refine TC.block ?_
  refine TC.seq ?_
  refine TC.block ?_
  refine TC.loopK (X := Nat) [0, 1, 2, 3, 10] [0] (fun i => [(9, .int .i64 ((i : Nat) : Int))]) (fun i => []) (fun i => lo + 1 ≤ i ∧ i ≤ hi ∧ scanSorted (ltf cf) d hi i = scanSorted (ltf cf) d hi (lo + 1)) (fun i => hi - i) (lo + 1) ⟨by omega, by omega, rfl⟩ ⟨rfl, trivial⟩ trivial (fun i hI => ?_)
  obtain ⟨ga, gb, g1⟩ := hI
  refine TC.sub (env' := [(9, _), (0, _), (1, _), (2, _), (3, _), (10, _)]) (L' := [(0, _)]) ⟨rfl, rfl, rfl, rfl, rfl, rfl, trivial⟩ ⟨rfl, trivial⟩ ?_
  refine TC.seq ?_
  refine TC.seq ?_
  refine TC.draw [(0, true), (1, true), (2, true), (3, true), (4, true), (5, true), (6, true), (7, true), (8, true), (9, true), (10, true), (11, true), (12, true), (13, true), (14, false), (15, true), (16, true), (17, true)] [0] fc_m (by kernel_rfl) ?_
  refine TL.mv (.int _ _) rfl rfl rfl ?_
  refine TL.mv (.int _ _) rfl rfl rfl ?_
  refine TL.lss rfl rfl rfl rfl (fun q1 => ?_) (fun q1 => ?_)
  · skip
    refine TL.mv (.bool true) rfl rfl rfl ?_
    refine TL.mv _ rfl rfl rfl ?_
    refine TL.mv (.slice _ _ _) rfl rfl rfl ?_
    refine TL.mv (.int _ _) rfl rfl rfl ?_
    refine TL.iaO rfl ha rfl fc_l22_29_9 (by omega) rfl rfl ?_
    refine TL.ldR 0 rfl rfl rowW_of (by omega) fc_a29_9 rfl rfl ?_
    refine TL.mv (.slice _ _ _) rfl rfl rfl ?_
    refine TL.mv (.int _ _) rfl rfl rfl ?_
    refine TL.sub (((i - 1 : Nat) : Int)) rfl rfl (wrN (by omega)) rfl rfl ?_
    refine TL.iaO rfl ha rfl fc_l22_29_9 (by omega) rfl rfl ?_
    refine TL.ldR 0 rfl rfl rowW_of (by omega) fc_a29_9 rfl rfl ?_
    refine TL.callC (c1 := []) (c2 := []) (vs := [_, _]) [] [] rfl (hcmp _ _) ⟨rfl, rfl, trivial⟩ trivial hcb rfl rfl rfl rfl rfl (.cons rfl rfl trivial) ?_
    refine TL.lss rfl rfl rfl rfl (fun q2 => ?_) (fun q2 => ?_)
    · skip
      refine TL.not true false rfl rfl rfl rfl ?_
      refine TL.pickT (.bool false) rfl rfl rfl rfl ?_
      refine TL.done ?_
      refine TQ.then ?_
      refine TC.condF rfl ?_
      refine TC.exit ?_
      refine TQ.thenExit ?_
      refine TQ.thenExit ?_
      refine TQ.blockHere ?_
      refine TQ.then ?_
      refine TC.seq ?_
      refine TC.seq ?_
      refine TC.region ?_
      refine TL.mv (.int _ _) rfl rfl rfl ?_
      refine TL.mv (.int _ _) rfl rfl rfl ?_
      refine TL.eql rfl rfl rfl rfl (fun q3 => ?_) (fun q3 => ?_)
      · skip
        refine TL.done ?_
        refine TQ.then ?_
        refine TC.condT rfl ?_
        refine TC.seq ?_
        refine TC.region ?_
        refine TL.asg (.bool true) rfl rfl rfl ?_
        refine TL.done ?_
        refine TQ.then ?_
        refine TC.ret ?_
        refine TQ.thenRet ?_
        refine TQ.blockRet ?_
        refine TQ.thenRet ?_
        refine TQ.thenRet ?_
        refine TQ.blockRet ?_
        refine TQ.thenRet ?_
        refine FQ.ret1 (v := (.bool true)) (Bs := [_]) [0] rfl rfl rfl ⟨rfl, trivial⟩ ?_
        have e : scanSorted (ltf cf) d hi (lo + 1) = i := g1.symm.trans (scanSorted_stop (by first | exact .inl (by omega) | exact .inr (ltT (by assumption))))
        have e2 : partialInsertionSort (ltf cf) d lo hi = (d, decide (i = hi)) := by
          unfold partialInsertionSort; rw [partialIns]; dsimp only; rw [e]; by_cases h : i = hi
          · rw [if_pos h, decide_eq_true h]
          · rw [if_neg h, if_pos (by omega), decide_eq_false h]
        exact ⟨(by rw [e2]; by_cases h : i = hi <;> simp [h] <;> omega), by rw [e2]⟩
      · skip
        refine TL.done ?_
        refine TQ.then ?_
        refine TC.condF rfl ?_
        refine TC.skip ?_
        refine TQ.then ?_
        refine TC.seq ?_
        refine TC.seq ?_
        refine TC.region ?_
        refine TL.mv (.int _ _) rfl rfl rfl ?_
        refine TL.mv (.int _ _) rfl rfl rfl ?_
        refine TL.sub (((hi - lo : Nat) : Int)) rfl rfl (wrN (by omega)) rfl rfl ?_
        refine TL.lssT rfl rfl (by omega) rfl rfl ?_
        refine TL.done ?_
        refine TQ.then ?_
        refine TC.condT rfl ?_
        refine TC.seq ?_
        refine TC.region ?_
        refine TL.asg (.bool false) rfl rfl rfl ?_
        refine TL.done ?_
        refine TQ.then ?_
        refine TC.ret ?_
        refine TQ.thenRet ?_
        refine TQ.blockRet ?_
        refine TQ.thenRet ?_
        refine TQ.thenRet ?_
        refine TQ.blockRet ?_
        refine TQ.thenRet ?_
        refine FQ.ret1 (v := (.bool false)) (Bs := [_]) [0] rfl rfl rfl ⟨rfl, trivial⟩ ?_
        have e : scanSorted (ltf cf) d hi (lo + 1) = i := g1.symm.trans (scanSorted_stop (by first | exact .inl (by omega) | exact .inr (ltT (by assumption))))
        have e2 : partialInsertionSort (ltf cf) d lo hi = (d, decide (i = hi)) := by
          unfold partialInsertionSort; rw [partialIns]; dsimp only; rw [e]; by_cases h : i = hi
          · rw [if_pos h, decide_eq_true h]
          · rw [if_neg h, if_pos (by omega), decide_eq_false h]
        exact ⟨(by rw [e2]; by_cases h : i = hi <;> simp [h] <;> omega), by rw [e2]⟩
    · skip
      refine TL.not false true rfl rfl rfl rfl ?_
      refine TL.pickT (.bool true) rfl rfl rfl rfl ?_
      refine TL.done ?_
      refine TQ.then ?_
      refine TC.condT rfl ?_
      refine TC.skip ?_
      refine TQ.then ?_
      refine TC.block ?_
      refine TC.region ?_
      refine TL.mv (.int _ _) rfl rfl rfl ?_
      refine TL.add (((i + 1 : Nat) : Int)) rfl rfl (wrN (by omega)) rfl rfl ?_
      refine TL.asg (.int _ _) rfl rfl rfl ?_
      refine TL.done ?_
      refine TQ.inBlock ?_
      refine TQ.roundK (i + 1) ⟨⟨by omega, by omega, (scanSorted_go (d := d) (by omega) (ltF (by assumption))).trans g1⟩, by omega⟩ ⟨rfl, trivial⟩ trivial (.cons rfl rfl (.cons rfl rfl (.cons rfl rfl (.cons rfl rfl (.cons rfl rfl trivial))))) (.cons rfl rfl trivial)
  · skip
    refine TL.mv (.bool false) rfl rfl rfl ?_
    refine TL.off rfl rfl ?_
    refine TL.off rfl rfl ?_
    refine TL.off rfl rfl ?_
    refine TL.off rfl rfl ?_
    refine TL.off rfl rfl ?_
    refine TL.off rfl rfl ?_
    refine TL.off rfl rfl ?_
    refine TL.off rfl rfl ?_
    refine TL.off rfl rfl ?_
    refine TL.off rfl rfl ?_
    refine TL.off rfl rfl ?_
    refine TL.off rfl rfl ?_
    refine TL.off rfl rfl ?_
    refine TL.pickF (.bool false) rfl rfl rfl rfl ?_
    refine TL.done ?_
    refine TQ.then ?_
    refine TC.condF rfl ?_
    refine TC.exit ?_
    refine TQ.thenExit ?_
    refine TQ.thenExit ?_
    refine TQ.blockHere ?_
    refine TQ.then ?_
    refine TC.seq ?_
    refine TC.seq ?_
    refine TC.region ?_
    refine TL.mv (.int _ _) rfl rfl rfl ?_
    refine TL.mv (.int _ _) rfl rfl rfl ?_
    refine TL.eql rfl rfl rfl rfl (fun q2 => ?_) (fun q2 => ?_)
    · skip
      refine TL.done ?_
      refine TQ.then ?_
      refine TC.condT rfl ?_
      refine TC.seq ?_
      refine TC.region ?_
      refine TL.asg (.bool true) rfl rfl rfl ?_
      refine TL.done ?_
      refine TQ.then ?_
      refine TC.ret ?_
      refine TQ.thenRet ?_
      refine TQ.blockRet ?_
      refine TQ.thenRet ?_
      refine TQ.thenRet ?_
      refine TQ.blockRet ?_
      refine TQ.thenRet ?_
      refine FQ.ret1 (v := (.bool true)) (Bs := [_]) [0] rfl rfl rfl ⟨rfl, trivial⟩ ?_
      have e : scanSorted (ltf cf) d hi (lo + 1) = i := g1.symm.trans (scanSorted_stop (by first | exact .inl (by omega) | exact .inr (ltT (by assumption))))
      have e2 : partialInsertionSort (ltf cf) d lo hi = (d, decide (i = hi)) := by
        unfold partialInsertionSort; rw [partialIns]; dsimp only; rw [e]; by_cases h : i = hi
        · rw [if_pos h, decide_eq_true h]
        · rw [if_neg h, if_pos (by omega), decide_eq_false h]
      exact ⟨(by rw [e2]; by_cases h : i = hi <;> simp [h] <;> omega), by rw [e2]⟩
    · skip
      refine TL.done ?_
      refine TQ.then ?_
      refine TC.condF rfl ?_
      refine TC.skip ?_
      refine TQ.then ?_
      refine TC.seq ?_
      refine TC.seq ?_
      refine TC.region ?_
      refine TL.mv (.int _ _) rfl rfl rfl ?_
      refine TL.mv (.int _ _) rfl rfl rfl ?_
      refine TL.sub (((hi - lo : Nat) : Int)) rfl rfl (wrN (by omega)) rfl rfl ?_
      refine TL.lssT rfl rfl (by omega) rfl rfl ?_
      refine TL.done ?_
      refine TQ.then ?_
      refine TC.condT rfl ?_
      refine TC.seq ?_
      refine TC.region ?_
      refine TL.asg (.bool false) rfl rfl rfl ?_
      refine TL.done ?_
      refine TQ.then ?_
      refine TC.ret ?_
      refine TQ.thenRet ?_
      refine TQ.blockRet ?_
      refine TQ.thenRet ?_
      refine TQ.thenRet ?_
      refine TQ.blockRet ?_
      refine TQ.thenRet ?_
      refine FQ.ret1 (v := (.bool false)) (Bs := [_]) [0] rfl rfl rfl ⟨rfl, trivial⟩ ?_
      have e : scanSorted (ltf cf) d hi (lo + 1) = i := g1.symm.trans (scanSorted_stop (by first | exact .inl (by omega) | exact .inr (ltT (by assumption))))
      have e2 : partialInsertionSort (ltf cf) d lo hi = (d, decide (i = hi)) := by
        unfold partialInsertionSort; rw [partialIns]; dsimp only; rw [e]; by_cases h : i = hi
        · rw [if_pos h, decide_eq_true h]
        · rw [if_neg h, if_pos (by omega), decide_eq_false h]
      exact ⟨(by rw [e2]; by_cases h : i = hi <;> simp [h] <;> omega), by rw [e2]⟩

set_option maxHeartbeats 4000000 in
theorem median_ok {a : Option Addr} {b off n c g : Nat} {d : Array Ans} {cf : Ans → Ans → Int} (ha : 0 < n → a = some ⟨b, off, none⟩) (hn : n ≤ 1000) (hcb : callB Try.prog g = true) (hcmp : ∀ x y, FnD Try.prog g [.agg (encA x).toArray, .agg (encA y).toArray] [] (.int .i64 (cf x y)) []) {p q r s bs : Nat} (hp : p < n) (hq : q < n) (hr : r < n) (hs : s ≤ 100) : FnD Try.prog 48 [.slice a n c, .int .i64 ((p : Nat) : Int), .int .i64 ((q : Nat) : Int), .int .i64 ((r : Nat) : Int), .pointer (some ⟨bs, 0, none⟩), .func (.func g) #[] #[]] [rw9 b off n d, pt bs (.cells #[.int .i64 ((s : Nat) : Int)] 3)] (.int .i64 (((median (ltf cf) d p q r s).1 : Nat) : Int)) [rw9 b off n (d), pt bs (.cells #[.int .i64 (((median (ltf cf) d p q r s).2 : Nat) : Int)] 3)] := by
  have b1 := (order2_bd (lt := ltf cf) (d := d) (s := s) hp hq)
  have b2 := (order2_bd (lt := ltf cf) (d := d) (s := (order2 (ltf cf) d p q s).2.2) (order2_bd (lt := ltf cf) (d := d) (s := s) hp hq).2.1 hr)
  refine Fn.enter (Try.func48) rfl rfl (fun w0 R => ?_)
  refine TC.seq ?_
  refine TC.region ?_
  refine TL.asg (.int _ _) rfl rfl rfl ?_
  refine TL.done ?_
  refine TQ.then ?_
  refine TC.seq ?_
  refine TC.region ?_
  refine TL.mv (.slice _ _ _) rfl rfl rfl ?_
  refine TL.mv (.int _ _) rfl rfl rfl ?_
  refine TL.mv (.int _ _) rfl rfl rfl ?_
  refine TL.mv (.pointer (some ⟨_, _, none⟩)) rfl rfl rfl ?_
  refine TL.mv _ rfl rfl rfl ?_
  refine TL.callD [0, 1] [0, 1] (order2_ok ha hn hcb hcmp hp hq (by omega)) ⟨rfl, rfl, rfl, rfl, rfl, trivial⟩ ⟨rfl, rfl, trivial⟩ fc_c49 rfl rfl rfl rfl rfl trivial ?_
  refine TL.mv (.tuple _) rfl rfl rfl ?_
  refine TL.ext (.int _ _) rfl rfl rfl rfl ?_
  refine TL.ext (.int _ _) rfl rfl rfl rfl ?_
  refine TL.asg (.int _ _) rfl rfl rfl ?_
  refine TL.asg (.int _ _) rfl rfl rfl ?_
  refine TL.done ?_
  refine TQ.then ?_
  refine TC.seq ?_
  refine TC.region ?_
  refine TL.mv (.slice _ _ _) rfl rfl rfl ?_
  refine TL.mv (.int _ _) rfl rfl rfl ?_
  refine TL.mv (.int _ _) rfl rfl rfl ?_
  refine TL.mv (.pointer (some ⟨_, _, none⟩)) rfl rfl rfl ?_
  refine TL.mv _ rfl rfl rfl ?_
  refine TL.callD [0, 1] [0, 1] (order2_ok ha hn hcb hcmp b1.2.1 hr (by omega)) ⟨rfl, rfl, rfl, rfl, rfl, trivial⟩ ⟨rfl, rfl, trivial⟩ fc_c49 rfl rfl rfl rfl rfl trivial ?_
  refine TL.mv (.tuple _) rfl rfl rfl ?_
  refine TL.ext (.int _ _) rfl rfl rfl rfl ?_
  refine TL.ext (.int _ _) rfl rfl rfl rfl ?_
  refine TL.asg (.int _ _) rfl rfl rfl ?_
  refine TL.asg (.int _ _) rfl rfl rfl ?_
  refine TL.done ?_
  refine TQ.then ?_
  refine TC.seq ?_
  refine TC.region ?_
  refine TL.mv (.slice _ _ _) rfl rfl rfl ?_
  refine TL.mv (.int _ _) rfl rfl rfl ?_
  refine TL.mv (.int _ _) rfl rfl rfl ?_
  refine TL.mv (.pointer (some ⟨_, _, none⟩)) rfl rfl rfl ?_
  refine TL.mv _ rfl rfl rfl ?_
  refine TL.callD [0, 1] [0, 1] (order2_ok ha hn hcb hcmp b1.1 b2.1 (by omega)) ⟨rfl, rfl, rfl, rfl, rfl, trivial⟩ ⟨rfl, rfl, trivial⟩ fc_c49 rfl rfl rfl rfl rfl trivial ?_
  refine TL.mv (.tuple _) rfl rfl rfl ?_
  refine TL.ext (.int _ _) rfl rfl rfl rfl ?_
  refine TL.ext (.int _ _) rfl rfl rfl rfl ?_
  refine TL.asg (.int _ _) rfl rfl rfl ?_
  refine TL.asg (.int _ _) rfl rfl rfl ?_
  refine TL.done ?_
  refine TQ.then ?_
  refine TC.seq ?_
  refine TC.region ?_
  refine TL.mv (.int _ _) rfl rfl rfl ?_
  refine TL.asg (.int _ _) rfl rfl rfl ?_
  refine TL.done ?_
  refine TQ.then ?_
  refine TC.ret ?_
  refine FQ.ret1 (v := (.int _ _)) (Bs := [_, pt bs (.cells #[.int .i64 (((median (ltf cf) d p q r s).2 : Nat) : Int)] 3)]) [0, 1] rfl rfl rfl ⟨rfl, rfl, trivial⟩ ?_
  exact ⟨rfl, rfl⟩

set_option maxHeartbeats 4000000 in
theorem choose_ok {a : Option Addr} {b off n c g : Nat} {d : Array Ans} {cf : Ans → Ans → Int} (ha : 0 < n → a = some ⟨b, off, none⟩) (hn : n ≤ 1000) (hcb : callB Try.prog g = true) (hcmp : ∀ x y, FnD Try.prog g [.agg (encA x).toArray, .agg (encA y).toArray] [] (.int .i64 (cf x y)) []) {lo hi : Nat} (hlo : lo + 8 ≤ hi) (hhi : hi ≤ n) (hn4 : n ≤ 40) : FnD Try.prog 36 [.slice a n c, .int .i64 ((lo : Nat) : Int), .int .i64 ((hi : Nat) : Int), .func (.func g) #[] #[]] [rw9 b off n d] (.tuple #[.int .i64 (((choosePivot (ltf cf) d lo hi).1 : Nat) : Int), .int .i64 (hintI (choosePivot (ltf cf) d lo hi).2)]) [rw9 b off n (d)] := by
  refine Fn.enter (Try.func36) rfl rfl (fun w0 R => ?_)
  refine TC.seq ?_
  refine TC.region ?_
  refine TL.asg (.int _ _) rfl rfl rfl ?_
  refine TL.asg (.int _ _) rfl rfl rfl ?_
  refine TL.done ?_
  refine TQ.then ?_
  refine TC.seq ?_
  refine TC.region ?_
  refine TL.mv (.int _ _) rfl rfl rfl ?_
  refine TL.mv (.int _ _) rfl rfl rfl ?_
  refine TL.sub (((hi - lo : Nat) : Int)) rfl rfl (wrN (by omega)) rfl rfl ?_
  refine TL.asg (.int _ _) rfl rfl rfl ?_
  refine TL.done ?_
  refine TQ.then ?_
  refine TC.seq ?_
  refine TC.region ?_
  refine TL.alloc 1 (cs := #[.int .i64 0]) fc_z3 rfl rfl rfl (fun _ => trivial) (fun bk1 => ?_)
  refine TL.done ?_
  refine TQ.then ?_
  refine TC.seq ?_
  refine TC.region ?_
  refine TL.mv (.int _ _) rfl rfl rfl ?_
  refine TL.mv (.int _ _) rfl rfl rfl ?_
  refine TL.quo ((((hi - lo) / 4 : Nat) : Int)) rfl rfl (by omega) (quoN (k := 4) (by omega)) rfl rfl ?_
  refine TL.mul ((((hi - lo) / 4 * 1 : Nat) : Int)) rfl rfl (wrN (by omega)) rfl rfl ?_
  refine TL.add (((lo + (hi - lo) / 4 * 1 : Nat) : Int)) rfl rfl (wrN (by omega)) rfl rfl ?_
  refine TL.asg (.int _ _) rfl rfl rfl ?_
  refine TL.done ?_
  refine TQ.then ?_
  refine TC.seq ?_
  refine TC.region ?_
  refine TL.mv (.int _ _) rfl rfl rfl ?_
  refine TL.mv (.int _ _) rfl rfl rfl ?_
  refine TL.quo ((((hi - lo) / 4 : Nat) : Int)) rfl rfl (by omega) (quoN (k := 4) (by omega)) rfl rfl ?_
  refine TL.mul ((((hi - lo) / 4 * 2 : Nat) : Int)) rfl rfl (wrN (by omega)) rfl rfl ?_
  refine TL.add (((lo + (hi - lo) / 4 * 2 : Nat) : Int)) rfl rfl (wrN (by omega)) rfl rfl ?_
  refine TL.asg (.int _ _) rfl rfl rfl ?_
  refine TL.done ?_
  refine TQ.then ?_
  refine TC.seq ?_
  refine TC.region ?_
  refine TL.mv (.int _ _) rfl rfl rfl ?_
  refine TL.mv (.int _ _) rfl rfl rfl ?_
  refine TL.quo ((((hi - lo) / 4 : Nat) : Int)) rfl rfl (by omega) (quoN (k := 4) (by omega)) rfl rfl ?_
  refine TL.mul ((((hi - lo) / 4 * 3 : Nat) : Int)) rfl rfl (wrN (by omega)) rfl rfl ?_
  refine TL.add (((lo + (hi - lo) / 4 * 3 : Nat) : Int)) rfl rfl (wrN (by omega)) rfl rfl ?_
  refine TL.asg (.int _ _) rfl rfl rfl ?_
  refine TL.done ?_
  refine TQ.then ?_
  refine TC.seq ?_
  refine TC.seq ?_
  refine TC.region ?_
  refine TL.mv (.int _ _) rfl rfl rfl ?_
  refine TL.geqT rfl rfl (by omega) rfl rfl ?_
  refine TL.done ?_
  refine TQ.then ?_
  refine TC.condT rfl ?_
  refine TC.seq ?_
  refine TC.seq ?_
  refine TC.region ?_
  refine TL.mv (.int _ _) rfl rfl rfl ?_
  refine TL.geqF rfl rfl (by omega) rfl rfl ?_
  refine TL.done ?_
  refine TQ.then ?_
  refine TC.condF rfl ?_
  refine TC.skip ?_
  refine TQ.then ?_
  refine TC.region ?_
  refine TL.mv (.slice _ _ _) rfl rfl rfl ?_
  refine TL.mv (.int _ _) rfl rfl rfl ?_
  refine TL.mv (.int _ _) rfl rfl rfl ?_
  refine TL.mv (.int _ _) rfl rfl rfl ?_
  refine TL.mv _ rfl rfl rfl ?_
  refine TL.callD [0, 1] [0, 1] (median_ok (s := 0) ha hn hcb hcmp (by omega) (by omega) (by omega) (by omega)) ⟨rfl, rfl, rfl, rfl, rfl, rfl, trivial⟩ ⟨rfl, rfl, trivial⟩ fc_c48 rfl rfl rfl rfl rfl trivial ?_
  refine TL.asg (.int _ _) rfl rfl rfl ?_
  refine TL.done ?_
  refine TQ.then ?_
  refine TC.seq ?_
  refine TC.region ?_
  refine TL.ld 1 (.int _ _) rfl rfl rfl fc_s3 rfl rfl ?_
  refine TL.done ?_
  refine TQ.then ?_
  refine TC.block ?_
  refine TC.seq ?_
  refine TC.region ?_
  refine TL.eql rfl rfl rfl rfl (fun q1 => ?_) (fun q1 => ?_)
  · skip
    refine TL.asg (.bool true) rfl rfl rfl ?_
    refine TL.done ?_
    refine TQ.then ?_
    refine TC.condT rfl ?_
    refine TC.seq ?_
    refine TC.region ?_
    refine TL.mv (.int _ _) rfl rfl rfl ?_
    refine TL.asg (.int _ _) rfl rfl rfl ?_
    refine TL.asg (.int _ _) rfl rfl rfl ?_
    refine TL.done ?_
    refine TQ.then ?_
    refine TC.ret ?_
    refine TQ.blockRet ?_
    refine FQ.ret2 (v := (.int _ _)) (x := (.int _ _)) (Bs := [_]) [0] rfl rfl rfl rfl ⟨rfl, trivial⟩ ?_
    have e : choosePivot (ltf cf) d lo hi = ((median (ltf cf) d (lo + (hi - lo) / 4 * 1) (lo + (hi - lo) / 4 * 2) (lo + (hi - lo) / 4 * 3) 0).1, .increasing) := by
      unfold choosePivot; dsimp only; rw [if_pos (by omega), if_neg (by omega)]; rw [if_pos (by omega)]
    exact ⟨by rw [e] <;> rfl, by first | rfl | rw [e]⟩
  · skip
    refine TL.asg (.bool false) rfl rfl rfl ?_
    refine TL.done ?_
    refine TQ.then ?_
    refine TC.condF rfl ?_
    refine TC.seq ?_
    refine TC.region ?_
    refine TL.eql rfl rfl rfl rfl (fun q2 => ?_) (fun q2 => ?_)
    · skip
      refine TL.asg (.bool true) rfl rfl rfl ?_
      refine TL.done ?_
      refine TQ.then ?_
      refine TC.condT rfl ?_
      refine TC.seq ?_
      refine TC.region ?_
      refine TL.mv (.int _ _) rfl rfl rfl ?_
      refine TL.asg (.int _ _) rfl rfl rfl ?_
      refine TL.asg (.int _ _) rfl rfl rfl ?_
      refine TL.done ?_
      refine TQ.then ?_
      refine TC.ret ?_
      refine TQ.blockRet ?_
      refine FQ.ret2 (v := (.int _ _)) (x := (.int _ _)) (Bs := [_]) [0] rfl rfl rfl rfl ⟨rfl, trivial⟩ ?_
      have e : choosePivot (ltf cf) d lo hi = ((median (ltf cf) d (lo + (hi - lo) / 4 * 1) (lo + (hi - lo) / 4 * 2) (lo + (hi - lo) / 4 * 3) 0).1, .decreasing) := by
        unfold choosePivot; dsimp only; rw [if_pos (by omega), if_neg (by omega)]; rw [if_neg (by omega), if_pos (by omega)]
      exact ⟨by rw [e] <;> rfl, by first | rfl | rw [e]⟩
    · skip
      refine TL.asg (.bool false) rfl rfl rfl ?_
      refine TL.done ?_
      refine TQ.then ?_
      refine TC.condF rfl ?_
      refine TC.seq ?_
      refine TC.region ?_
      refine TL.mv (.int _ _) rfl rfl rfl ?_
      refine TL.asg (.int _ _) rfl rfl rfl ?_
      refine TL.asg (.int _ _) rfl rfl rfl ?_
      refine TL.done ?_
      refine TQ.then ?_
      refine TC.ret ?_
      refine TQ.blockRet ?_
      refine FQ.ret2 (v := (.int _ _)) (x := (.int _ _)) (Bs := [_]) [0] rfl rfl rfl rfl ⟨rfl, trivial⟩ ?_
      have e : choosePivot (ltf cf) d lo hi = ((median (ltf cf) d (lo + (hi - lo) / 4 * 1) (lo + (hi - lo) / 4 * 2) (lo + (hi - lo) / 4 * 3) 0).1, .unknown) := by
        unfold choosePivot; dsimp only; rw [if_pos (by omega), if_neg (by omega)]; rw [if_neg (by omega), if_neg (by omega)]
      exact ⟨by rw [e] <;> rfl, by first | rfl | rw [e]⟩


end Go.Proofs.Ytaccjjpfmnbaaaa
