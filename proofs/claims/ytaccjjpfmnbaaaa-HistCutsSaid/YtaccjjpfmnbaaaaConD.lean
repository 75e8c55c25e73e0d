import Derived.Test.YtaccjjpfmnbaaaaConC
set_option linter.unusedVariables false
set_option linter.unusedSimpArgs false
set_option maxRecDepth 20000
namespace Go.Proofs.Ytaccjjpfmnbaaaa
open Go.Eng Go.Sort
set_option maxHeartbeats 4000000 in
theorem cuts_law {a : Option Addr} {b off n c : Nat} {A : Assn} {f : Nat → Ans} (ha : 0 < n → a = some ⟨b, off, none⟩) (hA : RowOf A encA 9 b off n f) {mo : Int} : FnD Try.prog 6 [.slice a n c, .int .i64 mo] [A] (.bool true) [A] := by
  refine Fn.enter (Try.func6) rfl rfl (fun w0 R => ?_)
  refine TC.seq ?_
  refine TC.region ?_
  refine TL.asg (.bool false) rfl rfl rfl ?_
  refine TL.done ?_
  refine TQ.then ?_
  refine TC.seq ?_
  refine TC.seq ?_
  refine TC.region ?_
  refine TL.mv (.slice _ _ _) rfl rfl rfl ?_
  refine TL.lenS rfl fc_l22_29_9 rfl rfl ?_
  refine TL.gtr rfl rfl rfl rfl (fun q1 => ?_) (fun q1 => ?_)
  · skip
    refine TL.mv (.bool true) rfl rfl rfl ?_
    refine TL.off rfl rfl ?_
    refine TL.off rfl rfl ?_
    refine TL.off rfl rfl ?_
    refine TL.pickT (.bool true) rfl rfl rfl rfl ?_
    refine TL.done ?_
    refine TQ.then ?_
    refine TC.condT rfl ?_
    refine TC.seq ?_
    refine TC.region ?_
    refine TL.callD [] [] awake_ok trivial trivial fc_c9 rfl rfl rfl rfl rfl trivial ?_
    refine TL.asg (.bool true) rfl rfl rfl ?_
    refine TL.done ?_
    refine TQ.then ?_
    refine TC.ret ?_
    refine TQ.thenRet ?_
    refine FQ.ret1 (v := (.bool true)) (Bs := [A]) [0] rfl rfl rfl ⟨rfl, trivial⟩ ?_
    exact ⟨rfl, rfl⟩
  · skip
    refine TL.mv (.bool false) rfl rfl rfl ?_
    refine TL.mv (.slice _ _ _) rfl rfl rfl ?_
    refine TL.callD [0] [0] (hright_ok ha (by omega) hA) ⟨rfl, trivial⟩ ⟨rfl, trivial⟩ fc_c7 rfl rfl rfl rfl rfl trivial ?_
    refine TL.cases rfl (fun q2 => ?_) (fun q2 => ?_)
    · skip
      refine TL.not true false rfl rfl rfl rfl ?_
      refine TL.pickF (.bool false) rfl rfl rfl rfl ?_
      refine TL.done ?_
      refine TQ.then ?_
      refine TC.condF rfl ?_
      refine TC.skip ?_
      refine TQ.then ?_
      refine TC.seq ?_
      refine TC.region ?_
      refine TL.asg (.slice none 0 0) rfl rfl rfl ?_
      refine TL.done ?_
      refine TQ.then ?_
      refine TC.seq ?_
      refine TC.seq ?_
      refine TC.nilA 1 (A := ownA encA 9 29 (.slice none 0 0) #[]) (.inl ⟨rfl, rfl⟩) ?_
      refine TC.region ?_
      refine TL.mv (.slice _ _ _) rfl rfl rfl ?_
      refine TL.lenS rfl fc_l22_29_9 rfl rfl ?_
      refine TL.mv (.int _ _) rfl rfl rfl ?_
      refine TL.done ?_
      refine TQ.then ?_
      refine TC.block ?_
      refine TC.loopK (X := Nat × Value) [0, 1, 4, 17, 18] [0] (fun ⟨i, v⟩ => [(19, .int .i64 ((i : Nat) : Int)), (5, v)]) (fun ⟨i, v⟩ => [(1, ownA encA 9 29 v (cutL mo f i).toArray)]) (fun ⟨i, v⟩ => i ≤ n) (fun ⟨i, v⟩ => n - i) ((0, .slice none 0 0)) (Nat.zero_le _) ⟨rfl, rfl, trivial⟩ ⟨rfl, trivial⟩ (fun y hI => ?_)
      obtain ⟨i, v⟩ := y
      replace hI : i ≤ n := hI
      refine TC.sub (env' := [(19, _), (5, _), (0, _), (1, _), (4, _), (17, _), (18, _)]) (L' := [(1, _), (0, _)]) ⟨rfl, rfl, rfl, rfl, rfl, rfl, rfl, trivial⟩ ⟨rfl, rfl, trivial⟩ ?_
      refine TC.seq ?_
      refine TC.region ?_
      refine TL.lss rfl rfl rfl rfl (fun q3 => ?_) (fun q3 => ?_)
      · skip
        refine TL.done ?_
        refine TQ.then ?_
        refine TC.seq ?_
        refine TC.condT rfl ?_
        refine TC.skip ?_
        refine TQ.then ?_
        refine TC.seq ?_
        refine TC.block ?_
        refine TC.seq ?_
        refine TC.region ?_
        refine TL.iaO rfl ha rfl fc_l22_29_9 (by omega) rfl rfl ?_
        refine TL.ldRx 0 [_, _, _, _, _, _, _, _, _] rfl rfl hA (by omega) rfl fc_a29_9 rfl rfl ?_
        refine TL.alloc 2 (cs := #[.int .i64 0, .int .i64 0, .int .i64 0, .int .i64 0, .int .i64 0, .int .i64 0, .int .i64 0, .bool false, .int .i64 0]) fc_z29 rfl rfl rfl (fun _ => trivial) (fun bk2 => ?_)
        refine TL.stW 2 9 [_, _, _, _, _, _, _, _, _] rfl rfl rfl rfl rfl rfl fc_a29_9 rfl rfl trivial ?_
        refine TL.done ?_
        refine TQ.then ?_
        refine TC.seq ?_
        refine TC.seq ?_
        refine TC.region ?_
        refine TL.fa 4 rfl fc_f29_2_4 rfl rfl ?_
        refine TL.ld 2 (.int _ _) rfl rfl rfl fc_s3 rfl rfl ?_
        refine TL.mv (.int _ _) rfl rfl rfl ?_
        refine TL.gtr rfl rfl rfl rfl (fun q4 => ?_) (fun q4 => ?_)
        · skip
          refine TL.done ?_
          refine TQ.then ?_
          refine TC.condT rfl ?_
          refine TC.exit ?_
          refine TQ.thenExit ?_
          refine TQ.blockHere ?_
          refine TQ.then ?_
          refine TC.region ?_
          refine TL.add (((i + 1 : Nat) : Int)) rfl rfl (wrN (by omega)) rfl rfl ?_
          refine TL.mv (.int _ _) rfl rfl rfl ?_
          refine TL.done ?_
          refine TQ.roundK ((i + 1, _)) ⟨(show i + 1 ≤ n by omega), (show n - (i + 1) < n - i by omega)⟩ ⟨rfl, rfl, trivial⟩ ⟨congrArg (fun z => some (ownA encA 9 29 _ z)) (cutA_0 (by omega)), trivial⟩ (.cons rfl rfl (.cons rfl rfl (.cons rfl rfl (.cons rfl rfl (.cons rfl rfl trivial))))) (.cons rfl rfl trivial)
        · skip
          refine TL.done ?_
          refine TQ.then ?_
          refine TC.condF rfl ?_
          refine TC.skip ?_
          refine TQ.then ?_
          refine TC.seq ?_
          refine TC.seq ?_
          refine TC.region ?_
          refine TL.fa 6 rfl fc_f29_4_6 rfl rfl ?_
          refine TL.ld 2 (.int _ _) rfl rfl rfl fc_s3 rfl rfl ?_
          refine TL.mv (.int _ _) rfl rfl rfl ?_
          refine TL.gtr rfl rfl rfl rfl (fun q5 => ?_) (fun q5 => ?_)
          · skip
            refine TL.done ?_
            refine TQ.then ?_
            refine TC.condT rfl ?_
            refine TC.region ?_
            refine TL.fa 6 rfl fc_f29_4_6 rfl rfl ?_
            refine TL.st 2 #[_, _, _, _, _, _, _, _, _] (.int _ _) rfl rfl rfl rfl rfl rfl fc_s3 rfl rfl trivial ?_
            refine TL.fa 5 rfl fc_f29_3_5 rfl rfl ?_
            refine TL.st 2 #[_, _, _, _, _, _, _, _, _] (.int _ _) rfl rfl rfl rfl rfl rfl fc_s3 rfl rfl trivial ?_
            refine TL.fa 7 rfl fc_f29_5_7 rfl rfl ?_
            refine TL.st 2 #[_, _, _, _, _, _, _, _, _] (.bool false) rfl rfl rfl rfl rfl rfl fc_s4 rfl rfl trivial ?_
            refine TL.fa 8 rfl fc_f29_6_8 rfl rfl ?_
            refine TL.st 2 #[_, _, _, _, _, _, _, _, _] (.int _ _) rfl rfl rfl rfl rfl rfl fc_s27 rfl rfl trivial ?_
            refine TL.done ?_
            refine TQ.then ?_
            refine TC.region ?_
            refine TL.mv _ rfl rfl rfl ?_
            refine TL.ldA 2 9 [_, _, _, _, _, _, _, _, _] rfl rfl rfl fc_a29_9 rfl rfl ?_
            refine TL.bsN 3 [_] (encA (cutZ (f i))) fc_l22_29_9 fc_z29 ⟨rfl, trivial⟩ rfl (lit1 rfl) rfl rfl (fun bk3 => ⟨trivial, ?_⟩)
            refine TL.appS 1 3 (d2 := #[cutZ (f i)]) rfl (rfl) rfl (fun _ => rfl) rfl rfl (row1 rfl) encA_one (by decide) fc_k22_29_9 (by have := cutL_len mo f i; simp; omega) rfl rfl (fun v4 => ⟨trivial, ?_⟩)
            refine TL.asg _ rfl rfl rfl ?_
            refine TL.done ?_
            refine TQ.inBlock ?_
            refine TQ.then ?_
            refine TC.region ?_
            refine TL.add (((i + 1 : Nat) : Int)) rfl rfl (wrN (by omega)) rfl rfl ?_
            refine TL.mv (.int _ _) rfl rfl rfl ?_
            refine TL.done ?_
            refine TQ.roundK ((i + 1, _)) ⟨(show i + 1 ≤ n by omega), (show n - (i + 1) < n - i by omega)⟩ ⟨rfl, rfl, trivial⟩ ⟨congrArg (fun z => some (ownA encA 9 29 _ z)) (cutA_1 (by omega) (by omega)), trivial⟩ (.cons rfl rfl (.cons rfl rfl (.cons rfl rfl (.cons rfl rfl (.cons rfl rfl trivial))))) (.cons rfl rfl trivial)
          · skip
            refine TL.done ?_
            refine TQ.then ?_
            refine TC.condF rfl ?_
            refine TC.skip ?_
            refine TQ.then ?_
            refine TC.region ?_
            refine TL.mv _ rfl rfl rfl ?_
            refine TL.ldA 2 9 [_, _, _, _, _, _, _, _, _] rfl rfl rfl fc_a29_9 rfl rfl ?_
            refine TL.bsN 5 [_] (encA (f i)) fc_l22_29_9 fc_z29 ⟨rfl, trivial⟩ rfl (lit1 rfl) rfl rfl (fun bk5 => ⟨trivial, ?_⟩)
            refine TL.appS 1 5 (d2 := #[f i]) rfl (rfl) rfl (fun _ => rfl) rfl rfl (row1 rfl) encA_one (by decide) fc_k22_29_9 (by have := cutL_len mo f i; simp; omega) rfl rfl (fun v6 => ⟨trivial, ?_⟩)
            refine TL.asg _ rfl rfl rfl ?_
            refine TL.done ?_
            refine TQ.inBlock ?_
            refine TQ.then ?_
            refine TC.region ?_
            refine TL.add (((i + 1 : Nat) : Int)) rfl rfl (wrN (by omega)) rfl rfl ?_
            refine TL.mv (.int _ _) rfl rfl rfl ?_
            refine TL.done ?_
            refine TQ.roundK ((i + 1, _)) ⟨(show i + 1 ≤ n by omega), (show n - (i + 1) < n - i by omega)⟩ ⟨rfl, rfl, trivial⟩ ⟨congrArg (fun z => some (ownA encA 9 29 _ z)) (cutA_2 (by omega) (by omega)), trivial⟩ (.cons rfl rfl (.cons rfl rfl (.cons rfl rfl (.cons rfl rfl (.cons rfl rfl trivial))))) (.cons rfl rfl trivial)
      · skip
        refine TL.done ?_
        refine TQ.then ?_
        refine TC.seq ?_
        refine TC.condF rfl ?_
        refine TC.exit ?_
        refine TQ.thenExit ?_
        refine TQ.thenExit ?_
        refine TQ.blockHere ?_
        refine TQ.then ?_
        refine TC.seq ?_
        obtain rfl : n = i := by omega
        have hlc := cutL_len mo f n
        obtain ⟨hc1, hc2⟩ := cuts_plain (mo := mo) (n := n) (f := f) (by assumption)
        have hkc := kp_len (pr := goesA) (g := (fun j => (cutL mo f n).toArray[j]!)) (j := (cutL mo f n).length)
        refine TC.ownS 1 (sz := (cutL mo f n).length) (by simp) rfl (fun ac bc cc hvc hcc hac => ?_)
        subst hvc
        refine TC.region ?_
        refine TL.mv (.slice _ _ _) rfl rfl rfl ?_
        refine TL.callD [1] [1] (lright_ok (f := (fun j => (cutL mo f n).toArray[j]!)) hac (by omega) rowW_of) ⟨rfl, trivial⟩ ⟨rfl, trivial⟩ fc_c8 rfl rfl rfl rfl rfl trivial ?_
        rw [hc1]
        refine TL.mv (.bool true) rfl rfl rfl ?_
        refine TL.mv (.slice _ _ _) rfl rfl rfl ?_
        refine TL.callD [1] [1] (hright_ok (f := (fun j => (cutL mo f n).toArray[j]!)) hac (by omega) rowW_of) ⟨rfl, trivial⟩ ⟨rfl, trivial⟩ fc_c7 rfl rfl rfl rfl rfl trivial ?_
        rw [hc1]
        refine TL.pickT (.bool true) rfl rfl rfl rfl ?_
        refine TL.mv (.bool true) rfl rfl rfl ?_
        refine TL.mv (.slice _ _ _) rfl rfl rfl ?_
        refine TL.callD [1] [1] (open_ok (f := (fun j => (cutL mo f n).toArray[j]!)) hac (by omega) rowW_of) ⟨rfl, trivial⟩ ⟨rfl, trivial⟩ fc_c12 rfl rfl rfl rfl rfl trivial ?_
        refine TL.geqT rfl rfl (by unfold endL; omega) rfl rfl ?_
        refine TL.pickT (.bool true) rfl rfl rfl rfl ?_
        refine TL.mv (.bool true) rfl rfl rfl ?_
        refine TL.mv (.slice _ _ _) rfl rfl rfl ?_
        refine TL.callD [1] [1] (width_ok (f := (fun j => (cutL mo f n).toArray[j]!)) hac (by omega) rowW_of) ⟨rfl, trivial⟩ ⟨rfl, trivial⟩ fc_c14 rfl rfl rfl rfl rfl trivial ?_
        refine TL.mv (.slice _ _ _) rfl rfl rfl ?_
        refine TL.callD [0] [0] (width_ok ha (by omega) hA) ⟨rfl, trivial⟩ ⟨rfl, trivial⟩ fc_c14 rfl rfl rfl rfl rfl trivial ?_
        refine TL.leqT rfl rfl hc2 rfl rfl ?_
        refine TL.pickT (.bool true) rfl rfl rfl rfl ?_
        refine TL.mv (.bool true) rfl rfl rfl ?_
        refine TL.callD [] [] awake_ok trivial trivial fc_c9 rfl rfl rfl rfl rfl trivial ?_
        refine TL.pickT (.bool true) rfl rfl rfl rfl ?_
        refine TL.asg (.bool true) rfl rfl rfl ?_
        refine TL.done ?_
        refine TQ.then ?_
        refine TC.ret ?_
        refine FQ.ret1 (v := (.bool true)) (Bs := [A]) [0] rfl rfl rfl ⟨rfl, trivial⟩ ?_
        exact ⟨rfl, rfl⟩
    · skip
      refine TL.not false true rfl rfl rfl rfl ?_
      refine TL.pickF (.bool true) rfl rfl rfl rfl ?_
      refine TL.done ?_
      refine TQ.then ?_
      refine TC.condT rfl ?_
      refine TC.seq ?_
      refine TC.region ?_
      refine TL.callD [] [] awake_ok trivial trivial fc_c9 rfl rfl rfl rfl rfl trivial ?_
      refine TL.asg (.bool true) rfl rfl rfl ?_
      refine TL.done ?_
      refine TQ.then ?_
      refine TC.ret ?_
      refine TQ.thenRet ?_
      refine FQ.ret1 (v := (.bool true)) (Bs := [A]) [0] rfl rfl rfl ⟨rfl, trivial⟩ ?_
      exact ⟨rfl, rfl⟩



end Go.Proofs.Ytaccjjpfmnbaaaa
