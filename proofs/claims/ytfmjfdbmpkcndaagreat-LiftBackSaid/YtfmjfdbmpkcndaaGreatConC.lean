import Derived.Test.YtfmjfdbmpkcndaaGreatConB
set_option linter.unusedVariables false
set_option linter.unusedSimpArgs false
set_option maxRecDepth 20000
namespace Go.Proofs.YtfmjfdbmpkcndaaGreat
open Go.Eng Go.Tm
set_option maxHeartbeats 2000000 in
theorem bcells_ok {l : Lay} (hl : l.Ok) {σ : M} {nv : Value} {ca xa : Option Addr} {mr bc offc cn cc bx offx xn xc : Nat} {Acl Ax : Assn} {fc : Nat → Int} {fx : Nat → Nm} {ps : List (Nm × Nat)} (hB : BookOk l σ ca bc offc cn Acl fc xa bx offx xn Ax fx ps) {pr mk : Int → Int} {F : Int → T} (hF : Forest l pr mk σ F) (hlv : ∀ x, l.nd x → ∀ y ∈ (F x).list, (l.node y).1.level = (l.node x).1.level) {ka : Option Addr} {bk nk ck : Nat} {Amk : Assn} {fk : Nat → Int} (hka : 0 < nk → ka = some ⟨bk, 0, none⟩) (hkA : RowOf Amk encI 1 bk 0 nk fk) (hkn : (nk : Int) = l.nodes + 1) (hkv : ∀ x, l.nd x → fk x.toNat = mk x) {wa : Option Addr} {bw wn wc : Nat} {Arw IA : Assn} {W : Array SlV} {Rs : Array T} (hwa : 0 < wn → wa = some ⟨bw, 0, none⟩) (hwA : RowOf Arw encS 1 bw 0 wn (fun j => W[j]!)) (hwn : wn = W.size) (hR : RsOk IA W Rs) {i : Int} (hRt : Rts l σ F i Rs xn)  : FnD Tryz.prog 73 [.agg #[.int .i64 l.V, .int .i64 l.S, .int .i64 l.T, nv, .slice ca cn cc, .map (some mr), .slice xa xn xc], .slice wa wn wc, .int .i64 i, .slice ka nk ck] [Acl, mapA mr nmV natV ps, Ax, Arw, IA, Amk] (.bool true) [Acl, mapA mr nmV natV ps, Ax, Arw, IA, Amk] := by
  have hcn := hB.hcn
  have hxn := hB.hxn
  have hnb := nodes_b hl
  have hcb := cells_b hl
  have hle := hRt.le hF
  have hwz := hR.size
  refine Fn.enter (Tryz.func73) rfl rfl (fun w0 R => ?_)
  refine sA (xB 6 rfl (fun bk6 => (xaf rfl (dA (xf 6 fc_f61_4_6 rfl (xls 6 fc_s58 rfl rfl (xas rfl (dA (xms rfl ?_)))))))))
  refine xms rfl (TL.bld [.slice none 0 0, .slice none 0 0, .slice none 0 0, .slice none 0 0] [(.slice _ _ _), (.slice _ _ _)] [_, _, _, _] fc_z165 fc_q165 ⟨rfl, rfl, trivial⟩ ⟨rfl, rfl⟩ rfl rfl (TL.alloc 7 (cs := #[.slice none 0 0, .slice none 0 0, .slice none 0 0, .slice none 0 0]) fc_z165 rfl rfl rfl (fun _ => trivial) (fun bk7 => (TL.stW 7 4 [_, _, _, _] rfl rfl rfl rfl rfl rfl fc_a165_4 rfl rfl trivial (dS (TC.nilA 8 (A := ownA encU 1 110 (.slice none 0 0) #[]) (.inl ⟨rfl, rfl⟩) (TC.nilA 9 (A := ownA encB 1 4 (.slice none 0 0) #[]) (.inl ⟨rfl, rfl⟩) (TC.region (xf 1 fc_f165_1_1 rfl ?_)))))))))
  refine xlv 7 fc_s24 rfl rfl (TL.bsN 10 [_] (encU 0) fc_l24_110_1 fc_z110 ⟨rfl, trivial⟩ rfl (lit1 rfl) rfl rfl (fun bk10 => ⟨trivial, ?_⟩))
  refine TL.appS 8 10 (d2 := #[0]) rfl (rfl) rfl (fun _ => rfl) rfl rfl (row1 rfl) encU_one (by decide) fc_k24_110_1 (by decide) rfl rfl (fun v11 => ⟨trivial, ?_⟩)
  refine TL.ownW 8 rfl (fun a3 g3 c3 hv3 _ _ => ?_)
  subst hv3
  refine xf 1 fc_f165_1_1 rfl (TL.st 7 #[_, _, _, _] _ rfl rfl rfl rfl rfl rfl fc_s24 rfl rfl trivial (dA (xf 3 fc_f165_3_3 rfl (xlv 7 fc_s163 rfl rfl (TL.bsN 12 [_] (encB false) fc_l163_4_1 fc_z4 ⟨rfl, trivial⟩ rfl (lit1 rfl) rfl rfl (fun bk12 => ⟨trivial, ?_⟩))))))
  refine TL.appS 9 12 (d2 := #[false]) rfl (rfl) rfl (fun _ => rfl) rfl rfl (row1 rfl) encB_one (by decide) fc_k163_4_1 (by decide) rfl rfl (fun v13 => ⟨trivial, ?_⟩)
  refine TL.ownW 9 rfl (fun a4 g4 c4 hv4 _ _ => ?_)
  subst hv4
  refine xf 3 fc_f165_3_3 rfl (TL.st 7 #[_, _, _, _] _ rfl rfl rfl rfl rfl rfl fc_s163 rfl rfl trivial (dB (xai rfl (dK (TC.loopK (X := Nat × Value × Value × Array Int × Array Bool) [2, 4, 8, 9, 10] [0, 1, 2, 3, 4, 5, 6] (fun ⟨k, w1, w2, P, B⟩ => [(11, .int .i64 ((k : Nat) : Int))]) (fun ⟨k, w1, w2, P, B⟩ => [(7, pt bk7 (.cells #[.slice wa wn wc, w1, .slice ka nk ck, w2] 165)), (8, ownA encU 1 110 w1 P), (9, ownA encB 1 4 w2 B)]) (fun ⟨k, w1, w2, P, B⟩ => k ≤ xn ∧ CelI l pr k P B) (fun ⟨k, w1, w2, P, B⟩ => xn - k) ((0, _, _, #[0], #[false])) ⟨Nat.zero_le _, CelI.start⟩ ⟨rfl, trivial⟩ ⟨rfl, rfl, rfl, trivial⟩ (fun y hI => ?_))))))
  obtain ⟨k, w1, w2, P, B⟩ := y
  obtain ⟨hk, hC⟩ := hI
  replace hk : k ≤ xn := hk
  replace hC : CelI l pr k P B := hC
  refine TC.sub (env' := [(11, _), (2, _), (4, _), (8, _), (9, _), (10, _)]) (L' := [(7, _), (8, _), (9, _), (0, _), (1, _), (2, _), (3, _), (4, _), (5, _), (6, _)]) ⟨rfl, rfl, rfl, rfl, rfl, rfl, trivial⟩ ⟨rfl, rfl, rfl, rfl, rfl, rfl, rfl, rfl, rfl, rfl, trivial⟩ (sB (xmi rfl (xms rfl (xz fc_l58_132_4 rfl (TL.lss rfl rfl rfl rfl (fun q1 => ?_) (fun q1 => ?_))))))
  refine TL.done (TQ.then (TC.condT rfl (TC.skip (TQ.then (TC.seq (TC.block (TC.seq ?_)))))))
  have hnk : l.nd ((k : Int) + 1) := ⟨by omega, by omega⟩
  have hPz := hC.a
  have hVz := hC.b
  refine TC.draw2 [(0, true), (1, true), (2, true), (3, true), (4, true), (5, false), (6, false), (7, false), (8, true)] 9 [] [6, 7] fc_m (by kernel_rfl) (xf 1 fc_f165_1_1 rfl (xlv 7 fc_s24 rfl rfl (xL7 6 fc_a61_7 rfl rfl (xmi rfl (TL.add _ rfl rfl (wr64 (by omega)) rfl rfl (TL.callD [0, 1, 2] [0, 1, 2] (bat_ok hl hB) ⟨rfl, rfl, rfl, rfl, trivial⟩ ⟨rfl, rfl, rfl, trivial⟩ fc_c67 rfl rfl rfl rfl rfl (kL2 rfl rfl trivial) ?_))))))
  rw [book10 hl hnk (by decide), hF.pri _ hnk]
  refine TL.bsN 14 [_] (encU (pr ((k : Int) + 1))) fc_l24_110_1 fc_z110 ⟨rfl, trivial⟩ rfl (lit1 rfl) rfl rfl (fun bk14 => ⟨(kL2 rfl rfl trivial), ?_⟩)
  refine TL.appS 8 14 (d2 := #[pr ((k : Int) + 1)]) rfl (rfl) rfl (fun _ => rfl) rfl rfl (row1 rfl) encU_one (by decide) fc_k24_110_1 (by simp; omega) rfl rfl (fun v15 => ⟨(kL2 rfl rfl trivial), ?_⟩)
  refine TL.ownW 8 rfl (fun a3 g3 c3 hv3 _ _ => ?_)
  subst hv3
  refine xf 1 fc_f165_1_1 rfl (TL.late (TL.st 7 #[_, _, _, _] _ rfl rfl rfl rfl rfl rfl fc_s24 rfl rfl trivial (TL.done (TQ.then (TC.draw2 [(0, true), (1, true), (2, true), (3, true), (4, true), (5, true), (6, true), (7, true), (8, false), (9, false), (10, true)] 11 [] [2, 7] fc_m (by kernel_rfl) (xf 3 fc_f165_3_3 rfl (xlv 7 fc_s163 rfl rfl (xms rfl ?_))))))))
  refine xmi rfl (TL.iaO rfl hB.hx rfl fc_l58_132_4 (by omega) rfl rfl (xf 0 fc_f132_0_0 rfl (TL.ldRF 2 (.int _ _) rfl rfl hB.hX (by omega) (encN_ok _).1 rfl fc_s3 rfl rfl (TL.eqlV rfl rfl rfl rfl (TL.bsN 16 [_] (encB (decide ((fx k).k = 1))) fc_l163_4_1 fc_z4 ⟨rfl, trivial⟩ rfl (lit1 rfl) rfl rfl (fun bk16 => ⟨(kL2 rfl rfl trivial), ?_⟩))))))
  refine TL.appS 9 16 (d2 := #[decide ((fx k).k = 1)]) rfl (rfl) rfl (fun _ => rfl) rfl rfl (row1 rfl) encB_one (by decide) fc_k163_4_1 (by simp; omega) rfl rfl (fun v17 => ⟨(kL2 rfl rfl trivial), ?_⟩)
  refine TL.ownW 9 rfl (fun a4 g4 c4 hv4 _ _ => ?_)
  subst hv4
  refine xf 3 fc_f165_3_3 rfl (TL.late (TL.st 7 #[_, _, _, _] _ rfl rfl rfl rfl rfl rfl fc_s163 rfl rfl trivial (dI (xmi rfl (TL.add (((k + 1 : Nat) : Int)) rfl rfl (wrN (by omega)) rfl rfl (xai rfl (TL.done (TQ.roundK ((k + 1, _, _, _, _)) ⟨⟨(show k + 1 ≤ xn by omega), hC.push rfl (by have := (hB.hfx k (by omega)).vert hl; cases hh : (l.node ((k : Int) + 1)).1.arc <;> simp [this, hh])⟩, (show xn - (k + 1) < xn - k by omega)⟩ ⟨rfl, trivial⟩ ⟨rfl, rfl, rfl, trivial⟩ (kE5 rfl rfl rfl rfl rfl trivial) (kL7 rfl rfl rfl rfl rfl rfl rfl trivial)))))))))
  refine dE rfl (TC.seq ?_)
  have hPz := hC.a
  have hVz := hC.b
  refine TC.ownW 8 rfl (fun a1 g1 c1 hv1 hc1 ha1 => ?_)
  cases hv1
  refine TC.ownW 9 rfl (fun a2 g2 c2 hv2 hc2 ha2 => ?_)
  cases hv2
  refine TC.region (xL4 7 fc_a165_4 rfl rfl ?_)
  have h9 : F9 l mk pr a1 g1 P.size (ownA encU 1 110 (.slice a1 P.size c1) P) (fun j => P[j]!) ka bk nk Amk fk a2 g2 B.size (ownA encB 1 4 (.slice a2 B.size c2) B) (fun j => B[j]!) := ⟨ha1, own_rowOf ha1, by omega, fun x hx => (hC.pv x.toNat (by have := hx.1; omega) (by have := hx.2; omega)).trans (by rw [Int.toNat_of_nonneg (by have := hx.1; omega)]), hka, hkA, hkn, hkv, ha2, own_rowOf ha2, by omega, fun x hx => (hC.vv x.toNat (by have := hx.1; omega) (by have := hx.2; omega)).trans (by rw [Int.toNat_of_nonneg (by have := hx.1; omega)])⟩
  refine TL.call [8, 5, 9, 3, 4] [8, 5, 9, 3, 4, 18] (nodes9_ok hl h9 hwa hwA hwn hR (by omega) hF.mkk (fun j hj => by obtain ⟨x, b1, b2, b3, b4, b5, b6, b7, b8, b9⟩ := hRt.tree hl hF hj; exact ⟨b6, b4.nd, b7⟩)) ⟨rfl, trivial⟩ ⟨rfl, rfl, rfl, rfl, rfl, trivial⟩ fc_c116 rfl rfl rfl rfl ?_
  rintro x5 Bs rfl
  refine ⟨rfl, trivial, ?_⟩
  obtain ⟨D, hDD⟩ : ∃ D, wR l mk Rs Rs.size (Array.replicate P.size ⟨0, 0, 0, 0, 0, 0, 0⟩) = D := ⟨_, rfl⟩
  rw [hDD]
  have hDz : D.size = P.size := by rw [← hDD, wR_size]; simp
  refine TL.ownW 18 rfl (fun a5 g5 c5 hv5 hc5 ha5 => ?_)
  subst hv5
  refine xas rfl (dB (xai rfl (dK (TC.loopK (X := Nat) [2, 4, 9, 12] [0, 1, 2, 3, 4, 5, 6, 7, 8, 9, 18] (fun j => [(13, .int .i64 ((j : Nat) : Int))]) (fun j => []) (fun j => j ≤ xn) (fun j => xn - j) (0) (Nat.zero_le _) ⟨rfl, trivial⟩ trivial (fun j hI => (TC.sub (env' := [(13, _), (2, _), (4, _), (9, _), (12, _)]) (L' := [(0, _), (1, _), (2, _), (3, _), (4, _), (5, _), (6, _), (7, _), (8, _), (9, _), (18, _)]) ⟨rfl, rfl, rfl, rfl, rfl, trivial⟩ ⟨rfl, rfl, rfl, rfl, rfl, rfl, rfl, rfl, rfl, rfl, rfl, trivial⟩ (sB (xmi rfl (xms rfl ?_)))))))))
  refine xz fc_l58_132_4 rfl (TL.lss rfl rfl rfl rfl (fun q2 => ?_) (fun q2 => ?_))
  refine TL.done (TQ.then (TC.condT rfl (TC.skip (TQ.then (TC.seq (TC.block (sB (xms rfl ?_))))))))
  refine xmi rfl (TL.iaO rfl hB.hx rfl fc_l58_132_4 (by omega) rfl rfl (TL.ldRx 2 [_, _, _, _] rfl rfl hB.hX (by omega) rfl fc_a132_4 rfl rfl (TL.callD [] [] of13_ok ⟨rfl, trivial⟩ trivial fc_c113 rfl rfl rfl rfl rfl trivial ?_)))
  rw [(hB.hfx j (by omega)).level hl]
  refine xmi rfl (TL.neq rfl rfl rfl rfl (fun q3 => ?_) (fun q3 => ?_))
  refine TL.done (TQ.then (TC.condT rfl (TC.exit (TQ.thenExit (TQ.blockHere (TQ.then (TC.region (xmi rfl ?_))))))))
  refine TL.add (((j + 1 : Nat) : Int)) rfl rfl (wrN (by omega)) rfl rfl (xai rfl (TL.done (TQ.roundK (j + 1) ⟨by omega, by omega⟩ ⟨rfl, trivial⟩ trivial (kE4 rfl rfl rfl rfl trivial) (kL8 rfl rfl rfl rfl rfl rfl rfl rfl (kL3 rfl rfl rfl trivial)))))
  refine TL.done (TQ.then (TC.condF rfl (TC.skip (TQ.then (TC.seq ?_)))))
  have hnj : l.nd ((j : Int) + 1) := ⟨by omega, by omega⟩
  obtain ⟨r, r1, r2⟩ := hRt.all hF hxn hlv hnj (by omega)
  have hnd : NdOk l σ ((j : Int) + 1) D[j + 1]! := by rw [← hDD]; exact wR_at hl hF hRt (by simp; omega) Rs.size (Nat.le_refl _) r r1 _ (by rw [r2]; exact hF.mem _ hnj)
  obtain ⟨n1, n2⟩ := (hF.rep _ hnj).lnk hl _ (hF.mem _ hnj)
  have n3 := n1.1
  have n4 := n1.2
  have n5 := n2.1
  have n6 := n2.2
  have hd1 := hnd.hp
  have hd2 := hnd.hl
  have hd3 := hnd.hr
  have hd4 := hnd.ok
  have hd5 := hnd.sum
  refine TC.region (xms rfl (xmi rfl (TL.add (((j + 1 : Nat) : Int)) rfl rfl (wrN (by omega)) rfl rfl (TL.iaO rfl ha5 rfl fc_l166_169_7 (by omega) rfl rfl (TL.ldRx 18 [_, _, _, _, _, _, _] rfl rfl (own_rowOf ha5) (by omega) rfl fc_a169_7 rfl rfl (TL.alloc 19 (cs := #[.int .i64 0, .int .i64 0, .int .i64 0, .int .i64 0, .int .i64 0, .int .i64 0, .int .i64 0]) fc_z169 rfl rfl rfl (fun _ => trivial) (fun bk19 => (TL.stW 19 7 [_, _, _, _, _, _, _] rfl rfl rfl rfl rfl rfl fc_a169_7 rfl rfl trivial (dS ?_)))))))))
  refine TC.draw [(0, true), (1, true), (2, true), (5, true), (6, true), (3, false), (4, true), (7, true), (8, true), (9, true), (10, true), (11, true), (14, true), (15, true), (12, false), (13, true), (16, true), (17, true), (18, true), (19, true), (20, true), (21, true), (22, true), (24, true), (25, true), (23, false), (26, true), (27, true), (28, true), (29, true), (30, true), (31, true), (33, true), (32, false), (34, false), (35, true), (36, true)] [6, 19] fc_m (by kernel_rfl) (xL7 6 fc_a61_7 rfl rfl (xmi rfl (TL.add _ rfl rfl (wr64 (by omega)) rfl rfl (xf 1 fc_f169_1_1 rfl (xli 19 fc_s3 rfl rfl ?_)))))
  refine TL.callD [0, 1, 2] [0, 1, 2] (bat_ok hl hB) ⟨rfl, rfl, rfl, rfl, trivial⟩ ⟨rfl, rfl, rfl, trivial⟩ fc_c67 rfl rfl rfl rfl rfl (kL2 rfl rfl trivial) ?_
  rw [book10 hl hnj (by decide)]
  refine TL.conv _ rfl fc_u110 fc_i3_i64 (wr64 (by omega)) rfl rfl (TL.neqF rfl rfl (by omega) rfl rfl (xmf rfl (xL7 6 fc_a61_7 rfl rfl (xmi rfl (TL.add _ rfl rfl (wr64 (by omega)) rfl rfl (xf 2 fc_f169_2_2 rfl (xli 19 fc_s3 rfl rfl (TL.callD [0, 1, 2] [0, 1, 2] (bat_ok hl hB) ⟨rfl, rfl, rfl, rfl, trivial⟩ ⟨rfl, rfl, rfl, trivial⟩ fc_c67 rfl rfl rfl rfl rfl (kL2 rfl rfl trivial) ?_))))))))
  rw [book10 hl hnj (by decide)]
  refine TL.conv _ rfl fc_u110 fc_i3_i64 (wr64 (by omega)) rfl rfl (TL.neqF rfl rfl (by omega) rfl rfl (xpF rfl (xmf rfl (xL7 6 fc_a61_7 rfl rfl (xmi rfl (TL.add _ rfl rfl (wr64 (by omega)) rfl rfl (xmi rfl (xf 0 fc_f169_0_0 rfl ?_))))))))
  refine xli 19 fc_s3 rfl rfl (TL.callD [0, 1, 2] [0, 1, 2] (bparent_ok hl hB hF hnj (by omega)) ⟨rfl, rfl, rfl, trivial⟩ ⟨rfl, rfl, rfl, trivial⟩ fc_c114 rfl rfl rfl rfl rfl (kL2 rfl rfl trivial) (TL.neqF rfl rfl (by omega) rfl rfl (xpF rfl (xmf rfl (xL7 6 fc_a61_7 rfl rfl (xmi rfl (TL.add _ rfl rfl (wr64 (by omega)) rfl rfl (xL7 19 fc_a169_7 rfl rfl ?_))))))))
  refine TL.callD [0, 1, 2] [0, 1, 2] (bat_ok hl hB) ⟨rfl, rfl, rfl, rfl, trivial⟩ ⟨rfl, rfl, rfl, trivial⟩ fc_c67 rfl rfl rfl rfl rfl (kL2 rfl rfl trivial) ?_
  rw [book10 hl hnj (by decide)]
  refine TL.callD [] [] (sum9_ok hd4) ⟨rfl, trivial⟩ trivial fc_c117 rfl rfl rfl rfl rfl (kL2 rfl rfl trivial) (TL.neqF rfl rfl (by omega) rfl rfl (xpF rfl (TL.done (TQ.then (TC.condF rfl (TC.skip (TQ.inBlock (TQ.then ?_))))))))
  refine TC.region (xmi rfl (TL.add (((j + 1 : Nat) : Int)) rfl rfl (wrN (by omega)) rfl rfl (xai rfl (TL.done (TQ.roundK (j + 1) ⟨by omega, by omega⟩ ⟨rfl, trivial⟩ trivial (kE4 rfl rfl rfl rfl trivial) (kL8 rfl rfl rfl rfl rfl rfl rfl rfl (kL3 rfl rfl rfl trivial)))))))
  refine dE rfl (sA (xat rfl (dR ?_)))
  refine FQ.ret1 (v := (.bool true)) (Bs := [_, _, _, _, _, _]) [0, 1, 2, 3, 4, 5] rfl rfl rfl ⟨rfl, rfl, rfl, rfl, rfl, rfl, trivial⟩ ?_
  exact ⟨rfl, rfl⟩

set_option maxHeartbeats 1000000 in
theorem cut10_ok {ra : Option Addr} {rb roff rn rc : Nat} {Ar : Assn} {f : Nat → Int} {r : List Int} {x y : Int} (hra : 0 < rn → ra = some ⟨rb, roff, none⟩) (hrA : RowOf Ar encI 1 rb roff rn f) (hrn : rn = r.length) (hf : ∀ j, j < rn → f j = r[j]!) (hr6 : rn ≤ 600)  : Go.Eng.Fn Tryz.prog 144 [.slice ra rn rc, .int .i64 x, .int .i64 y] [Ar] (fun z Bs => ∃ v w, z = .tuple #[v, w] ∧ Bs = [Ar, ownA encI 1 3 v (cutW x y 0 r).1.toArray, ownA encI 1 3 w (cutW x y 0 r).2.toArray]) := by
  refine Fn.enter (Tryz.func144) rfl rfl (fun w0 R => ?_)
  refine sA (TL.asg (.slice none 0 0) rfl rfl rfl (TL.asg (.slice none 0 0) rfl rfl rfl (dA (TL.asg (.slice none 0 0) rfl rfl rfl (TL.asg (.slice none 0 0) rfl rfl rfl (dS (TC.nilA 1 (A := ownA encI 1 3 (.slice none 0 0) #[]) (.inl ⟨rfl, rfl⟩) (TC.nilA 2 (A := ownA encI 1 3 (.slice none 0 0) #[]) (.inl ⟨rfl, rfl⟩) ?_))))))))
  refine TC.region (xai rfl (dB (xai rfl (dK (TC.loopK (X := (Nat × Nat) × (Value × Value) × (List Int × List Int)) [0, 1, 2, 6, 7] [0] (fun ⟨⟨k, s⟩, ⟨v, w⟩, ⟨A, B⟩⟩ => [(11, .int .i64 ((k : Nat) : Int)), (10, .int .i64 ((s : Nat) : Int)), (8, v), (9, w)]) (fun ⟨⟨k, s⟩, ⟨v, w⟩, ⟨A, B⟩⟩ => [(1, ownA encI 1 3 v A.toArray), (2, ownA encI 1 3 w B.toArray)]) (fun ⟨⟨k, s⟩, ⟨v, w⟩, ⟨A, B⟩⟩ => k ≤ rn ∧ CutI x y r k s A B) (fun ⟨⟨k, s⟩, ⟨v, w⟩, ⟨A, B⟩⟩ => rn - k) (((0, 0), (_, _), ([], []))) ⟨Nat.zero_le _, CutI.start⟩ ⟨rfl, rfl, rfl, rfl, trivial⟩ ⟨rfl, rfl, trivial⟩ (fun z hI => ?_))))))
  obtain ⟨⟨k, s⟩, ⟨v, w⟩, ⟨A, B⟩⟩ := z
  obtain ⟨hk, hC⟩ := hI
  replace hk : k ≤ rn := hk
  replace hC : CutI x y r k s A B := hC
  refine TC.sub (env' := [(11, _), (10, _), (8, _), (9, _), (0, _), (1, _), (2, _), (6, _), (7, _)]) (L' := [(1, _), (2, _), (0, _)]) ⟨rfl, rfl, rfl, rfl, rfl, rfl, rfl, rfl, rfl, trivial⟩ ⟨rfl, rfl, rfl, trivial⟩ (sB (xmi rfl (xms rfl (xz fc_l77_3_1 rfl (TL.lss rfl rfl rfl rfl (fun q1 => ?_) (fun q1 => ?_))))))
  refine TL.done (TQ.then (TC.condT rfl (TC.skip (TQ.then (TC.seq (TC.block (TC.seq (TC.seq ?_))))))))
  have hfk := hf k (by omega)
  have hs := hC.hs
  have hi6 := hC.hi
  have ho6 := hC.ho
  refine TC.region (xms rfl (xmi rfl (TL.iaO rfl hra rfl fc_l77_3_1 (by omega) rfl rfl (TL.ldRS 0 (.int _ _) rfl rfl hrA (by omega) (rfl) fc_s3 rfl rfl (xmi rfl (TL.eql rfl rfl rfl rfl (fun q2 => ?_) (fun q2 => ?_)))))))
  refine xmt rfl (xo rfl (xo rfl (xo rfl (xo rfl (xo rfl (xo rfl (xpT rfl (dT rfl ?_))))))))
  refine xmi rfl (TL.add (((s + 1 : Nat) : Int)) rfl rfl (wrN (by omega)) rfl rfl (xai rfl (TL.done (TQ.then (TC.exit (TQ.thenExit (TQ.blockHere (TQ.then ?_))))))))
  refine TC.region (xmi rfl (TL.add (((k + 1 : Nat) : Int)) rfl rfl (wrN (by omega)) rfl rfl (xai rfl (TL.done (TQ.roundK (((k + 1, s + 1), (_, _), (A, B))) ⟨⟨(show k + 1 ≤ rn by omega), hC.arc (by omega) (by omega)⟩, (show rn - (k + 1) < rn - k by omega)⟩ ⟨rfl, rfl, rfl, rfl, trivial⟩ ⟨rfl, rfl, trivial⟩ (kE5 rfl rfl rfl rfl rfl trivial) (kL1 rfl trivial))))))
  refine xmf rfl (xms rfl (xmi rfl (TL.iaO rfl hra rfl fc_l77_3_1 (by omega) rfl rfl (TL.ldRS 0 (.int _ _) rfl rfl hrA (by omega) (rfl) fc_s3 rfl rfl (xmi rfl (TL.eql rfl rfl rfl rfl (fun q3 => ?_) (fun q3 => ?_)))))))
  refine xpH rfl (dT rfl (xmi rfl (TL.add (((s + 1 : Nat) : Int)) rfl rfl (wrN (by omega)) rfl rfl (xai rfl (TL.done (TQ.then (TC.exit (TQ.thenExit ?_))))))))
  refine TQ.blockHere (TQ.then (TC.region (xmi rfl (TL.add (((k + 1 : Nat) : Int)) rfl rfl (wrN (by omega)) rfl rfl (xai rfl (TL.done (TQ.roundK (((k + 1, s + 1), (_, _), (A, B))) ⟨⟨(show k + 1 ≤ rn by omega), hC.arc (by omega) (by omega)⟩, (show rn - (k + 1) < rn - k by omega)⟩ ⟨rfl, rfl, rfl, rfl, trivial⟩ ⟨rfl, rfl, trivial⟩ (kE5 rfl rfl rfl rfl rfl trivial) (kL1 rfl trivial))))))))
  refine xpF rfl (dF rfl (xmi rfl (TL.eql rfl rfl rfl rfl (fun q4 => ?_) (fun q4 => ?_))))
  refine TL.done (TQ.then (TC.condT rfl (TC.region (xmv rfl (xms rfl (xmi rfl (TL.iaO rfl hra rfl fc_l77_3_1 (by omega) rfl rfl (TL.ldRS 0 (.int _ _) rfl rfl hrA (by omega) (rfl) fc_s3 rfl rfl ?_))))))))
  refine TL.bsN 3 [_] (encI (f k)) fc_l77_3_1 fc_z3 ⟨rfl, trivial⟩ rfl (lit1 rfl) rfl rfl (fun bk3 => ⟨trivial, ?_⟩)
  refine TL.appS 1 3 (d2 := #[f k]) rfl (rfl) rfl (fun _ => rfl) rfl rfl (row1 rfl) encI_one (by decide) fc_k77_3_1 (by simp; omega) rfl rfl (fun v4 => ⟨trivial, ?_⟩)
  refine xav rfl (dI (xmi rfl (TL.add (((k + 1 : Nat) : Int)) rfl rfl (wrN (by omega)) rfl rfl (xai rfl (TL.done (TQ.roundK (((k + 1, s), (_, _), (A ++ [r[k]!], B))) ⟨⟨(show k + 1 ≤ rn by omega), hC.inner (by omega) (by omega) (by omega) (by assumption)⟩, (show rn - (k + 1) < rn - k by omega)⟩ ⟨rfl, rfl, rfl, rfl, trivial⟩ ⟨congrArg (fun z => some (ownA encI 1 3 _ z)) (by rw [hfk]; simp), rfl, trivial⟩ (kE5 rfl rfl rfl rfl rfl trivial) (kL1 rfl trivial)))))))
  refine TL.done (TQ.then (TC.condF rfl (TC.region (xmv rfl (xms rfl (xmi rfl (TL.iaO rfl hra rfl fc_l77_3_1 (by omega) rfl rfl (TL.ldRS 0 (.int _ _) rfl rfl hrA (by omega) (rfl) fc_s3 rfl rfl ?_))))))))
  refine TL.bsN 5 [_] (encI (f k)) fc_l77_3_1 fc_z3 ⟨rfl, trivial⟩ rfl (lit1 rfl) rfl rfl (fun bk5 => ⟨trivial, ?_⟩)
  refine TL.appS 2 5 (d2 := #[f k]) rfl (rfl) rfl (fun _ => rfl) rfl rfl (row1 rfl) encI_one (by decide) fc_k77_3_1 (by simp; omega) rfl rfl (fun v6 => ⟨trivial, ?_⟩)
  refine xav rfl (dI (xmi rfl (TL.add (((k + 1 : Nat) : Int)) rfl rfl (wrN (by omega)) rfl rfl (xai rfl (TL.done (TQ.roundK (((k + 1, s), (_, _), (A, B ++ [r[k]!]))) ⟨⟨(show k + 1 ≤ rn by omega), hC.outer (by omega) (by omega) (by omega) (by assumption)⟩, (show rn - (k + 1) < rn - k by omega)⟩ ⟨rfl, rfl, rfl, rfl, trivial⟩ ⟨rfl, congrArg (fun z => some (ownA encI 1 3 _ z)) (by rw [hfk]; simp), trivial⟩ (kE5 rfl rfl rfl rfl rfl trivial) (kL1 rfl trivial)))))))
  refine dE rfl (sA (xmv rfl (xmv rfl (xav rfl (xav rfl (dR ?_))))))
  refine FQ.ret2 (v := _) (x := _) (Bs := [_, _, _]) [0, 1, 2] rfl rfl rfl rfl ⟨rfl, rfl, rfl, trivial⟩ ?_
  have he := hC.end (by omega)
  exact ⟨_, _, rfl, by rw [he]⟩

set_option maxHeartbeats 1000000 in
theorem bside_ok {l : Lay} (hl : l.Ok) {σ : M} {nv : Value} {ca xa : Option Addr} {mr bc offc cn cc bx offx xn xc : Nat} {Acl Ax : Assn} {fc : Nat → Int} {fx : Nat → Nm} {ps : List (Nm × Nat)} (hB : BookOk l σ ca bc offc cn Acl fc xa bx offx xn Ax fx ps) {qa : Option Addr} {qb qoff qn qc : Nat} {Aq : Assn} {p : Nat → Int} (hqa : 0 < qn → qa = some ⟨qb, qoff, none⟩) (hqA : RowOf Aq encI 1 qb qoff qn p) (hq6 : qn ≤ 600) {ga : Option Addr} {gb gn gc : Nat} {Ag : Assn} {fg : Nat → Int × Int} (hga : 0 < gn → ga = some ⟨gb, 0, none⟩) (hgA : RowOf Ag encP 2 gb 0 gn fg) {a0 a1 c : Int} (hgz : gn ≤ 400) (hc : c = 0 ∨ c = 1) (hp : ∀ j, j < qn → l.nd (p j)) (hs : ∀ j, j < qn → (l.node (p j)).1.arc = false → joinB fg gn (l.node (p j)).1.vertex a0 = decide (c = 0) ∧ (c = 0 → joinB fg gn (l.node (p j)).1.vertex a0 = true) ∧ (¬ c = 0 → joinB fg gn (l.node (p j)).1.vertex a1 = true)) (he : ∃ j, j < qn ∧ (l.node (p j)).1.arc = false)  : FnD Tryz.prog 145 [.agg #[.int .i64 l.V, .int .i64 l.S, .int .i64 l.T, nv, .slice ca cn cc, .map (some mr), .slice xa xn xc], .slice qa qn qc, .slice ga gn gc, .agg #[.int .i64 a0, .int .i64 a1]] [Acl, mapA mr nmV natV ps, Ax, Aq, Ag] (.int .i64 c) [Acl, mapA mr nmV natV ps, Ax, Aq, Ag] := by
  have hcn := hB.hcn
  have hxn := hB.hxn
  have hnb := nodes_b hl
  have hcb := cells_b hl
  refine Fn.enter (Tryz.func145) rfl rfl (fun w0 R => ?_)
  refine sA (xB 5 rfl (fun bk5 => (xB 6 rfl (fun bk6 => (xai rfl (dA (xf 6 fc_f61_4_6 rfl (xls 5 fc_s58 rfl rfl (xas rfl (dA ?_))))))))))
  refine xai rfl (dB (xai rfl (dK (TC.loopK (X := Nat × Int) [1, 2, 7, 9] [0, 1, 2, 3, 4, 5, 6] (fun ⟨k, o⟩ => [(11, .int .i64 ((k : Nat) : Int)), (10, .int .i64 o)]) (fun ⟨k, o⟩ => []) (fun ⟨k, o⟩ => k ≤ qn ∧ ((o = -1 ∧ ∀ j, j < k → (l.node (p j)).1.arc = true) ∨ o = c)) (fun ⟨k, o⟩ => qn - k) ((0, -1)) ⟨Nat.zero_le _, .inl ⟨rfl, fun j hj => absurd hj (Nat.not_lt_zero _)⟩⟩ ⟨rfl, rfl, trivial⟩ trivial (fun y hI => ?_)))))
  obtain ⟨k, o⟩ := y
  obtain ⟨hk, hO⟩ := hI
  replace hk : k ≤ qn := hk
  replace hO : (o = -1 ∧ ∀ j, j < k → (l.node (p j)).1.arc = true) ∨ o = c := hO
  refine TC.sub (env' := [(11, _), (10, _), (1, _), (2, _), (7, _), (9, _)]) (L' := [(0, _), (1, _), (2, _), (3, _), (4, _), (5, _), (6, _)]) ⟨rfl, rfl, rfl, rfl, rfl, rfl, trivial⟩ ⟨rfl, rfl, rfl, rfl, rfl, rfl, rfl, trivial⟩ (sB (xmi rfl (xms rfl (xz fc_l77_3_1 rfl (TL.lss rfl rfl rfl rfl (fun q1 => ?_) (fun q1 => ?_))))))
  refine TL.done (TQ.then (TC.condT rfl (TC.skip (TQ.then (TC.seq (TC.block (TC.seq ?_)))))))
  have hnz := hp k (by omega)
  obtain ⟨z, hz⟩ := Int.eq_ofNat_of_zero_le (show (0 : Int) ≤ p k from by have := hnz; have := this.1; omega)
  have hs9 := hs k (by omega)
  rw [hz] at hnz hs9
  have hnz1 := hnz.1
  have hnz2 := hnz.2
  have hfz := hB.hfx (z - 1) (by omega)
  rw [show (((z - 1 : Nat) : Int) + 1) = (z : Int) by omega] at hfz
  refine TC.region (xms rfl (xms rfl (xmi rfl (TL.iaO rfl hqa rfl fc_l77_3_1 (by omega) rfl rfl (TL.ldRS 3 (.int .i64 (z : Int)) rfl rfl hqA (by omega) (by rw [hz]; rfl) fc_s3 rfl rfl (TL.sub (((z - 1 : Nat) : Int)) rfl rfl (wrN (by omega)) rfl rfl (TL.iaO rfl hB.hx rfl fc_l58_132_4 (by omega) rfl rfl (TL.ldRx 2 [_, _, _, _] rfl rfl hB.hX (by omega) rfl fc_a132_4 rfl rfl ?_))))))))
  refine TL.alloc 7 (cs := #[.int .i64 0, .int .i64 0, .int .i64 0, .int .i64 0]) fc_z132 rfl rfl rfl (fun _ => trivial) (fun bk7 => (TL.stW 7 4 [_, _, _, _] rfl rfl rfl rfl rfl rfl fc_a132_4 rfl rfl trivial (dB (xf 0 fc_f132_0_0 rfl (xli 7 fc_s3 rfl rfl (TL.neq rfl rfl rfl rfl (fun q2 => ?_) (fun q2 => ?_)))))))
  refine TL.done (TQ.then (TC.condT rfl (TC.exit (TQ.thenExit (TQ.blockHere (TQ.then (TC.region (xmi rfl ?_))))))))
  refine TL.add (((k + 1 : Nat) : Int)) rfl rfl (wrN (by omega)) rfl rfl (xai rfl (TL.done (TQ.roundK ((k + 1, o)) ⟨⟨(show k + 1 ≤ qn by omega), hO.imp (fun h => ⟨h.1, fun j hj => if e : j = k then (by subst e; rw [hz]; exact (hfz.arcs hl (by omega)).2.2.2) else h.2 j (by omega)⟩) id⟩, (show qn - (k + 1) < qn - k by omega)⟩ ⟨rfl, rfl, trivial⟩ trivial (kE4 rfl rfl rfl rfl trivial) (kL7 rfl rfl rfl rfl rfl rfl rfl trivial))))
  refine dF rfl (xai rfl (dS (TC.seq ?_)))
  obtain ⟨hb, har⟩ := hfz.vtx hl (by omega)
  rw [← hb] at hs9
  obtain ⟨j0, j1, j2⟩ := hs9 har
  refine TC.region (xms rfl (xf 2 fc_f132_2_2 rfl (xli 7 fc_s3 rfl rfl (TL.iaA (_ + 0) rfl rfl fc_r70_2_3_1 (by decide) (by decide) rfl rfl rfl (xli 6 fc_s3 rfl rfl (TL.callD [4] [4] (gjoin_ok hga hgA hgz) ⟨rfl, rfl, rfl, trivial⟩ ⟨rfl, trivial⟩ fc_c69 rfl rfl rfl rfl rfl trivial ?_))))))
  rw [j0]
  refine TL.casesP rfl (fun q3 => ?_) (fun q3 => ?_)
  refine xnt rfl (TL.done (TQ.then (TC.condF rfl (TC.skip (TQ.then (TC.seq (TC.seq (TC.draw [(0, true), (1, true), (2, true), (3, true), (4, true), (5, true), (6, false), (7, true), (8, true), (9, true), (10, true), (11, true), (12, true), (13, true), (14, true), (15, true), (16, true)] [6, 7] fc_m (by kernel_rfl) ?_))))))))
  refine xms rfl (xf 2 fc_f132_2_2 rfl (xli 7 fc_s3 rfl rfl (xmi rfl (TL.iaA (_ + 0) rfl rfl fc_r70_2_3_1 (by decide) (by decide) rfl rfl rfl (xli 6 fc_s3 rfl rfl (TL.callD [4] [4] (gjoin_ok hga hgA hgz) ⟨rfl, rfl, rfl, trivial⟩ ⟨rfl, trivial⟩ fc_c69 rfl rfl rfl rfl rfl (kL2 rfl rfl trivial) ?_))))))
  rw [j1 (by assumption)]
  refine xnt rfl (xmf rfl (xmi rfl (TL.geq rfl rfl rfl rfl (fun q4 => ?_) (fun q4 => ?_))))
  refine xmt rfl (xmi rfl (xmi rfl (TL.neqF rfl rfl (by omega) rfl rfl (xpG rfl (xpF rfl (TL.done (TQ.then (TC.condF rfl ?_))))))))
  refine TC.skip (TQ.then (TC.region (xmi rfl (xai rfl (dI (xmi rfl (TL.add (((k + 1 : Nat) : Int)) rfl rfl (wrN (by omega)) rfl rfl (xai rfl ?_))))))))
  refine TL.done (TQ.roundK ((k + 1, c)) ⟨⟨(show k + 1 ≤ qn by omega), .inr rfl⟩, (show qn - (k + 1) < qn - k by omega)⟩ ⟨rfl, congrArg (fun z : Int => some (Value.int .i64 z)) (by omega), trivial⟩ trivial (kE4 rfl rfl rfl rfl trivial) (kL7 rfl rfl rfl rfl rfl rfl rfl trivial))
  refine xmf rfl (xo rfl (xo rfl (xo rfl (xpF rfl (xpF rfl (TL.done (TQ.then (TC.condF rfl ?_))))))))
  refine TC.skip (TQ.then (TC.region (xmi rfl (xai rfl (dI (xmi rfl (TL.add (((k + 1 : Nat) : Int)) rfl rfl (wrN (by omega)) rfl rfl (xai rfl ?_))))))))
  refine TL.done (TQ.roundK ((k + 1, c)) ⟨⟨(show k + 1 ≤ qn by omega), .inr rfl⟩, (show qn - (k + 1) < qn - k by omega)⟩ ⟨rfl, congrArg (fun z : Int => some (Value.int .i64 z)) (by omega), trivial⟩ trivial (kE4 rfl rfl rfl rfl trivial) (kL7 rfl rfl rfl rfl rfl rfl rfl trivial))
  refine xnf rfl (TL.done (TQ.then (TC.condT rfl (TC.region (xai rfl (dS (TC.seq (TC.draw [(0, true), (1, true), (2, true), (3, true), (4, true), (5, true), (6, false), (7, true), (8, true), (9, true), (10, true), (11, true), (12, true), (13, true), (14, true), (15, true), (16, true)] [6, 7] fc_m (by kernel_rfl) ?_))))))))
  refine xms rfl (xf 2 fc_f132_2_2 rfl (xli 7 fc_s3 rfl rfl (xmi rfl (TL.iaA (_ + 1) rfl rfl fc_r70_2_3_1 (by decide) (by decide) rfl rfl rfl (xli 6 fc_s3 rfl rfl (TL.callD [4] [4] (gjoin_ok hga hgA hgz) ⟨rfl, rfl, rfl, trivial⟩ ⟨rfl, trivial⟩ fc_c69 rfl rfl rfl rfl rfl (kL2 rfl rfl trivial) ?_))))))
  rw [j2 (by assumption)]
  refine xnt rfl (xmf rfl (xmi rfl (TL.geq rfl rfl rfl rfl (fun q4 => ?_) (fun q4 => ?_))))
  refine xmt rfl (xmi rfl (xmi rfl (TL.neqF rfl rfl (by omega) rfl rfl (xpG rfl (xpF rfl (TL.done (TQ.then (TC.condF rfl ?_))))))))
  refine TC.skip (TQ.then (TC.region (xmi rfl (xai rfl (dI (xmi rfl (TL.add (((k + 1 : Nat) : Int)) rfl rfl (wrN (by omega)) rfl rfl (xai rfl ?_))))))))
  refine TL.done (TQ.roundK ((k + 1, c)) ⟨⟨(show k + 1 ≤ qn by omega), .inr rfl⟩, (show qn - (k + 1) < qn - k by omega)⟩ ⟨rfl, congrArg (fun z : Int => some (Value.int .i64 z)) (by omega), trivial⟩ trivial (kE4 rfl rfl rfl rfl trivial) (kL7 rfl rfl rfl rfl rfl rfl rfl trivial))
  refine xmf rfl (xo rfl (xo rfl (xo rfl (xpF rfl (xpF rfl (TL.done (TQ.then (TC.condF rfl ?_))))))))
  refine TC.skip (TQ.then (TC.region (xmi rfl (xai rfl (dI (xmi rfl (TL.add (((k + 1 : Nat) : Int)) rfl rfl (wrN (by omega)) rfl rfl (xai rfl ?_))))))))
  refine TL.done (TQ.roundK ((k + 1, c)) ⟨⟨(show k + 1 ≤ qn by omega), .inr rfl⟩, (show qn - (k + 1) < qn - k by omega)⟩ ⟨rfl, congrArg (fun z : Int => some (Value.int .i64 z)) (by omega), trivial⟩ trivial (kE4 rfl rfl rfl rfl trivial) (kL7 rfl rfl rfl rfl rfl rfl rfl trivial))
  refine dE rfl (sA (xmi rfl (xai rfl (dR ?_))))
  refine FQ.ret1 (v := (.int _ _)) (Bs := [_, _, _, _, _]) [0, 1, 2, 3, 4] rfl rfl rfl ⟨rfl, rfl, rfl, rfl, rfl, trivial⟩ ?_
  obtain ⟨j, hj, e⟩ := he
  exact ⟨iE (hO.elim (fun h => by have := h.2 j (by omega); rw [e] at this; cases this) id), rfl⟩

set_option maxHeartbeats 1000000 in
theorem bparted_ok {l : Lay} (hl : l.Ok) {σ : M} {nv : Value} {ca xa : Option Addr} {mr bc offc cn cc bx offx xn xc : Nat} {Acl Ax : Assn} {fc : Nat → Int} {fx : Nat → Nm} {ps : List (Nm × Nat)} (hB : BookOk l σ ca bc offc cn Acl fc xa bx offx xn Ax fx ps) {pr mk : Int → Int} {F : Int → T} {g : G} {L : Int → Int → List Int} (hIR : InvR l pr σ F mk g L) {i : Int} {s : Nat} (hi : 0 ≤ i ∧ i < l.lev) (hP : Pg g i (s : Int)) {ra : Option Addr} {rb roff rn rc : Nat} {Ar : Assn} {f : Nat → Int} (hra : 0 < rn → ra = some ⟨rb, roff, none⟩) (hrA : RowOf Ar encI 1 rb roff rn f) (hrn : rn = (F (l.arc (s : Int) i 0)).list.length) (hf : ∀ j, j < rn → f j = (F (l.arc (s : Int) i 0)).list[j]!) {ga : Option Addr} {gb gc : Nat} {Ag : Assn} {D : Array (Int × Int)} (hga : 0 < D.size → ga = some ⟨gb, 0, none⟩) (hgA : RowOf Ag encP 2 gb 0 D.size (fun j => D[j]!)) (hDz : D.size = l.S) (hD : ∀ q, q < D.size → D[q]! = grP g (Pg g i) q)  : FnD Tryz.prog 118 [.agg #[.int .i64 l.V, .int .i64 l.S, .int .i64 l.T, nv, .slice ca cn cc, .map (some mr), .slice xa xn xc], .slice ra rn rc, .slice ga D.size gc, .int .i64 i, .int .i64 (s : Int)] [Acl, mapA mr nmV natV ps, Ax, Ar, Ag] (.bool true) [Acl, mapA mr nmV natV ps, Ax, Ar, Ag] := by
  have hcn := hB.hcn
  have hxn := hB.hxn
  have hnb := nodes_b hl
  have hcb := cells_b hl
  have hF := hIR.lm.forest
  obtain ⟨hs0, hs1⟩ := hIR.edges.rng _ hP.1
  have hlb := lok_bds hl
  obtain ⟨_, _, h0, h1⟩ := hIR.okuv hl hP.1 hi
  have hn0 := (arc_spec hl h0).1
  have hDs : D[s]! = (g.u (s : Int), g.v (s : Int)) := by rw [hD s (by omega)]; unfold grP; rw [if_pos hP]
  have hr6 : rn ≤ 560 := by have := hF.rowLen hl hn0; rw [hrn]; exact this
  obtain ⟨A, e1, B, e2, C, c, hL, he, hPt⟩ := part_of hl hIR hi hP
  have hm0 : l.arc (s : Int) i 0 ∈ (F (l.arc (s : Int) i 0)).list := hF.mem _ hn0
  have hm1 : l.arc (s : Int) i 1 ∈ (F (l.arc (s : Int) i 0)).list := by rw [← ((hIR.tours i hi).arcs _ hP).1]; exact hF.mem _ (arc_spec hl h1).1
  have hc2 := hPt.hc
  have hcut : cutW (l.arc (s : Int) i 0) (l.arc (s : Int) i 1) 0 (F (l.arc (s : Int) i 0)).list = (B, A ++ C) := by have := hF.nodup _ hn0; rw [hL] at this ⊢; exact cutW_eq this he
  have hlvX := row_lev hl hIR hi hn0 (by rw [(arc_spec hl h0).2])
  have inB : ∀ y, y ∈ B → y ∈ (F (l.arc (s : Int) i 0)).list := fun y hy => by rw [hL]; simp [hy]
  have inO : ∀ y, y ∈ A ++ C → y ∈ (F (l.arc (s : Int) i 0)).list := fun y hy => by rw [hL]; simp only [List.mem_append, List.mem_cons] at hy ⊢; rcases hy with h | h; exact .inl h; exact .inr (.inr (.inr (.inr h)))
  have hBl : B.length + (A.length + C.length) ≤ rn := by have := hrn; rw [hL] at this; simp at this ⊢; omega
  have hjj : ∀ x y, joinB (fun j => (D.setIfInBounds s (-1, -1))[j]!) D.size x y = true ↔ Conn (fun q => Pg g i q ∧ q ≠ (s : Int)) g.u g.v x y := fun x y => grP_join (l := l) hDz (fun q hq => ⟨(hIR.edges.rng q hq.1.1).1, (hIR.edges.rng q hq.1.1).2.1.1⟩) (grP_cut (by omega) hD)
  refine Fn.enter (Tryz.func118) rfl rfl (fun w0 R => ?_)
  refine sA (xB 5 rfl (fun bk5 => (xaf rfl (dB (xms rfl (xmi rfl (TL.iaO rfl hga rfl fc_l122_70_2 (by omega) rfl rfl (TL.iaA (_ + 0) rfl rfl fc_r70_2_3_1 (by decide) (by decide) rfl rfl rfl (TL.ldRF 4 (.int _ _) rfl rfl hgA (by omega) rfl rfl fc_s3 rfl rfl ?_)))))))))
  refine TL.lssF rfl rfl (by rw [hDs]; show ¬ g.u (s : Int) < 0; omega) rfl rfl (TL.done (TQ.then (TC.condF rfl (TC.skip (TQ.then (TC.seq (TC.draw [(0, true), (1, true), (2, true), (3, true), (5, true), (6, true), (7, true), (8, true), (4, false), (9, false), (10, true), (11, true)] [5] fc_m (by kernel_rfl) (xL7 5 fc_a61_7 rfl rfl ?_))))))))
  refine xmi rfl (xmi rfl (TL.bld [.int .i64 0, .int .i64 0, .int .i64 0, .int .i64 0] [(.int _ _), (.int _ _), (.int _ _)] [_, _, _, _] fc_z132 fc_q132 ⟨rfl, rfl, rfl, trivial⟩ ⟨rfl, rfl⟩ rfl rfl (xL7 5 fc_a61_7 rfl rfl (xmi rfl (xmi rfl (TL.bld [.int .i64 0, .int .i64 0, .int .i64 0, .int .i64 0] [(.int _ _), (.int _ _), (.int _ _), (.int _ _)] [_, _, _, _] fc_z132 fc_q132 ⟨rfl, rfl, rfl, rfl, trivial⟩ ⟨rfl, rfl⟩ rfl rfl (TL.callD [0, 1, 2] [0, 1, 2] (bnode_ok hl hB (nmA_ok hl h0)) ⟨rfl, rfl, trivial⟩ ⟨rfl, rfl, rfl, trivial⟩ fc_c112 rfl rfl rfl rfl rfl (kL1 rfl trivial) ?_)))))))
  refine TL.callD [0, 1, 2] [0, 1, 2] (bnode_ok hl hB (nmA_ok hl h1)) ⟨rfl, rfl, trivial⟩ ⟨rfl, rfl, rfl, trivial⟩ fc_c112 rfl rfl rfl rfl rfl (kL1 rfl trivial) (xai rfl (xai rfl (dB (xms rfl (xmi rfl (TL.callD [3] [3] (has13_ok hra hrA (by omega)) ⟨rfl, rfl, trivial⟩ ⟨rfl, trivial⟩ fc_c111 rfl rfl rfl rfl rfl trivial ?_))))))
  rw [hasN_mem2 hf hrn hm0]
  refine xnt rfl (xmf rfl (xms rfl (xmi rfl (TL.callD [3] [3] (has13_ok hra hrA (by omega)) ⟨rfl, rfl, trivial⟩ ⟨rfl, trivial⟩ fc_c111 rfl rfl rfl rfl rfl trivial ?_))))
  rw [hasN_mem2 hf hrn hm1]
  refine xnt rfl (xpF rfl (dF rfl (xms rfl (xmi rfl (xmi rfl (TL.call [3] [3, 6, 7] (cut10_ok hra hrA hrn hf (by omega)) ⟨rfl, rfl, rfl, trivial⟩ ⟨rfl, trivial⟩ fc_c144 rfl rfl rfl rfl ?_))))))
  rintro z4 Bs ⟨vi, wo, rfl, rfl⟩
  refine ⟨rfl, trivial, ?_⟩
  rw [hcut]
  refine TL.ownW 6 rfl (fun aii gii cii hvii hcii haii => ?_)
  subst hvii
  refine TL.ownW 7 rfl (fun aoo goo coo hvoo hcoo haoo => ?_)
  subst hvoo
  refine xmu rfl (xes rfl rfl (xes rfl rfl (xas rfl (xas rfl (dA (TL.asg (.slice none 0 0) rfl rfl rfl (dS (TC.nilA 8 (A := ownA encP 2 70 (.slice none 0 0) #[]) (.inl ⟨rfl, rfl⟩) ?_))))))))
  refine TC.region (xmv rfl (xms rfl (TL.appQ 8 4 (d2 := D) rfl (rfl) rfl (hga) rfl rfl (hgA) encP_one (by decide) fc_k122_70_2 (by simp; omega) rfl rfl (fun v9 => ⟨trivial, ?_⟩))))
  rw [show (#[] ++ D : Array (Int × Int)) = D from Array.empty_append]
  refine TL.ownW 8 rfl (fun a7 g7 c7 hv7 hc7 ha7 => ?_)
  subst hv7
  obtain rfl := ha7 (by omega)
  refine xav rfl (dA (xmv rfl (xmi rfl (TL.bldA [.int .i64 0, .int .i64 0] [(.int _ _), (.int _ _)] [_, _] fc_z70 fc_r70_2_3_1 ⟨rfl, rfl, trivial⟩ ⟨rfl, rfl⟩ rfl rfl (TL.iaO rfl (fun _ => rfl) rfl fc_l122_70_2 (by omega) rfl rfl (TL.stO 8 (i := s) (u := (-1, -1)) (rfl) rfl rfl rfl (encP_ok) (by omega) fc_a70_2 rfl rfl trivial (dS (TC.draw [(0, true), (1, true), (2, true), (3, true), (4, true), (5, true), (6, true), (8, true), (9, true), (10, true), (11, true), (12, true), (13, true), (14, true), (7, false), (15, false), (16, true), (17, true)] [4, 5] fc_m (by kernel_rfl) ?_))))))))
  refine xL7 5 fc_a61_7 rfl rfl (xms rfl (xmv rfl (xms rfl (xmi rfl (TL.iaO rfl hga rfl fc_l122_70_2 (by omega) rfl rfl (TL.ldRx 4 [.int .i64 (g.u (s : Int)), .int .i64 (g.v (s : Int))] rfl rfl hgA (by omega) (by show encP D[s]! = _; rw [hDs]; rfl) fc_a70_2 rfl rfl (xL7 5 fc_a61_7 rfl rfl (xms rfl ?_))))))))
  refine xmv rfl (xms rfl (xmi rfl (TL.iaO rfl hga rfl fc_l122_70_2 (by omega) rfl rfl (TL.ldRx 4 [.int .i64 (g.u (s : Int)), .int .i64 (g.v (s : Int))] rfl rfl hgA (by omega) (by show encP D[s]! = _; rw [hDs]; rfl) fc_a70_2 rfl rfl (TL.callD [0, 1, 2, 6, 8] [0, 1, 2, 6, 8] (bside_ok hl hB haii (own_rowOf haii) (by simp; omega) (fun _ => rfl) (own_rowN (by simp)) (by omega) hc2 (fun j hj => (hlvX _ (inB _ (by rw [getElem!_pos _ j hj]; simp))).1) (fun j hj => side_facts hl hjj hPt.bi hPt.ne (fun y hy => hlvX y (inB y hy)) hj) (side_ex hl hPt.hi)) ⟨rfl, rfl, rfl, rfl, trivial⟩ ⟨rfl, rfl, rfl, rfl, rfl, trivial⟩ fc_c145 rfl rfl rfl rfl rfl (kL2 rfl rfl trivial) ?_)))))
  refine TL.callD [0, 1, 2, 7, 8] [0, 1, 2, 7, 8] (bside_ok hl hB haoo (own_rowOf haoo) (by simp; omega) (fun _ => rfl) (own_rowN (by simp)) (by omega) (show (1 - c = 0 ∨ 1 - c = 1) by omega) (fun j hj => (hlvX _ (inO _ (by rw [getElem!_pos _ j hj]; simp))).1) (fun j hj => side_facts hl hjj (fun w hw hm => by have := hPt.bo w hw hm; rcases hc2 with rfl | rfl <;> simpa using this) hPt.ne (fun y hy => hlvX y (inO y hy)) hj) (side_ex hl hPt.ho)) ⟨rfl, rfl, rfl, rfl, trivial⟩ ⟨rfl, rfl, rfl, rfl, rfl, trivial⟩ fc_c145 rfl rfl rfl rfl rfl (kL2 rfl rfl trivial) (xai rfl (xai rfl (dA (xmi rfl (TL.geqT rfl rfl (by omega) rfl rfl (xmt rfl (xmi rfl (TL.geqT rfl rfl (by omega) rfl rfl ?_))))))))
  refine xpT rfl (xmt rfl (xmi rfl (xmi rfl (TL.neqT rfl rfl (by omega) rfl rfl (xpT rfl (xat rfl (dR ?_)))))))
  refine FQ.ret1 (v := (.bool true)) (Bs := [_, _, _, _, _]) [0, 1, 2, 3, 4] rfl rfl rfl ⟨rfl, rfl, rfl, rfl, rfl, trivial⟩ ?_
  exact ⟨rfl, rfl⟩

set_option maxHeartbeats 1000000 in
theorem baround_ok {l : Lay} (hl : l.Ok) {σ : M} {nv : Value} {ca xa : Option Addr} {mr bc offc cn cc bx offx xn xc : Nat} {Acl Ax : Assn} {fc : Nat → Int} {fx : Nat → Nm} {ps : List (Nm × Nat)} (hB : BookOk l σ ca bc offc cn Acl fc xa bx offx xn Ax fx ps) {pr mk : Int → Int} {F : Int → T} {g : G} {L : Int → Int → List Int} (hIR : InvR l pr σ F mk g L) {i x : Int} (hi : 0 ≤ i ∧ i < l.lev) (hx : l.nd x) (hlx : (l.node x).1.level = i) {ra : Option Addr} {rb roff rn rc : Nat} {Ar : Assn} {f : Nat → Int} (hra : 0 < rn → ra = some ⟨rb, roff, none⟩) (hrA : RowOf Ar encI 1 rb roff rn f) (hrn : rn = (F x).list.length) (hf : ∀ j, j < rn → f j = (F x).list[j]!) {ga : Option Addr} {gb gc : Nat} {Ag : Assn} {D : Array (Int × Int)} (hga : 0 < D.size → ga = some ⟨gb, 0, none⟩) (hgA : RowOf Ag encP 2 gb 0 D.size (fun j => D[j]!)) (hDz : D.size = l.S) (hD : ∀ q, q < D.size → D[q]! = grP g (Pg g i) q)  : FnD Tryz.prog 75 [.agg #[.int .i64 l.V, .int .i64 l.S, .int .i64 l.T, nv, .slice ca cn cc, .map (some mr), .slice xa xn xc], .slice ra rn rc, .slice ga D.size gc, .int .i64 i] [Acl, mapA mr nmV natV ps, Ax, Ar, Ag] (.bool true) [Acl, mapA mr nmV natV ps, Ax, Ar, Ag] := by
  have hcn := hB.hcn
  have hxn := hB.hxn
  have hnb := nodes_b hl
  have hcb := cells_b hl
  have hF := hIR.lm.forest
  have hT := hIR.tours i hi
  have hlb := lok_bds hl
  have hr6 : rn ≤ 560 := by have := hF.rowLen hl hx; rw [hrn]; exact this
  have hlvX := row_lev hl hIR hi hx hlx
  have hxm := hF.mem x hx
  have hpos : 0 < rn := by rw [hrn]; exact List.length_pos_of_mem hxm
  have hjj : ∀ u v, joinB (fun j => D[j]!) D.size u v = true ↔ Jn g i u v := fun u v => grP_join (l := l) hDz (fun q hq => ⟨(hIR.edges.rng q hq.1).1, (hIR.edges.rng q hq.1).2.1.1⟩) hD
  have hvv : ∀ w, w ∈ vsL l (F x).list → l.okV i w ∧ F (l.vertex i w) = F x := fun w hw => by obtain ⟨a1, a2⟩ := vsL_mem hl hlvX hw; exact ⟨a1, hF.cls x hx _ a2⟩
  have hvs : ∀ q, q < (vsL l (F x).list).toArray.size → (vsL l (F x).list).toArray[q]! ∈ vsL l (F x).list := fun q hq => by rw [getElem!_pos _ q hq]; simp
  have hvl := vsL_len (l := l) (F x).list
  refine Fn.enter (Tryz.func75) rfl rfl (fun w0 R => ?_)
  refine sA (xB 5 rfl (fun bk5 => (xaf rfl (dA (xf 6 fc_f61_4_6 rfl (xls 5 fc_s58 rfl rfl (xas rfl (dA (xai rfl ?_)))))))))
  refine dA (TL.asg (.slice none 0 0) rfl rfl rfl (dS (TC.seq (TC.nilA 6 (A := ownA encI 1 3 (.slice none 0 0) (vsL l []).toArray) (.inl ⟨rfl, rfl⟩) (TC.region (xai rfl (dK (TC.loopK (X := Nat × Value) [1, 2, 3, 4, 8, 9] [0, 1, 2, 3, 4, 5] (fun ⟨k, w⟩ => [(12, .int .i64 ((k : Nat) : Int)), (10, .int .i64 ((acN l ((F x).list.take k) : Nat) : Int)), (11, w)]) (fun ⟨k, w⟩ => [(6, ownA encI 1 3 w (vsL l ((F x).list.take k)).toArray)]) (fun ⟨k, w⟩ => k ≤ rn) (fun ⟨k, w⟩ => rn - k) ((0, _)) (Nat.zero_le _) ⟨rfl, rfl, rfl, trivial⟩ ⟨rfl, trivial⟩ (fun y hI => ?_)))))))))
  obtain ⟨k, w⟩ := y
  replace hI : k ≤ rn := hI
  refine TC.sub (env' := [(12, _), (10, _), (11, _), (1, _), (2, _), (3, _), (4, _), (8, _), (9, _)]) (L' := [(6, _), (0, _), (1, _), (2, _), (3, _), (4, _), (5, _)]) ⟨rfl, rfl, rfl, rfl, rfl, rfl, rfl, rfl, rfl, trivial⟩ ⟨rfl, rfl, rfl, rfl, rfl, rfl, rfl, trivial⟩ (sB (xmi rfl (xms rfl (xz fc_l77_3_1 rfl (TL.lss rfl rfl rfl rfl (fun q1 => ?_) (fun q1 => ?_))))))
  refine TL.done (TQ.then (TC.condT rfl (TC.skip (TQ.then (TC.seq (TC.block (TC.seq ?_)))))))
  have hnz : l.nd (f k) := by rw [hf k (by omega), getElem!_pos _ k (by omega)]; exact (hlvX _ (List.getElem_mem _)).1
  obtain ⟨z, hz⟩ := Int.eq_ofNat_of_zero_le (show (0 : Int) ≤ f k from by have := hnz; have := this.1; omega)
  rw [hz] at hnz
  have hnz1 := hnz.1
  have hnz2 := hnz.2
  have hfz := hB.hfx (z - 1) (by omega)
  rw [show (((z - 1 : Nat) : Int) + 1) = (z : Int) by omega] at hfz
  have hzk : (F x).list[k]! = (z : Int) := by rw [← hf k (by omega), hz]
  have hat := acN_take (l := l) (r := (F x).list) (k := k) (by omega)
  have hvt := vsL_take (l := l) (r := (F x).list) (k := k) (by omega)
  rw [hzk] at hat hvt
  have hvl2 := vsL_len (l := l) ((F x).list.take k)
  have htl : ((F x).list.take k).length ≤ k := List.length_take_le _ _
  refine TC.region (xms rfl (xms rfl (xmi rfl (TL.iaO rfl hra rfl fc_l77_3_1 (by omega) rfl rfl (TL.ldRS 3 (.int .i64 (z : Int)) rfl rfl hrA (by omega) (by rw [hz]; rfl) fc_s3 rfl rfl (TL.sub (((z - 1 : Nat) : Int)) rfl rfl (wrN (by omega)) rfl rfl (TL.iaO rfl hB.hx rfl fc_l58_132_4 (by omega) rfl rfl (TL.ldRx 2 [_, _, _, _] rfl rfl hB.hX (by omega) rfl fc_a132_4 rfl rfl ?_))))))))
  refine TL.alloc 7 (cs := #[.int .i64 0, .int .i64 0, .int .i64 0, .int .i64 0]) fc_z132 rfl rfl rfl (fun _ => trivial) (fun bk7 => (TL.stW 7 4 [_, _, _, _] rfl rfl rfl rfl rfl rfl fc_a132_4 rfl rfl trivial (dA (xf 0 fc_f132_0_0 rfl (xli 7 fc_s3 rfl rfl (TL.eql rfl rfl rfl rfl (fun q2 => ?_) (fun q2 => ?_)))))))
  refine TL.done (TQ.then (TC.condT rfl (TC.region (xmv rfl (xf 2 fc_f132_2_2 rfl (xli 7 fc_s3 rfl rfl (TL.bsN 8 [_] (encI (fx (z - 1)).b) fc_l77_3_1 fc_z3 ⟨rfl, trivial⟩ rfl (lit1 rfl) rfl rfl (fun bk8 => ⟨trivial, ?_⟩))))))))
  refine TL.appS 6 8 (d2 := #[(fx (z - 1)).b]) rfl (rfl) rfl (fun _ => rfl) rfl rfl (row1 rfl) encI_one (by decide) fc_k77_3_1 (by simp; omega) rfl rfl (fun v9 => ⟨trivial, ?_⟩)
  refine xav rfl (dI (xmi rfl (TL.add (((k + 1 : Nat) : Int)) rfl rfl (wrN (by omega)) rfl rfl (xai rfl (TL.done (TQ.roundK ((k + 1, _)) ⟨(show k + 1 ≤ rn by omega), (show rn - (k + 1) < rn - k by omega)⟩ ⟨rfl, congrArg (fun z : Nat => some (Value.int .i64 (z : Int))) (by rw [hat, (hfz.vtx hl (by omega)).2]; rfl), rfl, trivial⟩ ⟨congrArg (fun z => some (ownA encI 1 3 _ z)) (by rw [hvt, (hfz.vtx hl (by omega)).2, (hfz.vtx hl (by omega)).1]; simp), trivial⟩ (kE6 rfl rfl rfl rfl rfl rfl trivial) (kL6 rfl rfl rfl rfl rfl rfl trivial)))))))
  refine TL.done (TQ.then (TC.condF rfl (TC.region (xmi rfl (TL.add (((acN l ((F x).list.take k) + 1 : Nat) : Int)) rfl rfl (wrN (by omega)) rfl rfl (xai rfl (dI (xmi rfl ?_))))))))
  refine TL.add (((k + 1 : Nat) : Int)) rfl rfl (wrN (by omega)) rfl rfl (xai rfl (TL.done (TQ.roundK ((k + 1, _)) ⟨(show k + 1 ≤ rn by omega), (show rn - (k + 1) < rn - k by omega)⟩ ⟨rfl, congrArg (fun z : Nat => some (Value.int .i64 (z : Int))) (by rw [hat, (hfz.arcs hl (by omega)).2.2.2]; rfl), rfl, trivial⟩ ⟨congrArg (fun z => some (ownA encI 1 3 _ z)) (by rw [hvt, (hfz.arcs hl (by omega)).2.2.2]; simp), trivial⟩ (kE6 rfl rfl rfl rfl rfl rfl trivial) (kL6 rfl rfl rfl rfl rfl rfl trivial))))
  refine dE rfl (TC.seq (TC.seq ?_))
  rw [show (F x).list.take k = (F x).list from List.take_of_length_le (by omega)]
  refine TC.ownW 6 rfl (fun a9 g9 c9 hv9 hc9 ha9 => ?_)
  cases hv9
  refine TC.region (xmv rfl (xz fc_l77_3_1 rfl (TL.eql rfl rfl rfl rfl (fun q2 => ?_) (fun q2 => ?_))))
  refine TL.done (TQ.then (TC.condT rfl (TC.seq ?_)))
  have hnz : l.nd (f 0) := by rw [hf 0 (by omega), getElem!_pos _ 0 (by omega)]; exact (hlvX _ (List.getElem_mem _)).1
  obtain ⟨z, hz⟩ := Int.eq_ofNat_of_zero_le (show (0 : Int) ≤ f 0 from by have := hnz; have := this.1; omega)
  rw [hz] at hnz
  have hnz1 := hnz.1
  have hnz2 := hnz.2
  have hfz := hB.hfx (z - 1) (by omega)
  rw [show (((z - 1 : Nat) : Int) + 1) = (z : Int) by omega] at hfz
  have hzk : (F x).list[0]! = (z : Int) := by rw [← hf 0 (by omega), hz]
  have hv0 : vsL l (F x).list = [] := List.eq_nil_of_length_eq_zero (by have h9 : (((vsL l (F x).list).toArray.size : Nat) : Int) = 0 := (by assumption); simpa using h9)
  obtain ⟨s, hs, hzs, hDs, h1n⟩ := around_lone hl hIR hi hx hlx hv0 hfz hzk hDz hD
  have hrn1 : rn = 1 := by omega
  refine TC.region (xms rfl (xz fc_l77_3_1 rfl (TL.eqlT rfl rfl (by omega) rfl rfl (xmt rfl (xms rfl (xms rfl (xms rfl (TL.iaO (i := 0) rfl hra rfl fc_l77_3_1 (by omega) rfl rfl ?_))))))))
  refine TL.ldRS 3 (.int .i64 (z : Int)) rfl rfl hrA (by omega) (by rw [hz]; rfl) fc_s3 rfl rfl (TL.sub (((z - 1 : Nat) : Int)) rfl rfl (wrN (by omega)) rfl rfl (TL.iaO rfl hB.hx rfl fc_l58_132_4 (by omega) rfl rfl (xf 1 fc_f132_1_1 rfl (TL.ldRF 2 (.int .i64 (s : Int)) rfl rfl hB.hX (by omega) (encN_ok _).1 (by show some (Value.int .i64 (fx (z - 1)).a) = _; rw [hzs]) fc_s3 rfl rfl (TL.iaO rfl hga rfl fc_l122_70_2 (by omega) rfl rfl (TL.iaA (_ + 0) rfl rfl fc_r70_2_3_1 (by decide) (by decide) rfl rfl rfl (TL.ldRF 4 (.int _ _) rfl rfl hgA (by omega) rfl rfl fc_s3 rfl rfl (TL.lssT rfl rfl (by show (D[s]!).1 < 0; rw [hDs]; decide) rfl rfl ?_))))))))
  refine xpT rfl (xat rfl (dRR ?_))
  refine FQ.ret1 (v := (.bool true)) (Bs := [_, _, _, _, _]) [0, 1, 2, 3, 4] rfl rfl rfl ⟨rfl, rfl, rfl, rfl, rfl, trivial⟩ ?_
  exact ⟨rfl, rfl⟩
  refine TL.done (TQ.then (TC.condF rfl (TC.skip (TQ.then (TC.seq (TC.seq ?_))))))
  obtain ⟨u, hmu⟩ : ∃ u, u ∈ vsL l (F x).list := by cases hh : vsL l (F x).list with | nil => exact absurd (show (((vsL l (F x).list).toArray.size : Nat) : Int) = 0 from by rw [hh]; rfl) (by assumption) | cons u r => exact ⟨u, by simp⟩
  obtain ⟨hu, hFu⟩ := hvv u hmu
  have hcnt := row_count hl hIR hi hu.2
  have hnn := nv_ne hl hIR hi hu.2
  rw [hFu] at hcnt
  have hsz9 : (vsL l (F x).list).toArray.size = (vsL l (F x).list).length := by simp
  refine TC.region (xmi rfl (xmv rfl (xz fc_l77_3_1 rfl (TL.mul _ rfl rfl (wr64 (by omega)) rfl rfl (TL.sub _ rfl rfl (wr64 (by omega)) rfl rfl (TL.neqF rfl rfl (by omega) rfl rfl (TL.done (TQ.then ?_))))))))
  refine TC.condF rfl (TC.skip (TQ.then (sB (xai rfl (dK (TC.loopK (X := Nat) [1, 2, 3, 4, 9, 11] [0, 1, 2, 3, 4, 5, 6] (fun q => [(14, .int .i64 ((q : Nat) : Int))]) (fun q => []) (fun q => q ≤ (vsL l (F x).list).toArray.size) (fun q => (vsL l (F x).list).toArray.size - q) (0) (Nat.zero_le _) ⟨rfl, trivial⟩ trivial (fun q hI => (TC.sub (env' := [(14, _), (1, _), (2, _), (3, _), (4, _), (9, _), (11, _)]) (L' := [(0, _), (1, _), (2, _), (3, _), (4, _), (5, _), (6, _)]) ⟨rfl, rfl, rfl, rfl, rfl, rfl, rfl, trivial⟩ ⟨rfl, rfl, rfl, rfl, rfl, rfl, rfl, trivial⟩ (sB ?_)))))))))
  refine xmi rfl (xmv rfl (xz fc_l77_3_1 rfl (TL.lss rfl rfl rfl rfl (fun q3 => ?_) (fun q3 => ?_))))
  refine TL.done (TQ.then (TC.condT rfl (TC.skip (TQ.then (TC.seq (TC.block (TC.seq ?_)))))))
  obtain ⟨ou, eu⟩ := hvv _ (hvs 0 (by omega))
  obtain ⟨ov, ev⟩ := hvv _ (hvs q (by omega))
  have hjn := (hjj _ _).2 ((hT.row_iff hl hi ou ov).1 (eu.trans ev.symm))
  refine TC.draw [(0, true), (1, true), (2, true), (3, true), (4, true), (5, true), (6, true), (7, true), (8, false), (9, true)] [6] fc_m (by kernel_rfl) (xms rfl (xmv rfl (TL.iaO (i := 0) rfl ha9 rfl fc_l77_3_1 (by omega) rfl rfl (TL.ldRS 6 (.int _ _) rfl rfl (own_rowOf ha9) (by omega) (rfl) fc_s3 rfl rfl (xmv rfl (xmi rfl (TL.iaO rfl ha9 rfl fc_l77_3_1 (by omega) rfl rfl (TL.ldRS 6 (.int _ _) rfl rfl (own_rowOf ha9) (by omega) (rfl) fc_s3 rfl rfl ?_))))))))
  refine TL.callD [4] [4] (gjoin_ok hga hgA (by omega)) ⟨rfl, rfl, rfl, trivial⟩ ⟨rfl, trivial⟩ fc_c69 rfl rfl rfl rfl rfl (kL1 rfl trivial) ?_
  rw [hjn]
  refine xnt rfl (TL.done (TQ.then (TC.condF rfl (TC.skip (TQ.inBlock (TQ.then (TC.region (xmi rfl ?_))))))))
  refine TL.add (((q + 1 : Nat) : Int)) rfl rfl (wrN (by omega)) rfl rfl (xai rfl (TL.done (TQ.roundK (q + 1) ⟨by omega, by omega⟩ ⟨rfl, trivial⟩ trivial (kE6 rfl rfl rfl rfl rfl rfl trivial) (kL7 rfl rfl rfl rfl rfl rfl rfl trivial))))
  refine dE rfl (sB (xai rfl (dK (TC.loopK (X := Nat) [1, 2, 3, 4, 9] [0, 1, 2, 3, 4, 5, 6] (fun k => [(15, .int .i64 ((k : Nat) : Int))]) (fun k => []) (fun k => k ≤ rn) (fun k => rn - k) (0) (Nat.zero_le _) ⟨rfl, trivial⟩ trivial (fun k hI => (TC.sub (env' := [(15, _), (1, _), (2, _), (3, _), (4, _), (9, _)]) (L' := [(0, _), (1, _), (2, _), (3, _), (4, _), (5, _), (6, _)]) ⟨rfl, rfl, rfl, rfl, rfl, rfl, trivial⟩ ⟨rfl, rfl, rfl, rfl, rfl, rfl, rfl, trivial⟩ (sB (xmi rfl (xms rfl ?_)))))))))
  refine xz fc_l77_3_1 rfl (TL.lss rfl rfl rfl rfl (fun q4 => ?_) (fun q4 => ?_))
  refine TL.done (TQ.then (TC.condT rfl (TC.skip (TQ.then (TC.seq (TC.block (TC.seq ?_)))))))
  have hnz : l.nd (f k) := by rw [hf k (by omega), getElem!_pos _ k (by omega)]; exact (hlvX _ (List.getElem_mem _)).1
  obtain ⟨z, hz⟩ := Int.eq_ofNat_of_zero_le (show (0 : Int) ≤ f k from by have := hnz; have := this.1; omega)
  rw [hz] at hnz
  have hnz1 := hnz.1
  have hnz2 := hnz.2
  have hfz := hB.hfx (z - 1) (by omega)
  rw [show (((z - 1 : Nat) : Int) + 1) = (z : Int) by omega] at hfz
  have hzk : (F x).list[k]! = (z : Int) := by rw [← hf k (by omega), hz]
  refine TC.region (xms rfl (xms rfl (xmi rfl (TL.iaO rfl hra rfl fc_l77_3_1 (by omega) rfl rfl (TL.ldRS 3 (.int .i64 (z : Int)) rfl rfl hrA (by omega) (by rw [hz]; rfl) fc_s3 rfl rfl (TL.sub (((z - 1 : Nat) : Int)) rfl rfl (wrN (by omega)) rfl rfl (TL.iaO rfl hB.hx rfl fc_l58_132_4 (by omega) rfl rfl (TL.ldRx 2 [_, _, _, _] rfl rfl hB.hX (by omega) rfl fc_a132_4 rfl rfl ?_))))))))
  refine TL.alloc 10 (cs := #[.int .i64 0, .int .i64 0, .int .i64 0, .int .i64 0]) fc_z132 rfl rfl rfl (fun _ => trivial) (fun bk10 => (TL.stW 10 4 [_, _, _, _] rfl rfl rfl rfl rfl rfl fc_a132_4 rfl rfl trivial (dA (xf 0 fc_f132_0_0 rfl (xli 10 fc_s3 rfl rfl (TL.eql rfl rfl rfl rfl (fun q5 => ?_) (fun q5 => ?_)))))))
  refine xmt rfl (xf 3 fc_f132_3_3 rfl (xli 10 fc_s3 rfl rfl (TL.eql rfl rfl rfl rfl (fun q6 => ?_) (fun q6 => ?_))))
  refine xpT rfl (xmt rfl (xL7 5 fc_a61_7 rfl rfl (xms rfl (xms rfl (xmi rfl (xf 1 fc_f132_1_1 rfl (xli 10 fc_s3 rfl rfl ?_)))))))
  obtain ⟨s, hs, hzs, hPs, hFz⟩ := around_arc hl hIR hi hu hFu.symm hfz (by rw [← hzk, getElem!_pos _ k (by omega)]; exact List.getElem_mem _) (by omega) (by omega)
  rw [hzs]
  refine TL.callD [0, 1, 2, 3, 4] [0, 1, 2, 3, 4] (bparted_ok hl hB hIR hi hPs hra hrA (by rw [hFz]; exact hrn) (by rw [hFz]; exact hf) hga hgA hDz hD) ⟨rfl, rfl, rfl, rfl, rfl, trivial⟩ ⟨rfl, rfl, rfl, rfl, rfl, trivial⟩ fc_c118 rfl rfl rfl rfl rfl trivial (xnt rfl (xpG rfl (TL.done (TQ.then (TC.condF rfl (TC.skip (TQ.inBlock (TQ.then ?_))))))))
  refine TC.region (xmi rfl (TL.add (((k + 1 : Nat) : Int)) rfl rfl (wrN (by omega)) rfl rfl (xai rfl (TL.done (TQ.roundK (k + 1) ⟨by omega, by omega⟩ ⟨rfl, trivial⟩ trivial (kE5 rfl rfl rfl rfl rfl trivial) (kL7 rfl rfl rfl rfl rfl rfl rfl trivial))))))
  refine xpG rfl (xmf rfl (xo rfl (xo rfl (xo rfl (xo rfl (xo rfl (xo rfl (xo rfl ?_))))))))
  refine xo rfl (xpF rfl (TL.done (TQ.then (TC.condF rfl (TC.skip (TQ.inBlock (TQ.then (TC.region ?_))))))))
  refine xmi rfl (TL.add (((k + 1 : Nat) : Int)) rfl rfl (wrN (by omega)) rfl rfl (xai rfl (TL.done (TQ.roundK (k + 1) ⟨by omega, by omega⟩ ⟨rfl, trivial⟩ trivial (kE5 rfl rfl rfl rfl rfl trivial) (kL7 rfl rfl rfl rfl rfl rfl rfl trivial)))))
  refine xmf rfl (xo rfl (xo rfl (xo rfl (xpF rfl (xmf rfl (xo rfl (xo rfl (xo rfl ?_))))))))
  refine xo rfl (xo rfl (xo rfl (xo rfl (xo rfl (xpF rfl (TL.done (TQ.then (TC.condF rfl ?_))))))))
  refine TC.skip (TQ.inBlock (TQ.then (TC.region (xmi rfl (TL.add (((k + 1 : Nat) : Int)) rfl rfl (wrN (by omega)) rfl rfl (xai rfl (TL.done (TQ.roundK (k + 1) ⟨by omega, by omega⟩ ⟨rfl, trivial⟩ trivial (kE5 rfl rfl rfl rfl rfl trivial) (kL7 rfl rfl rfl rfl rfl rfl rfl trivial)))))))))
  refine dE rfl (sA (xat rfl (dR ?_)))
  refine FQ.ret1 (v := (.bool true)) (Bs := [_, _, _, _, _]) [0, 1, 2, 3, 4] rfl rfl rfl ⟨rfl, rfl, rfl, rfl, rfl, trivial⟩ ?_
  exact ⟨rfl, rfl⟩

set_option maxHeartbeats 2000000 in
theorem bsound_ok {l : Lay} (hl : l.Ok) {σ : M} {nv : Value} {ca xa : Option Addr} {mr bc offc cn cc bx offx xn xc : Nat} {Acl Ax : Assn} {fc : Nat → Int} {fx : Nat → Nm} {ps : List (Nm × Nat)} (hB : BookOk l σ ca bc offc cn Acl fc xa bx offx xn Ax fx ps) {pr : Int → Int} {g : G} {b : Bool} (hRG : Right l pr σ g) (hst : b = true → Strict l g)  : FnD Tryz.prog 25 [.agg #[.int .i64 l.V, .int .i64 l.S, .int .i64 l.T, nv, .slice ca cn cc, .map (some mr), .slice xa xn xc], .bool b] [Acl, mapA mr nmV natV ps, Ax] (.bool true) [Acl, mapA mr nmV natV ps, Ax] := by
  have hcn := hB.hcn
  have hxn := hB.hxn
  have hnb := nodes_b hl
  have hcb := cells_b hl
  obtain ⟨F, mk, L, hIR⟩ := hRG
  have hF := hIR.lm.forest
  have hlb := lok_bds hl
  have hEd := hIR.edges
  have lb := lev_b hl
  have hlv := lev_same hl hIR
  refine Fn.enter (Tryz.func25) rfl rfl (fun w0 R => ?_)
  refine sA (xB 3 rfl (fun bk3 => (xaf rfl (dA (xL7 3 fc_a61_7 rfl rfl (TL.call [0, 1, 2] [0, 1, 2, 4] (bedges_ok hl hB hEd) ⟨rfl, trivial⟩ ⟨rfl, rfl, rfl, trivial⟩ fc_c22 rfl rfl rfl rfl ?_))))))
  rintro x7 Bs ⟨ve, E, rfl, rfl, hME⟩
  refine ⟨rfl, trivial, ?_⟩
  refine xmu rfl (xev rfl rfl (xet rfl rfl (xav rfl (xat rfl (dB (xmt rfl (xnt rfl (xmf rfl ?_))))))))
  refine xL7 3 fc_a61_7 rfl rfl (xmv rfl (TL.callD [0, 1, 2, 4] [0, 1, 2, 4] (blists_ok hl hB hIR hME) ⟨rfl, rfl, trivial⟩ ⟨rfl, rfl, rfl, rfl, trivial⟩ fc_c70 rfl rfl rfl rfl rfl trivial (xnt rfl (xpF rfl (dF rfl (xf 0 fc_f61_0_0 rfl (xf 1 fc_f57_1_1 rfl (xli 3 fc_s3 rfl rfl ?_))))))))
  refine TL.mkO 5 (enc := encI) (N := l.S) (0) rfl rfl fc_k77_3_1 fc_z3 rfl (by decide) (by omega) rfl rfl (fun bk5 => ⟨trivial, ?_⟩)
  refine xas rfl (dS (TC.seq ?_))
  have hdz : E.size ≤ l.S := Rel.size hl ⟨g, ⟨F, mk, L, hIR⟩, hME⟩
  refine TC.ownW 4 rfl (fun a9 g9 c9 hv9 hc9 ha9 => ?_)
  cases hv9
  refine TC.region (xai rfl (dK (TC.loopK (X := Nat × Array Int) [1, 2, 4, 5, 7] [0, 1, 2, 3, 4] (fun ⟨k, D⟩ => [(8, .int .i64 ((k : Nat) : Int))]) (fun ⟨k, D⟩ => [(5, ownA encI 1 3 (.slice (some ⟨bk5, 0, none⟩) l.S l.S) D)]) (fun ⟨k, D⟩ => (k ≤ E.size ∧ D.size = l.S) ∧ UsI E k D) (fun ⟨k, D⟩ => E.size - k) ((0, Array.replicate l.S 0)) ⟨⟨Nat.zero_le _, by simp⟩, UsI.start⟩ ⟨rfl, trivial⟩ ⟨rfl, trivial⟩ (fun y hI => ?_))))
  obtain ⟨k, D⟩ := y
  obtain ⟨⟨hk, hDz⟩, hU⟩ := hI
  replace hk : k ≤ E.size := hk
  replace hDz : D.size = l.S := hDz
  replace hU : UsI E k D := hU
  refine TC.sub (env' := [(8, _), (1, _), (2, _), (4, _), (5, _), (7, _)]) (L' := [(5, _), (0, _), (1, _), (2, _), (3, _), (4, _)]) ⟨rfl, rfl, rfl, rfl, rfl, rfl, trivial⟩ ⟨rfl, rfl, rfl, rfl, rfl, rfl, trivial⟩ (sB (xmi rfl (xmv rfl (xz fc_l52_65_5 rfl (TL.lss rfl rfl rfl rfl (fun q1 => ?_) (fun q1 => ?_))))))
  refine TL.done (TQ.then (TC.condT rfl (TC.skip (TQ.then (TC.seq (TC.block ?_))))))
  have hrs := (hEd.rng _ (hME.row k (by omega)).1).1
  obtain ⟨s, hs⟩ := Int.eq_ofNat_of_zero_le hrs.1
  have hub := hU.b (s := s) (by omega)
  refine TC.region (xms rfl (xmv rfl (xmi rfl (TL.iaO rfl ha9 rfl fc_l52_65_5 (by omega) rfl rfl (xf 0 fc_f65_0_0 rfl (TL.ldRF 4 (.int .i64 (s : Int)) rfl rfl (own_rowOf ha9) (by omega) (encE_ok _).1 (by rw [← show E[k]!.slot = (s : Int) from hs]; rfl) fc_s3 rfl rfl (TL.iaO rfl (fun _ => rfl) rfl fc_l77_3_1 (by omega) rfl rfl (TL.ldRS 5 (.int _ _) rfl rfl (own_rowN (by omega)) (by omega) (rfl) fc_s3 rfl rfl ?_))))))))
  refine TL.add _ rfl rfl (wr64 (by omega)) rfl rfl (TL.iaO rfl (fun _ => rfl) rfl fc_l77_3_1 (by omega) rfl rfl (TL.stOF 5 (o := 0) (i := s) (cur := D[s]!) (u := D[s]! + 1) (by omega) rfl rfl rfl rfl (by omega) (rfl) ⟨rfl, rfl⟩ rfl fc_s3 rfl rfl trivial (dI (xmi rfl (TL.add (((k + 1 : Nat) : Int)) rfl rfl (wrN (by omega)) rfl rfl (xai rfl (TL.done (TQ.roundK ((k + 1, _)) ⟨⟨⟨(show k + 1 ≤ E.size by omega), (show (D.setIfInBounds _ _).size = l.S by simp; omega)⟩, hU.step hME (by omega) hs (by omega)⟩, (show E.size - (k + 1) < E.size - k by omega)⟩ ⟨rfl, trivial⟩ ⟨rfl, trivial⟩ (kE5 rfl rfl rfl rfl rfl trivial) (kL5 rfl rfl rfl rfl rfl trivial)))))))))
  refine dE rfl (sB (xai rfl (dK (TC.loopK (X := Nat) [1, 2, 5, 7] [0, 1, 2, 3, 4, 5] (fun s => [(9, .int .i64 ((s : Nat) : Int))]) (fun s => []) (fun s => s ≤ l.S) (fun s => l.S - s) (0) (Nat.zero_le _) ⟨rfl, trivial⟩ trivial (fun s hI => (TC.sub (env' := [(9, _), (1, _), (2, _), (5, _), (7, _)]) (L' := [(0, _), (1, _), (2, _), (3, _), (4, _), (5, _)]) ⟨rfl, rfl, rfl, rfl, rfl, trivial⟩ ⟨rfl, rfl, rfl, rfl, rfl, rfl, trivial⟩ (sB (xmi rfl (xms rfl ?_)))))))))
  refine xz fc_l77_3_1 rfl (TL.lss rfl rfl rfl rfl (fun q2 => ?_) (fun q2 => ?_))
  refine TL.done (TQ.then (TC.condT rfl (TC.skip (TQ.then (TC.seq (TC.block (sA (xms rfl ?_))))))))
  refine xmi rfl (TL.iaO rfl (fun _ => rfl) rfl fc_l77_3_1 (by omega) rfl rfl (TL.ldRS 5 (.int _ _) rfl rfl (own_rowN (by omega)) (by omega) (rfl) fc_s3 rfl rfl (TL.gtrF rfl rfl (by have := (hU.b (s := s) (by omega)).2; omega) rfl rfl (TL.done (TQ.then (TC.condF rfl (TC.skip (TQ.inBlock ?_))))))))
  refine TQ.then (TC.region (xmi rfl (TL.add (((s + 1 : Nat) : Int)) rfl rfl (wrN (by omega)) rfl rfl (xai rfl (TL.done (TQ.roundK (s + 1) ⟨by omega, by omega⟩ ⟨rfl, trivial⟩ trivial (kE4 rfl rfl rfl rfl trivial) (kL6 rfl rfl rfl rfl rfl rfl trivial)))))))
  refine dE rfl (sA (xL7 3 fc_a61_7 rfl rfl (xmv rfl (TL.call [0, 1, 2, 4] [0, 1, 2, 4, 6] (bmarks_ok hl hB hIR hME) ⟨rfl, rfl, trivial⟩ ⟨rfl, rfl, rfl, rfl, trivial⟩ fc_c71 rfl rfl rfl rfl ?_))))
  rintro x7 Bs ⟨Dm, rfl, hDmz, hDmx⟩
  refine ⟨rfl, trivial, ?_⟩
  refine TL.ownW 6 rfl (fun am gm cm hvm hcm ham => ?_)
  subst hvm
  refine xas rfl (dA (xf 0 fc_f61_0_0 rfl (xf 0 fc_f57_0_0 rfl (xli 3 fc_s3 rfl rfl (xai rfl (dB (xai rfl (dK ?_))))))))
  refine TC.loopK (X := Nat × Nat) [1, 2, 5, 10] [0, 1, 2, 3, 4, 5, 6] (fun ⟨i, m⟩ => [(12, .int .i64 ((i : Nat) : Int)), (11, .int .i64 ((m : Nat) : Int))]) (fun ⟨i, m⟩ => []) (fun ⟨i, m⟩ => (i : Int) ≤ l.lev ∧ m = l.V / 2 ^ i) (fun ⟨i, m⟩ => l.lev.toNat - i) ((0, l.V)) ⟨by omega, by simp⟩ ⟨rfl, rfl, trivial⟩ trivial (fun y hI => ?_)
  obtain ⟨i, m⟩ := y
  obtain ⟨hi, hm⟩ := hI
  replace hi : (i : Int) ≤ l.lev := hi
  replace hm : m = l.V / 2 ^ i := hm
  obtain ⟨hm1, hm2⟩ := half_le hm
  refine TC.sub (env' := [(12, _), (11, _), (1, _), (2, _), (5, _), (10, _)]) (L' := [(0, _), (1, _), (2, _), (3, _), (4, _), (5, _), (6, _)]) ⟨rfl, rfl, rfl, rfl, rfl, rfl, trivial⟩ ⟨rfl, rfl, rfl, rfl, rfl, rfl, rfl, trivial⟩ (sB (xmi rfl (xf 0 fc_f61_0_0 rfl (xL3 3 fc_a57_3 rfl rfl (TL.callD [] [] (refLevels_ok hl) ⟨rfl, trivial⟩ trivial fc_c68 rfl rfl rfl rfl rfl trivial (TL.lss rfl rfl rfl rfl (fun q3 => ?_) (fun q3 => ?_)))))))
  refine TL.done (TQ.then (TC.condT rfl (TC.skip (TQ.then (TC.seq (TC.block (sA (xL7 3 fc_a61_7 rfl rfl ?_))))))))
  refine xmi rfl (TL.call [0, 1, 2] [0, 1, 2, 7, 8] (bforest_ok hl hB hF hlv) ⟨rfl, rfl, trivial⟩ ⟨rfl, rfl, rfl, trivial⟩ fc_c72 rfl rfl rfl rfl ?_)
  rintro x6 Bs ⟨wv, W, Rs, IA, rfl, rfl, hR, hRt⟩
  refine ⟨rfl, trivial, ?_⟩
  refine TL.ownW 7 rfl (fun aw gw cw hvw hcw haw => ?_)
  subst hvw
  have hRz := hR.size
  have hle := hRt.le hF
  refine xmu rfl (xes rfl rfl (xet rfl rfl (xas rfl (xat rfl (dB (xmt rfl (xnt rfl (xmf rfl ?_))))))))
  refine xL7 3 fc_a61_7 rfl rfl (xms rfl (xmi rfl (xms rfl (TL.callD [0, 1, 2, 7, 8, 6] [0, 1, 2, 7, 8, 6] (bcells_ok hl hB hF hlv ham (own_rowOf ham) hDmz hDmx haw (own_rowOf haw) rfl hR hRt) ⟨rfl, rfl, rfl, rfl, trivial⟩ ⟨rfl, rfl, rfl, rfl, rfl, rfl, trivial⟩ fc_c73 rfl rfl rfl rfl rfl trivial (xnt rfl (xpF rfl (dF rfl (xL7 3 fc_a61_7 rfl rfl ?_))))))))
  refine xmv rfl (xmi rfl (TL.call [0, 1, 2, 4] [0, 1, 2, 4, 9] (bgraph_ok hl hB hIR hME) ⟨rfl, rfl, rfl, trivial⟩ ⟨rfl, rfl, rfl, rfl, trivial⟩ fc_c74 rfl rfl rfl rfl ?_))
  rintro x7 Bs ⟨Dg, rfl, hDgz, hDgx⟩
  refine ⟨rfl, trivial, ?_⟩
  refine TL.ownW 9 rfl (fun ag gg cg hvg hcg hag => ?_)
  subst hvg
  refine xas rfl (dB (xai rfl (dK (TC.loopK (X := Nat) [1, 2, 5, 10, 11, 12, 13, 15] [0, 1, 2, 3, 4, 5, 6, 7, 8, 9] (fun r => [(16, .int .i64 ((r : Nat) : Int))]) (fun r => []) (fun r => r ≤ W.size) (fun r => W.size - r) (0) (Nat.zero_le _) ⟨rfl, trivial⟩ trivial (fun r hI => (TC.sub (env' := [(16, _), (1, _), (2, _), (5, _), (10, _), (11, _), (12, _), (13, _), (15, _)]) (L' := [(0, _), (1, _), (2, _), (3, _), (4, _), (5, _), (6, _), (7, _), (8, _), (9, _)]) ⟨rfl, rfl, rfl, rfl, rfl, rfl, rfl, rfl, rfl, trivial⟩ ⟨rfl, rfl, rfl, rfl, rfl, rfl, rfl, rfl, rfl, rfl, trivial⟩ (sB (xmi rfl (xms rfl ?_)))))))))
  refine xz fc_l125_77_1 rfl (TL.lss rfl rfl rfl rfl (fun q4 => ?_) (fun q4 => ?_))
  refine TL.done (TQ.then (TC.condT rfl (TC.skip (TQ.then (TC.seq (TC.block (TC.seq (TC.seq ?_))))))))
  obtain ⟨w1, w2, bw, w3, w4⟩ := hR.at_ r (by omega)
  obtain ⟨x, x1, x2, x3, x4, x5⟩ := hRt.of r (by have := hR.size; omega)
  rw [x5] at w1
  have hwf : ∀ j, j < W[r]!.n → (fun q => Rs[r]!.list[q]!) j = (F x).list[j]! := fun j _ => by show Rs[r]!.list[j]! = _; rw [x5]
  have hw5 := hF.rowLen hl x1
  refine TC.draw [(0, true), (1, true), (2, true), (3, true), (4, true), (5, true), (6, true), (7, false), (8, true)] [3, 7] fc_m (by kernel_rfl) (xL7 3 fc_a61_7 rfl rfl (xms rfl (xmi rfl (TL.iaO rfl haw rfl fc_l125_77_1 (by omega) rfl rfl (TL.ldRS 7 (.slice _ _ _) rfl rfl (own_rowOf haw) (by omega) (rfl) fc_s77 rfl rfl (xms rfl (xmi rfl (TL.callD [0, 1, 2, 8, 9] [0, 1, 2, 8, 9] (baround_ok hl hB hIR ⟨by omega, by omega⟩ x1 x3 w3 w4 w1 hwf hag (own_rowOf hag) (by omega) hDgx) ⟨rfl, rfl, rfl, rfl, trivial⟩ ⟨rfl, rfl, rfl, rfl, rfl, trivial⟩ fc_c75 rfl rfl rfl rfl rfl (kL2 rfl rfl trivial) ?_))))))))
  refine xnt rfl (dF rfl (xai rfl (dB (xai rfl (dK (TC.loopK (X := Nat) [1, 2, 5, 10, 11, 12, 13, 15, 16] [0, 1, 2, 3, 4, 5, 6, 7, 8, 9] (fun k => [(18, .int .i64 ((k : Nat) : Int)), (17, .int .i64 (((vsL l ((F x).list.take k)).length : Nat) : Int))]) (fun k => []) (fun k => k ≤ W[r]!.n) (fun k => W[r]!.n - k) (0) (Nat.zero_le _) ⟨rfl, rfl, trivial⟩ trivial (fun k hI => (TC.sub (env' := [(18, _), (17, _), (1, _), (2, _), (5, _), (10, _), (11, _), (12, _), (13, _), (15, _), (16, _)]) (L' := [(0, _), (1, _), (2, _), (3, _), (4, _), (5, _), (6, _), (7, _), (8, _), (9, _)]) ⟨rfl, rfl, rfl, rfl, rfl, rfl, rfl, rfl, rfl, rfl, rfl, trivial⟩ ⟨rfl, rfl, rfl, rfl, rfl, rfl, rfl, rfl, rfl, rfl, trivial⟩ (sB ?_)))))))))
  refine xmi rfl (xms rfl (xmi rfl (TL.iaO rfl haw rfl fc_l125_77_1 (by omega) rfl rfl (TL.ldRS 7 (.slice _ _ _) rfl rfl (own_rowOf haw) (by omega) (rfl) fc_s77 rfl rfl (xz fc_l77_3_1 rfl (TL.lss rfl rfl rfl rfl (fun q5 => ?_) (fun q5 => ?_)))))))
  refine TL.done (TQ.then (TC.condT rfl (TC.skip (TQ.then (TC.seq (TC.block (TC.seq ?_)))))))
  have hlvX := row_lev hl hIR ⟨by omega, by omega⟩ x1 x3
  have hkl : k < (F x).list.length := by have : W[r]!.n = (F x).list.length := w1; omega
  have hnz : l.nd Rs[r]!.list[k]! := by rw [x5, getElem!_pos _ k hkl]; exact (hlvX _ (List.getElem_mem _)).1
  obtain ⟨z, hz⟩ := Int.eq_ofNat_of_zero_le (show (0 : Int) ≤ Rs[r]!.list[k]! from by have := hnz; have := this.1; omega)
  have hzk : (F x).list[k]! = (z : Int) := by rw [← x5, hz]
  rw [hz] at hnz
  have hnz1 := hnz.1
  have hnz2 := hnz.2
  have hfz := hB.hfx (z - 1) (by omega)
  rw [show (((z - 1 : Nat) : Int) + 1) = (z : Int) by omega] at hfz
  have hvt := vsL_take (l := l) hkl
  rw [hzk] at hvt
  have hvl := vsL_len (l := l) ((F x).list.take k)
  have htl : ((F x).list.take k).length ≤ k := List.length_take_le _ _
  refine TC.draw [(0, true), (1, true), (2, true), (3, true), (4, true), (5, true), (6, true), (7, true), (8, true), (9, true), (10, true), (11, true), (12, true), (13, true)] [2, 3, 7, 8] fc_m (by kernel_rfl) (xf 6 fc_f61_4_6 rfl (xls 3 fc_s58 rfl rfl (xms rfl (xmi rfl (TL.iaO rfl haw rfl fc_l125_77_1 (by omega) rfl rfl (TL.ldRS 7 (.slice _ _ _) rfl rfl (own_rowOf haw) (by omega) (rfl) fc_s77 rfl rfl (xmi rfl (TL.iaO rfl w3 rfl fc_l77_3_1 (by omega) rfl rfl ?_))))))))
  refine TL.ldRS 8 (.int .i64 (z : Int)) rfl rfl w4 (by omega) (by rw [hz]; rfl) fc_s3 rfl rfl (TL.sub (((z - 1 : Nat) : Int)) rfl rfl (wrN (by omega)) rfl rfl (TL.iaO rfl hB.hx rfl fc_l58_132_4 (by omega) rfl rfl (xf 0 fc_f132_0_0 rfl (TL.ldRF 2 (.int _ _) rfl rfl hB.hX (by omega) (encN_ok _).1 rfl fc_s3 rfl rfl (TL.eql rfl rfl rfl rfl (fun q6 => ?_) (fun q6 => ?_))))))
  refine TL.done (TQ.then (TC.condT rfl (TC.region (xmi rfl (TL.add ((((vsL l ((F x).list.take k)).length + 1 : Nat) : Int)) rfl rfl (wrN (by omega)) rfl rfl (xai rfl (dI (xmi rfl ?_))))))))
  refine TL.add (((k + 1 : Nat) : Int)) rfl rfl (wrN (by omega)) rfl rfl (xai rfl (TL.done (TQ.roundK (k + 1) ⟨by omega, by omega⟩ ⟨rfl, congrArg (fun z : Nat => some (Value.int .i64 (z : Int))) (by rw [hvt, (hfz.vtx hl (by omega)).2]; simp), trivial⟩ trivial (kE8 rfl rfl rfl rfl rfl rfl rfl rfl (kE1 rfl trivial)) (kL8 rfl rfl rfl rfl rfl rfl rfl rfl (kL2 rfl rfl trivial)))))
  refine TL.done (TQ.then (TC.condF rfl (TC.skip (TQ.inBlock (TQ.then (TC.region (xmi rfl (TL.add (((k + 1 : Nat) : Int)) rfl rfl (wrN (by omega)) rfl rfl ?_))))))))
  refine xai rfl (TL.done (TQ.roundK (k + 1) ⟨by omega, by omega⟩ ⟨rfl, congrArg (fun z : Nat => some (Value.int .i64 (z : Int))) (by rw [hvt, (hfz.arcs hl (by omega)).2.2.2]; simp), trivial⟩ trivial (kE8 rfl rfl rfl rfl rfl rfl rfl rfl (kE1 rfl trivial)) (kL8 rfl rfl rfl rfl rfl rfl rfl rfl (kL2 rfl rfl trivial))))
  refine dE rfl (TC.seq ?_)
  rw [show (F x).list.take k = (F x).list from List.take_of_length_le (by have : W[r]!.n = (F x).list.length := w1; omega)]
  refine TC.region (xmb rfl (TL.cases rfl (fun q6 => ?_) (fun q6 => ?_)))
  refine xmt rfl (xmi rfl (xmi rfl (TL.gtrF rfl rfl (by have := vs_le hl hIR ⟨by omega, by omega⟩ x1 x3 (hst (by assumption) i (by omega)).1; omega) rfl rfl (xpG rfl (TL.done (TQ.then (TC.condF rfl (TC.skip ?_))))))))
  refine TQ.inBlock (TQ.then (TC.region (xmi rfl (TL.add (((r + 1 : Nat) : Int)) rfl rfl (wrN (by omega)) rfl rfl (xai rfl (TL.done (TQ.roundK (r + 1) ⟨by omega, by omega⟩ ⟨rfl, trivial⟩ trivial (kE8 rfl rfl rfl rfl rfl rfl rfl rfl trivial) (kL8 rfl rfl rfl rfl rfl rfl rfl rfl (kL2 rfl rfl trivial)))))))))
  refine xmf rfl (xo rfl (xo rfl (xo rfl (xpF rfl (TL.done (TQ.then (TC.condF rfl (TC.skip ?_))))))))
  refine TQ.inBlock (TQ.then (TC.region (xmi rfl (TL.add (((r + 1 : Nat) : Int)) rfl rfl (wrN (by omega)) rfl rfl (xai rfl (TL.done (TQ.roundK (r + 1) ⟨by omega, by omega⟩ ⟨rfl, trivial⟩ trivial (kE8 rfl rfl rfl rfl rfl rfl rfl rfl trivial) (kL8 rfl rfl rfl rfl rfl rfl rfl rfl (kL2 rfl rfl trivial)))))))))
  refine dE rfl (sB (xai rfl (dK (TC.loopK (X := Nat) [1, 2, 5, 10, 11, 12, 15] [0, 1, 2, 3, 4, 5, 6, 7, 8, 9] (fun j => [(19, .int .i64 ((j : Nat) : Int))]) (fun j => []) (fun j => j ≤ E.size) (fun j => E.size - j) (0) (Nat.zero_le _) ⟨rfl, trivial⟩ trivial (fun j hI => (TC.sub (env' := [(19, _), (1, _), (2, _), (5, _), (10, _), (11, _), (12, _), (15, _)]) (L' := [(0, _), (1, _), (2, _), (3, _), (4, _), (5, _), (6, _), (7, _), (8, _), (9, _)]) ⟨rfl, rfl, rfl, rfl, rfl, rfl, rfl, rfl, trivial⟩ ⟨rfl, rfl, rfl, rfl, rfl, rfl, rfl, rfl, rfl, rfl, trivial⟩ (sB (xmb rfl (TL.cases rfl (fun q5 => ?_) (fun q5 => ?_))))))))))
  refine xmt rfl (xmi rfl (xmv rfl (xz fc_l52_65_5 rfl (TL.lss rfl rfl rfl rfl (fun q6 => ?_) (fun q6 => ?_)))))
  refine xpT rfl (TL.done (TQ.then (TC.condT rfl (TC.skip (TQ.then (TC.seq (TC.block (TC.seq ?_))))))))
  have hro := hME.row j (by omega)
  refine TC.draw [(0, true), (1, true), (2, true), (3, true), (4, true), (5, true), (6, true), (7, true), (8, true), (9, true), (10, true), (11, true), (12, true), (13, true), (14, true), (15, true), (16, true), (17, true), (18, true), (19, true), (20, true), (21, true), (22, true), (23, true), (24, true), (25, true), (26, true), (27, false), (28, true), (29, true)] [4] fc_m (by kernel_rfl) (xmv rfl (xmi rfl (TL.iaO rfl ha9 rfl fc_l52_65_5 (by omega) rfl rfl (xf 4 fc_f65_4_4 rfl (TL.ldRF 4 (.bool _) rfl rfl (own_rowOf ha9) (by omega) (encE_ok _).1 rfl fc_s4 rfl rfl (TL.not _ _ rfl rfl rfl rfl (xmb rfl (TL.cases rfl (fun q7 => ?_) (fun q7 => ?_)))))))))
  refine xmv rfl (xmi rfl (TL.iaO rfl ha9 rfl fc_l52_65_5 (by omega) rfl rfl (xf 3 fc_f65_3_3 rfl (TL.ldRF 4 (.int _ _) rfl rfl (own_rowOf ha9) (by omega) (encE_ok _).1 rfl fc_s3 rfl rfl (xmi rfl (TL.geq rfl rfl rfl rfl (fun q8 => ?_) (fun q8 => ?_)))))))
  refine xpT rfl (xmt rfl (xms rfl (xmv rfl (xmi rfl (TL.iaO rfl ha9 rfl fc_l52_65_5 (by omega) rfl rfl (xf 1 fc_f65_1_1 rfl (TL.ldRF 4 (.int _ _) rfl rfl (own_rowOf ha9) (by omega) (encE_ok _).1 rfl fc_s3 rfl rfl (xmv rfl ?_))))))))
  refine xmi rfl (TL.iaO rfl ha9 rfl fc_l52_65_5 (by omega) rfl rfl (xf 2 fc_f65_2_2 rfl (TL.ldRF 4 (.int _ _) rfl rfl (own_rowOf ha9) (by omega) (encE_ok _).1 rfl fc_s3 rfl rfl (TL.callD [9] [9] (gjoin_ok hag (own_rowOf hag) (by omega)) ⟨rfl, rfl, rfl, trivial⟩ ⟨rfl, trivial⟩ fc_c69 rfl rfl rfl rfl rfl (kL1 rfl trivial) ?_))))
  rw [(grP_join (l := l) (by omega) (fun q hq => ⟨(hEd.rng q hq.1).1, (hEd.rng q hq.1).2.1.1⟩) hDgx).2 (by rw [← hro.2.1, ← hro.2.2.1]; exact (hst (by assumption) i (by omega)).2 _ hro.1 (by rw [hro.2.2.2.2]; simp_all) (by rw [hro.2.2.2.1]; omega))]
  refine xnt rfl (xpG rfl (TL.done (TQ.then (TC.condF rfl (TC.skip (TQ.inBlock (TQ.then (TC.region ?_))))))))
  refine xmi rfl (TL.add (((j + 1 : Nat) : Int)) rfl rfl (wrN (by omega)) rfl rfl (xai rfl (TL.done (TQ.roundK (j + 1) ⟨by omega, by omega⟩ ⟨rfl, trivial⟩ trivial (kE7 rfl rfl rfl rfl rfl rfl rfl trivial) (kL8 rfl rfl rfl rfl rfl rfl rfl rfl (kL2 rfl rfl trivial))))))
  refine xpG rfl (xmf rfl (xo rfl (xo rfl (xo rfl (xo rfl (xo rfl (xo rfl (xo rfl ?_))))))))
  refine xo rfl (xo rfl (xo rfl (xo rfl (xo rfl (xo rfl (xpF rfl (TL.done (TQ.then ?_))))))))
  refine TC.condF rfl (TC.skip (TQ.inBlock (TQ.then (TC.region (xmi rfl (TL.add (((j + 1 : Nat) : Int)) rfl rfl (wrN (by omega)) rfl rfl (xai rfl (TL.done ?_))))))))
  refine TQ.roundK (j + 1) ⟨by omega, by omega⟩ ⟨rfl, trivial⟩ trivial (kE7 rfl rfl rfl rfl rfl rfl rfl trivial) (kL8 rfl rfl rfl rfl rfl rfl rfl rfl (kL2 rfl rfl trivial))
  refine xo rfl (xo rfl (xo rfl (xo rfl (xo rfl (xo rfl (xo rfl (xpF rfl (xmf rfl ?_))))))))
  refine xo rfl (xo rfl (xo rfl (xo rfl (xo rfl (xo rfl (xo rfl (xo rfl (xo rfl ?_))))))))
  refine xo rfl (xo rfl (xo rfl (xo rfl (xpF rfl (TL.done (TQ.then (TC.condF rfl (TC.skip ?_))))))))
  refine TQ.inBlock (TQ.then (TC.region (xmi rfl (TL.add (((j + 1 : Nat) : Int)) rfl rfl (wrN (by omega)) rfl rfl (xai rfl (TL.done (TQ.roundK (j + 1) ⟨by omega, by omega⟩ ⟨rfl, trivial⟩ trivial (kE7 rfl rfl rfl rfl rfl rfl rfl trivial) (kL8 rfl rfl rfl rfl rfl rfl rfl rfl (kL2 rfl rfl trivial)))))))))
  refine xpG rfl (dE rfl (TC.region (xmi rfl (TL.quo (((m / 2 : Nat) : Int)) rfl rfl (by omega) (halfN (by omega)) rfl rfl (xai rfl (dI (xmi rfl (TL.add (((i + 1 : Nat) : Int)) rfl rfl (wrN (by omega)) rfl rfl ?_))))))))
  refine xai rfl (TL.done (TQ.roundK ((i + 1, m / 2)) ⟨⟨(show ((i + 1 : Nat) : Int) ≤ l.lev by omega), hm2⟩, (show l.lev.toNat - (i + 1) < l.lev.toNat - i by omega)⟩ ⟨rfl, rfl, trivial⟩ trivial (kE4 rfl rfl rfl rfl trivial) (kL7 rfl rfl rfl rfl rfl rfl rfl trivial)))
  refine xmf rfl (xo rfl (xo rfl (xo rfl (xo rfl (xpF rfl (dE rfl (TC.region (xmi rfl ?_))))))))
  refine TL.quo (((m / 2 : Nat) : Int)) rfl rfl (by omega) (halfN (by omega)) rfl rfl (xai rfl (dI (xmi rfl (TL.add (((i + 1 : Nat) : Int)) rfl rfl (wrN (by omega)) rfl rfl (xai rfl (TL.done (TQ.roundK ((i + 1, m / 2)) ⟨⟨(show ((i + 1 : Nat) : Int) ≤ l.lev by omega), hm2⟩, (show l.lev.toNat - (i + 1) < l.lev.toNat - i by omega)⟩ ⟨rfl, rfl, trivial⟩ trivial (kE4 rfl rfl rfl rfl trivial) (kL7 rfl rfl rfl rfl rfl rfl rfl trivial))))))))
  refine dE rfl (sA (xat rfl (dR ?_)))
  refine FQ.ret1 (v := (.bool true)) (Bs := [_, _, _]) [0, 1, 2] rfl rfl rfl ⟨rfl, rfl, rfl, trivial⟩ ?_
  exact ⟨rfl, rfl⟩

set_option maxHeartbeats 1000000 in
theorem book13_ok {pb ab mb : Nat} {σ : M} {v : Value} {l : Lay} (hl : l.Ok)  : Go.Eng.Fn Tryz.prog 21 [.pointer (some ⟨pb, 0, none⟩)] [pt pb (.cells #[.int .i64 l.V, .int .i64 l.S, .int .i64 l.T, .pointer (some ⟨ab, 0, none⟩), .int .i64 l.V, .int .i64 l.S, .int .i64 l.T, .iface 107 (.agg #[.pointer (some ⟨ab, 0, none⟩)]), .int .i64 1, .int .i64 0, .int .i64 l.V, .int .i64 l.S, .int .i64 l.T, .iface 107 (.agg #[.pointer (some ⟨ab, 0, none⟩)]), v] 54), arenaA ab mb 149 110 (σ)] (fun x Bs => ∃ na nn nc ca xa mr bc offc cn cc bx offx xn xc Acl Ax fc fx ps, x = .agg #[.int .i64 l.V, .int .i64 l.S, .int .i64 l.T, .slice na nn nc, .slice ca cn cc, .map (some mr), .slice xa xn xc] ∧ Bs = [pt pb (.cells #[.int .i64 l.V, .int .i64 l.S, .int .i64 l.T, .pointer (some ⟨ab, 0, none⟩), .int .i64 l.V, .int .i64 l.S, .int .i64 l.T, .iface 107 (.agg #[.pointer (some ⟨ab, 0, none⟩)]), .int .i64 1, .int .i64 0, .int .i64 l.V, .int .i64 l.S, .int .i64 l.T, .iface 107 (.agg #[.pointer (some ⟨ab, 0, none⟩)]), v] 54), arenaA ab mb 149 110 (σ), Acl, mapA mr nmV natV ps, Ax] ∧ BookOk l σ ca bc offc cn Acl fc xa bx offx xn Ax fx ps) := by
  have hcb := cells_b hl
  have hnb := nodes_b hl
  obtain ⟨N, hN⟩ : ∃ N : Nat, l.cells = (N : Int) := ⟨l.cells.toNat, by have := lay_b hl; have := ord_b hl; omega⟩
  refine Fn.enter (Tryz.func21) rfl rfl (fun w0 R => ?_)
  refine sA (TL.alloc 2 (cs := #[.int .i64 0, .int .i64 0, .int .i64 0, .slice none 0 0, .slice none 0 0, .map none, .slice none 0 0]) fc_z61 rfl rfl rfl (fun _ => trivial) (fun bk2 => (dA (TL.asg (.slice none 0 0) rfl rfl rfl (dS (TC.seq (TC.nilA 3 (A := ownA encU 1 110 (.slice none 0 0) (cellsA σ 0)) (.inl ⟨rfl, rfl⟩) (TC.region (xmp rfl ?_)))))))))
  refine xN0 rfl (xf 0 fc_f54_0_0 rfl (xL3 0 fc_a23_3 rfl rfl (TL.callD [] [] (cells_ok hl) ⟨rfl, trivial⟩ trivial fc_c51 rfl rfl rfl rfl rfl trivial ?_)))
  rw [hN]
  refine xmi rfl (dK (TC.loopK (X := Nat × Value) [0, 2, 11] [0, 1, 2] (fun ⟨i, w⟩ => [(12, .int .i64 ((i : Nat) : Int)), (3, w)]) (fun ⟨i, w⟩ => [(3, ownA encU 1 110 w (cellsA σ i))]) (fun ⟨i, w⟩ => i ≤ N) (fun ⟨i, w⟩ => N - i) ((0, _)) (Nat.zero_le _) ⟨rfl, rfl, trivial⟩ ⟨rfl, trivial⟩ (fun y hI => ?_)))
  obtain ⟨i, w⟩ := y
  replace hI : i ≤ N := hI
  refine TC.sub (env' := [(12, _), (3, _), (0, _), (2, _), (11, _)]) (L' := [(3, _), (0, _), (1, _), (2, _)]) ⟨rfl, rfl, rfl, rfl, rfl, trivial⟩ ⟨rfl, rfl, rfl, rfl, trivial⟩ (sA (TL.lss rfl rfl rfl rfl (fun q1 => ?_) (fun q1 => ?_)))
  refine dS (TC.condT rfl (TC.skip (TQ.then (TC.seq (TC.block (sA (xmi rfl (xai rfl ?_))))))))
  refine dA (xmp rfl (xN0 rfl (xf 3 fc_f54_1_3 rfl (xlp 0 fc_s37 rfl rfl (xmi rfl (TL.callD [1] [1] aload_ok ⟨rfl, rfl, trivial⟩ ⟨rfl, trivial⟩ fc_c65 rfl rfl rfl rfl rfl trivial (xmu rfl (xei rfl rfl ?_))))))))
  refine xei rfl rfl (xai rfl (xai rfl (dG (xmv rfl (xmi rfl (TL.bsN 4 [_] (encU (MemLike.get σ (i : Int))) fc_l24_110_1 fc_z110 ⟨rfl, trivial⟩ rfl (lit1 rfl) rfl rfl (fun bk4 => ⟨trivial, ?_⟩)))))))
  refine TL.appS 3 4 (d2 := #[MemLike.get σ (i : Int)]) rfl (rfl) rfl (fun _ => rfl) rfl rfl (row1 rfl) encU_one (by decide) fc_k24_110_1 (by rw [cellsA_size]; simp; omega) rfl rfl (fun v5 => ⟨trivial, ?_⟩)
  refine xav rfl (dI (TL.add (((i + 1 : Nat) : Int)) rfl rfl (wrN (by omega)) rfl rfl (xmi rfl (TL.done (TQ.roundK ((i + 1, _)) ⟨(show i + 1 ≤ N by omega), (show N - (i + 1) < N - i by omega)⟩ ⟨rfl, rfl, trivial⟩ ⟨rfl, trivial⟩ (kE3 rfl rfl rfl trivial) (kL3 rfl rfl rfl trivial))))))
  refine dS (TC.condF rfl (TC.exit (TQ.thenExit (TQ.thenExit (TQ.blockHere (TQ.then (TC.seq ?_)))))))
  obtain rfl : i = N := by omega
  refine TC.ownW 3 rfl (fun a8 g8 c8 hv8 hc8 ha8 => ?_)
  cases hv8
  have hz8 := cellsA_size (σ := σ) (i := i)
  refine TC.region (xmp rfl (xN0 rfl (xf 0 fc_f54_0_0 rfl (xL3 0 fc_a23_3 rfl rfl (TL.callD [] [] ref13_ok ⟨rfl, trivial⟩ trivial fc_c49 rfl rfl rfl rfl rfl trivial (xmv rfl (TL.call [3] [3, 6, 7] (open_ok hl ha8 (own_rowOf ha8)) ⟨rfl, rfl, trivial⟩ ⟨rfl, trivial⟩ fc_c66 rfl rfl rfl rfl ?_)))))))
  rintro x Bs ⟨na, nn, nc, xv, mr, ps, d9, rfl, rfl, hps, hN2, hsz⟩
  refine ⟨rfl, trivial, ?_⟩
  refine TL.ownW 7 rfl (fun ax gx cx hvx hcx hax => ?_)
  subst hvx
  refine TL.stW 2 7 [_, _, _, _, _, _, _] rfl rfl rfl rfl rfl rfl fc_a61_7 rfl rfl trivial (dR ?_)
  refine FQ.retG (rs := [.cell 2 61]) [(.agg _)] (Bs := [_, _, _, _, _]) [0, 1, 3, 6, 7] rfl ⟨⟨_, _, _, _, _, 2, rfl, rfl, .inr ⟨7, [_, _, _, _, _, _, _], fc_a61_7, rfl, rfl⟩⟩, trivial⟩ rfl rfl ⟨rfl, rfl, rfl, rfl, rfl, trivial⟩ ?_
  refine ⟨_, _, _, _, _, _, _, _, _, _, _, _, _, _, _, _, _, _, _, rfl, rfl, ⟨ha8, own_rowOf ha8, hax, own_rowOf hax, by omega, fun i2 h2 => cellsA_get (by omega), hps, by omega, fun i2 h2 => hN2 i2 h2⟩⟩

set_option maxHeartbeats 1000000 in
theorem is13_ok {pb ab mb : Nat} {σ : M} {v : Value} {d : Array EdR} {l : Lay} (hl : l.Ok) {pr : Int → Int} {g : G} (hRG : Right l pr σ g) (hM : Mt g d)  : FnD Tryz.prog 18 [.pointer (some ⟨pb, 0, none⟩)] [pt pb (.cells #[.int .i64 l.V, .int .i64 l.S, .int .i64 l.T, .pointer (some ⟨ab, 0, none⟩), .int .i64 l.V, .int .i64 l.S, .int .i64 l.T, .iface 107 (.agg #[.pointer (some ⟨ab, 0, none⟩)]), .int .i64 1, .int .i64 0, .int .i64 l.V, .int .i64 l.S, .int .i64 l.T, .iface 107 (.agg #[.pointer (some ⟨ab, 0, none⟩)]), v] 54), arenaA ab mb 149 110 (σ), ownA encE 5 65 v d] (.bool true) [pt pb (.cells #[.int .i64 l.V, .int .i64 l.S, .int .i64 l.T, .pointer (some ⟨ab, 0, none⟩), .int .i64 l.V, .int .i64 l.S, .int .i64 l.T, .iface 107 (.agg #[.pointer (some ⟨ab, 0, none⟩)]), .int .i64 1, .int .i64 0, .int .i64 l.V, .int .i64 l.S, .int .i64 l.T, .iface 107 (.agg #[.pointer (some ⟨ab, 0, none⟩)]), v] 54), arenaA ab mb 149 110 (σ), ownA encE 5 65 v d] := by
  have hlb := lok_bds hl
  have hEd : EdgeOk l σ g := by obtain ⟨F, mk, L, hI⟩ := hRG; exact hI.edges
  have hdz : d.size ≤ l.S := Rel.size hl ⟨g, hRG, hM⟩
  refine Fn.enter (Tryz.func18) rfl rfl (fun w0 R => ?_)
  refine sA (xaf rfl (dS (TC.ownW 2 rfl (fun a9 g9 c9 hv9 hc9 ha9 => ?_))))
  cases hv9
  refine TC.region (xmp rfl (TL.call [0, 1] [0, 1, 3, 4, 5] (book13_ok hl) ⟨rfl, trivial⟩ ⟨rfl, rfl, trivial⟩ fc_c21 rfl rfl rfl rfl ?_))
  rintro xb Bs ⟨na, nn, nc, ca, xa, mr, bc, offc, cn, cc, bx, offx, xn, xc, Acl, Ax, fc, fx, ps, rfl, rfl, hB⟩
  refine ⟨rfl, trivial, ?_⟩
  refine TL.alloc 6 (cs := #[.int .i64 0, .int .i64 0, .int .i64 0, .slice none 0 0, .slice none 0 0, .map none, .slice none 0 0]) fc_z61 rfl rfl rfl (fun _ => trivial) (fun bk6 => (TL.stW 6 7 [_, _, _, _, _, _, _] rfl rfl rfl rfl rfl rfl fc_a61_7 rfl rfl trivial (dA (xL7 6 fc_a61_7 rfl rfl (TL.call [3, 4, 5] [3, 4, 5, 7] (bedges_ok hl hB hEd) ⟨rfl, trivial⟩ ⟨rfl, rfl, rfl, trivial⟩ fc_c22 rfl rfl rfl rfl ?_)))))
  rintro x7 Bs ⟨ve, E, rfl, rfl, hME⟩
  refine ⟨rfl, trivial, ?_⟩
  refine TL.ownW 7 rfl (fun aE gE cE hvE hcE haE => ?_)
  subst hvE
  have hEz := hM.size_eq hME
  refine xmu rfl (xes rfl rfl (xet rfl rfl (xas rfl (xat rfl (dB (xmt rfl (xnt rfl (xmf rfl ?_))))))))
  refine xms rfl (xz fc_l52_65_5 rfl (xmp rfl (xN0 rfl (xf 14 fc_f54_3_14 rfl (xlv 0 fc_s52 rfl rfl (xz fc_l52_65_5 rfl (TL.neqF rfl rfl (by omega) rfl rfl (xpF rfl ?_))))))))
  refine xmf rfl (xL7 6 fc_a61_7 rfl rfl (TL.callD [3, 4, 5] [3, 4, 5] (bsound_ok hl hB hRG (fun h => by cases h)) ⟨rfl, rfl, trivial⟩ ⟨rfl, rfl, rfl, trivial⟩ fc_c25 rfl rfl rfl rfl rfl trivial (xnt rfl (xpF rfl (TL.done (TQ.then (TC.condF rfl (TC.skip ?_))))))))
  refine TQ.then (sB (xms rfl (xz fc_l52_65_5 rfl (xmi rfl (dK (TC.loopK (X := Nat) [0, 33, 34] [0, 1, 2, 3, 4, 5, 6, 7] (fun j => [(35, .int .i64 ((j : Nat) : Int))]) (fun j => []) (fun j => j ≤ E.size) (fun j => E.size - j) (0) (Nat.zero_le _) ⟨rfl, trivial⟩ trivial (fun j hI => (TC.sub (env' := [(35, _), (0, _), (33, _), (34, _)]) (L' := [(0, _), (1, _), (2, _), (3, _), (4, _), (5, _), (6, _), (7, _)]) ⟨rfl, rfl, rfl, rfl, trivial⟩ ⟨rfl, rfl, rfl, rfl, rfl, rfl, rfl, rfl, trivial⟩ (sA ?_)))))))))
  refine TL.lss rfl rfl rfl rfl (fun q1 => ?_) (fun q1 => ?_)
  refine dS (TC.condT rfl (TC.skip (TQ.then (TC.seq (TC.block (sA (TL.iaO rfl haE rfl fc_l52_65_5 (by omega) rfl rfl (TL.ldRx 7 [_, _, _, _, _] rfl rfl (own_rowOf haE) (by omega) rfl fc_a65_5 rfl rfl ?_))))))))
  refine TL.alloc 8 (cs := #[.int .i64 0, .int .i64 0, .int .i64 0, .int .i64 0, .bool false]) fc_z65 rfl rfl rfl (fun _ => trivial) (fun bk8 => (TL.stW 8 5 [_, _, _, _, _] rfl rfl rfl rfl rfl rfl fc_a65_5 rfl rfl trivial (dA (xmp rfl (xf 0 fc_f65_0_0 rfl (xli 8 fc_s3 rfl rfl ?_))))))
  obtain ⟨i, hi, hsl, hde⟩ := hM.find hME (j := j) (by omega)
  refine TL.callD [0, 2] [0, 2] (slot13_ok hl (by omega)) ⟨rfl, rfl, trivial⟩ ⟨rfl, rfl, trivial⟩ fc_c23 rfl rfl rfl rfl rfl trivial ?_
  rw [hsl]
  refine xai rfl (dS (TC.draw [(0, true), (1, true), (2, true), (3, true), (4, true), (5, true), (6, true), (7, true), (8, true), (9, true), (10, true), (11, true), (12, true)] [0, 2, 8] fc_m (by kernel_rfl) (xmi rfl (TL.lssF rfl rfl (by omega) rfl rfl (xmf rfl (xmp rfl (xN0 rfl (xf 14 fc_f54_3_14 rfl ?_))))))))
  refine xlv 0 fc_s52 rfl rfl (xmi rfl (TL.iaO rfl ha9 rfl fc_l52_65_5 (by omega) rfl rfl (TL.ldRx 2 [_, _, _, _, _] rfl rfl (own_rowOf ha9) (by omega) rfl fc_a65_5 rfl rfl (xL5 8 fc_a65_5 rfl rfl (TL.neqA rfl rfl (ed_eqT (by kernel_rfl) hde) fc_eg65 rfl rfl (xpF rfl (TL.done (TQ.then ?_))))))))
  refine TC.condF rfl (TC.skip (TQ.inBlock (TQ.then (TC.region (TL.add (((j + 1 : Nat) : Int)) rfl rfl (wrN (by omega)) rfl rfl (xmi rfl (TL.done (TQ.roundK (j + 1) ⟨by omega, by omega⟩ ⟨rfl, trivial⟩ trivial (kE3 rfl rfl rfl trivial) (kL8 rfl rfl rfl rfl rfl rfl rfl rfl trivial)))))))))
  refine dS (TC.condF rfl (TC.exit (TQ.thenExit (TQ.thenExit (TQ.blockHere (TQ.then (sA (xat rfl ?_))))))))
  refine dR ?_
  refine FQ.ret1 (v := (.bool true)) (Bs := [_, _, _]) [0, 1, 2] rfl rfl rfl ⟨rfl, rfl, rfl, trivial⟩ ?_
  exact ⟨rfl, rfl⟩

theorem backL_w {V S T : Int} {da oa : Option Addr} {dn dc on oc : Nat} {s : Int} (hno : ¬ (okL V S T ∧ V ≤ 6 ∧ S ≤ 8 ∧ dn ≤ 60 ∧ on ≤ 40)) : FnD Tryz.prog 6 [.agg #[.int .i64 V, .int .i64 S, .int .i64 T, .slice da dn dc, .slice oa on oc], .int .i64 s] [] (.bool true) [] := by
  refine Fn.enter (Tryz.func6) rfl rfl (fun w0 R => ?_)
  refine sA (xB 0 rfl (fun bk0 => (xaf rfl (dB (xL5 0 fc_a27_5 rfl rfl (TL.callD [] [] right13_ok ⟨rfl, trivial⟩ trivial fc_c14 rfl rfl rfl rfl rfl trivial ?_))))))
  rw [decide_eq_false hno]
  refine xnf rfl (dT rfl (TL.callD [] [] awake13_ok trivial trivial fc_c15 rfl rfl rfl rfl rfl trivial (xat rfl (dRR ?_))))
  refine FQ.ret1 (v := (.bool true)) (Bs := []) [] rfl rfl rfl trivial ?_
  exact ⟨rfl, rfl⟩

set_option maxHeartbeats 2000000 in
theorem backL_r {l : Lay} (hl : l.Ok) {da oa : Option Addr} {dn dc on oc : Nat} {Ad : Assn} {bd offd : Nat} {fd : Nat → Int} (hda : 0 < dn → da = some ⟨bd, offd, none⟩) (hAd : RowOf Ad encU 1 bd offd dn fd) (hfd : ∀ i, i < dn → 0 ≤ fd i ∧ fd i < 18446744073709551616) {bo offo : Nat} {fo : Nat → OpR} (hoa : 0 < on → oa = some ⟨bo, offo, none⟩) (hAo : RowOf Ad encO 4 bo offo on fo) {s : Int} (hok : (okL l.V l.S l.T ∧ (l.V : Int) ≤ 6 ∧ (l.S : Int) ≤ 8 ∧ dn ≤ 60 ∧ on ≤ 40)) : FnD Tryz.prog 6 [.agg #[.int .i64 l.V, .int .i64 l.S, .int .i64 l.T, .slice da dn dc, .slice oa on oc], .int .i64 s] [Ad] (.bool true) [Ad] := by
  obtain ⟨hk1, hk2, hk3, hk4, hk5⟩ := hok
  have hok : (okL l.V l.S l.T ∧ (l.V : Int) ≤ 6 ∧ (l.S : Int) ≤ 8 ∧ dn ≤ 60 ∧ on ≤ 40) := ⟨hk1, hk2, hk3, hk4, hk5⟩
  refine Fn.enter (Tryz.func6) rfl rfl (fun w0 R => ?_)
  refine sA (xB 1 rfl (fun bk1 => (xaf rfl (dB (xL5 1 fc_a27_5 rfl rfl (TL.callD [] [] right13_ok ⟨rfl, trivial⟩ trivial fc_c14 rfl rfl rfl rfl rfl trivial ?_))))))
  rw [decide_eq_true hok]
  refine xnt rfl (dF rfl (xL5 1 fc_a27_5 rfl rfl (TL.call [0] [0, 2, 3, 4] (begun13_ok hl hda hAd hfd (by omega)) ⟨rfl, trivial⟩ ⟨rfl, trivial⟩ fc_c16 rfl rfl rfl rfl ?_)))
  rintro x Bs ⟨pb, ab, mb, rfl, rfl⟩
  refine ⟨rfl, trivial, ?_⟩
  refine xap rfl (dB (xmp rfl (TL.nilP false rfl rfl fc_p30 rfl rfl rfl (TL.done (TQ.then (TC.condF rfl (TC.skip (TQ.then ?_))))))))
  refine sB (xf 4 fc_f27_2_4 rfl (xls 1 fc_s25 rfl rfl (xz fc_l25_33_4 rfl (xmi rfl (dK ?_)))))
  refine TC.loopK (X := Nat × M × Value × Array EdR) [1, 2, 4, 5, 20, 21] [0, 1] (fun ⟨i, σ, sv, d⟩ => [(22, .int .i64 ((i : Nat) : Int))]) (fun ⟨i, σ, sv, d⟩ => [(2, pt pb (.cells #[.int .i64 l.V, .int .i64 l.S, .int .i64 l.T, .pointer (some ⟨ab, 0, none⟩), .int .i64 l.V, .int .i64 l.S, .int .i64 l.T, .iface 107 (.agg #[.pointer (some ⟨ab, 0, none⟩)]), .int .i64 1, .int .i64 0, .int .i64 l.V, .int .i64 l.S, .int .i64 l.T, .iface 107 (.agg #[.pointer (some ⟨ab, 0, none⟩)]), sv] 54)), (3, arenaA ab mb 149 110 (σ)), (4, ownA encE 5 65 sv d)]) (fun ⟨i, σ, sv, d⟩ => i ≤ on ∧ Rel l (fun x => if dn = 0 then 0 else fd (x.toNat % dn)) σ d) (fun ⟨i, σ, sv, d⟩ => on - i) ((0, _, _, #[])) ⟨Nat.zero_le _, Rel.born hl hfd (by have := cells_b hl; have := nodes_b hl; have := ord_b hl; omega)⟩ ⟨rfl, trivial⟩ ⟨rfl, rfl, rfl, trivial⟩ (fun y hI => ?_)
  obtain ⟨i, σ, sv, d⟩ := y
  obtain ⟨hi, hR⟩ := hI
  replace hi : i ≤ on := hi
  replace hR : Rel l (fun x => if dn = 0 then 0 else fd (x.toNat % dn)) σ d := hR
  refine TC.sub (env' := [(22, _), (1, _), (2, _), (4, _), (5, _), (20, _), (21, _)]) (L' := [(2, _), (3, _), (4, _), (0, _), (1, _)]) ⟨rfl, rfl, rfl, rfl, rfl, rfl, rfl, trivial⟩ ⟨rfl, rfl, rfl, rfl, rfl, trivial⟩ (sA (TL.lss rfl rfl rfl rfl (fun q1 => ?_) (fun q1 => ?_)))
  refine dS (TC.condT rfl (TC.skip (TQ.then (TC.seq (TC.block (sA (TL.iaO rfl hoa rfl fc_l25_33_4 (by omega) rfl rfl (TL.ldRx 0 [_, _, _, _] rfl rfl hAo (by omega) rfl fc_a33_4 rfl rfl ?_))))))))
  refine TL.alloc 5 (cs := #[.int .i64 0, .int .i64 0, .int .i64 0, .int .i64 0]) fc_z33 rfl rfl rfl (fun _ => trivial) (fun bk5 => (TL.stW 5 4 [_, _, _, _] rfl rfl rfl rfl rfl rfl fc_a33_4 rfl rfl trivial (dG (xmp rfl (xL4 5 fc_a33_4 rfl rfl (TL.call [2, 3, 4] [2, 3, 4] (step13_ok hl hR) ⟨rfl, rfl, trivial⟩ ⟨rfl, rfl, rfl, trivial⟩ fc_c17 rfl rfl rfl rfl ?_))))))
  rintro x Bs ⟨rfl, σ2, v2, d2, rfl, hR2⟩
  refine ⟨rfl, trivial, ?_⟩
  refine dI (TL.add (((i + 1 : Nat) : Int)) rfl rfl (wrN (by omega)) rfl rfl (xmi rfl (TL.done (TQ.roundK ((i + 1, _, _, _)) ⟨⟨(show i + 1 ≤ on by omega), hR2⟩, (show on - (i + 1) < on - i by omega)⟩ ⟨rfl, trivial⟩ ⟨rfl, rfl, rfl, trivial⟩ (kE6 rfl rfl rfl rfl rfl rfl trivial) (kL2 rfl rfl trivial)))))
  refine dS (TC.condF rfl (TC.exit (TQ.thenExit (TQ.thenExit (TQ.blockHere (TQ.then (TC.seq ?_)))))))
  have hsz := hR.size hl
  have lb := lev_b hl
  refine TC.region (xmp rfl (xmi rfl (TL.callD [2, 4] [2, 4] (slot13_ok hl (by omega)) ⟨rfl, rfl, trivial⟩ ⟨rfl, rfl, trivial⟩ fc_c23 rfl rfl rfl rfl rfl trivial (xai rfl (dS (TC.seq (TC.ownW 4 rfl (fun a9 g9 c9 hv9 hc9 ha9 => ?_))))))))
  cases hv9
  refine TC.region (xmi rfl (TL.lss rfl rfl rfl rfl (fun q2 => ?_) (fun q2 => ?_)))
  refine xmt rfl (xo rfl (xo rfl (xo rfl (xo rfl (xo rfl (xo rfl (xo rfl (xo rfl ?_))))))))
  refine xo rfl (xpT rfl (dT rfl (TL.callD [] [] awake13_ok trivial trivial fc_c15 rfl rfl rfl rfl rfl trivial (xat rfl (dRR ?_)))))
  refine FQ.ret1 (v := (.bool true)) (Bs := [_]) [0] rfl rfl rfl ⟨rfl, trivial⟩ ?_
  exact ⟨rfl, rfl⟩
  refine xmf rfl ?_
  obtain ⟨i0, hi0, hsn, hs0⟩ : ∃ i0 : Nat, i0 < d.size ∧ slotN (fun i => d[i]!) s d.size = (i0 : Int) ∧ d[i0]!.slot = s := by rcases slotN_cases (f := (fun i => d[i]!)) (s := s) (n := d.size) with ⟨h1, _⟩ | ⟨i0, h1, h2, h3⟩; exact absurd (by omega) ‹¬ slotN (fun i => d[i]!) s d.size < 0›; exact ⟨i0, h1, h2, h3⟩
  rw [hsn]
  refine xmp rfl (xN0 rfl (xf 14 fc_f54_3_14 rfl (xlv 2 fc_s52 rfl rfl (xmi rfl (TL.iaO rfl ha9 rfl fc_l52_65_5 (by omega) rfl rfl (xf 4 fc_f65_4_4 rfl (TL.ldRF 4 (.bool _) rfl rfl (own_rowG ha9 (by omega)) (by omega) (encE_ok _).1 rfl fc_s4 rfl rfl (TL.not _ _ rfl rfl rfl rfl ?_))))))))
  refine TL.pickF (.bool _) rfl rfl rfl rfl (TL.done (TQ.then (TC.cond rfl (fun q3 => ?_) (fun q3 => ?_))))
  refine sA (TL.callD [] [] awake13_ok trivial trivial fc_c15 rfl rfl rfl rfl rfl trivial (xat rfl (dRR ?_)))
  refine FQ.ret1 (v := (.bool true)) (Bs := [_]) [0] rfl rfl rfl ⟨rfl, trivial⟩ ?_
  exact ⟨rfl, rfl⟩
  refine TC.skip (TQ.then (TC.seq (TC.seq ?_)))
  have htr : d[i0]!.tr = true := by have h9 : (!d[i0]!.tr) = false := (by assumption); simpa using h9
  obtain rfl := ha9 (by omega)
  refine TC.region (xmp rfl (xN0 rfl (xf 14 fc_f54_3_14 rfl (xlv 2 fc_s52 rfl rfl (xmi rfl (TL.iaO rfl ha9 rfl fc_l52_65_5 (by omega) rfl rfl (xf 3 fc_f65_3_3 rfl (TL.ldRF 4 (.int _ _) rfl rfl (own_rowG ha9 (by omega)) (by omega) (encE_ok _).1 rfl fc_s3 rfl rfl ?_))))))))
  refine xai rfl (dK (TC.loopK (X := M × Array EdR × Int) [1, 2, 4, 5, 8] [0, 1, 2] (fun ⟨σ, D, m⟩ => [(9, .int .i64 m)]) (fun ⟨σ, D, m⟩ => [(3, arenaA ab mb 149 110 (σ)), (4, ownA encE 5 65 (.slice (some ⟨g9, 0, none⟩) d.size c9) D)]) (fun ⟨σ, D, m⟩ => (D.size = d.size ∧ D[i0]!.slot = s ∧ D[i0]!.tr = true ∧ D[i0]!.lv = m) ∧ Rel l (fun x => if dn = 0 then 0 else fd (x.toNat % dn)) σ D) (fun ⟨σ, D, m⟩ => (l.lev - m).toNat) ((σ, d, d[i0]!.lv)) ⟨⟨rfl, hs0, htr, rfl⟩, hR⟩ ⟨rfl, trivial⟩ ⟨rfl, rfl, trivial⟩ (fun y hI => ?_)))
  obtain ⟨σ, D, m⟩ := y
  obtain ⟨⟨hDz, hsD, htD, hlD⟩, hRD⟩ := hI
  replace hDz : D.size = d.size := hDz
  replace hsD : D[i0]!.slot = s := hsD
  replace htD : D[i0]!.tr = true := htD
  replace hlD : D[i0]!.lv = m := hlD
  replace hRD : Rel l (fun x => if dn = 0 then 0 else fd (x.toNat % dn)) σ D := hRD
  refine TC.sub (env' := [(9, _), (1, _), (2, _), (4, _), (5, _), (8, _)]) (L' := [(3, _), (4, _), (0, _), (1, _), (2, _)]) ⟨rfl, rfl, rfl, rfl, rfl, rfl, trivial⟩ ⟨rfl, rfl, rfl, rfl, rfl, trivial⟩ (TC.seq (TC.seq ?_))
  have hrD := hRD.rng hl (i := i0) (by omega)
  refine TC.region (xmi rfl (TL.add _ rfl rfl (wr64 (by omega)) rfl rfl (xf 0 fc_f27_0_0 rfl (xL3 1 fc_a23_3 rfl rfl (TL.callD [] [] (levels_ok hl) ⟨rfl, trivial⟩ trivial fc_c19 rfl rfl rfl rfl rfl trivial (TL.lss rfl rfl rfl rfl (fun q4 => ?_) (fun q4 => ?_)))))))
  refine TL.done (TQ.then (TC.condT rfl (TC.skip (TQ.then (TC.seq (TC.block (TC.seq ?_)))))))
  obtain ⟨σ2, htu, hR2⟩ := hRD.treeUp hl (i := i0) (by omega) htD (by omega)
  rw [hsD] at htu
  refine TC.region (xmp rfl (xN0 rfl (xf 4 fc_f54_2_4 rfl (xL10 2 fc_a51_10 rfl rfl (xmi rfl (TL.callD [3] [3] (treeUp_ok (p := P1) plainM hl htu) ⟨rfl, rfl, trivial⟩ ⟨rfl, trivial⟩ fc_c27 rfl rfl rfl rfl rfl trivial (dG (xmp rfl ?_))))))))
  refine xN0 rfl (xf 14 fc_f54_3_14 rfl (xlv 2 fc_s52 rfl rfl (xmi rfl (TL.iaO rfl ha9 rfl fc_l52_65_5 (by omega) rfl rfl (xf 3 fc_f65_3_3 rfl (TL.ldRF 4 (.int _ _) rfl rfl (own_rowG ha9 (by omega)) (by omega) (encE_ok _).1 rfl fc_s3 rfl rfl (TL.add _ rfl rfl (wr64 (by omega)) rfl rfl (TL.iaO rfl ha9 rfl fc_l52_65_5 (by omega) rfl rfl ?_))))))))
  refine xf 3 fc_f65_3_3 rfl (TL.stOF 4 (i := i0) (cur := D[i0]!) (u := { D[i0]! with lv := D[i0]!.lv + 1 }) (by omega) rfl rfl rfl rfl (by omega) (rfl) ⟨(encE_ok _).1, rfl⟩ rfl fc_s3 rfl rfl trivial (dI (xmi rfl (TL.add _ rfl rfl (wr64 (by omega)) rfl rfl (xai rfl (TL.done ?_))))))
  refine TQ.roundK ((σ2, _, _)) ⟨⟨⟨(show (D.setIfInBounds i0 _).size = d.size by simpa using hDz), (by show (D.setIfInBounds i0 _)[i0]!.slot = s; rw [get!_set' (by omega), if_pos rfl]; exact hsD), (by show (D.setIfInBounds i0 _)[i0]!.tr = true; rw [get!_set' (by omega), if_pos rfl]; exact htD), (by show (D.setIfInBounds i0 _)[i0]!.lv = m + 1; rw [get!_set' (by omega), if_pos rfl]; show D[i0]!.lv + 1 = _; rw [hlD])⟩, hR2⟩, (show (l.lev - (m + 1)).toNat < (l.lev - m).toNat by omega)⟩ ⟨rfl, trivial⟩ ⟨rfl, rfl, trivial⟩ (kE5 rfl rfl rfl rfl rfl trivial) (kL3 rfl rfl rfl trivial)
  refine dE rfl (sB (xmp rfl ?_))
  have hRx := hRD
  obtain ⟨g2, hRG2, hM2⟩ := hRx
  refine TL.callD [2, 3, 4] [2, 3, 4] (is13_ok hl hRG2 hM2) ⟨rfl, trivial⟩ ⟨rfl, rfl, rfl, trivial⟩ fc_c18 rfl rfl rfl rfl rfl trivial (xnt rfl (TL.done (TQ.then (TC.condF rfl (TC.skip (TQ.then (TC.seq ?_)))))))
  obtain ⟨σf, σp, hfe, hqu, hpl, hRb⟩ := hRD.back hl (i := i0) (by omega) htD
  rw [hsD] at hfe hqu hpl
  refine TC.region (xmp rfl (xN0 rfl (xf 4 fc_f54_2_4 rfl (xL10 2 fc_a51_10 rfl rfl (xmi rfl (TL.callD [3] [3] (fell_ok (p := P1) plainM hl hfe) ⟨rfl, rfl, trivial⟩ ⟨rfl, trivial⟩ fc_c28 rfl rfl rfl rfl rfl trivial (dB (xf 0 fc_f27_0_0 rfl ?_))))))))
  refine xL3 1 fc_a23_3 rfl rfl (TL.callD [] [] (levels_ok hl) ⟨rfl, trivial⟩ trivial fc_c19 rfl rfl rfl rfl rfl trivial (xmi rfl (dK (TC.loopK (X := Nat) [1, 5, 8, 91] [0, 1, 2, 3, 4] (fun a => [(92, .int .i64 ((a : Nat) : Int))]) (fun a => []) (fun a => (a : Int) ≤ l.lev) (fun a => l.lev.toNat - a) (0) (by omega) ⟨rfl, trivial⟩ trivial (fun a hI => (TC.sub (env' := [(92, _), (1, _), (5, _), (8, _), (91, _)]) (L' := [(0, _), (1, _), (2, _), (3, _), (4, _)]) ⟨rfl, rfl, rfl, rfl, rfl, trivial⟩ ⟨rfl, rfl, rfl, rfl, rfl, trivial⟩ (sA (TL.lss rfl rfl rfl rfl (fun q5 => ?_) (fun q5 => ?_)))))))))
  refine dS (TC.condT rfl (TC.skip (TQ.then (TC.seq (TC.block (sA (xmi rfl (xai rfl ?_))))))))
  refine dS (TC.draw [(0, true), (1, true), (2, true), (3, true), (4, true), (5, true), (6, true), (7, true), (8, false), (9, true), (10, true), (11, true), (12, true), (13, true), (14, true), (15, true), (16, true), (17, true), (18, true), (19, true), (20, true), (21, true), (22, true), (23, true), (24, true), (25, true), (26, true), (27, true), (28, true), (29, true), (30, true), (31, true), (32, true), (33, false), (34, true)] [2, 4] fc_m (by kernel_rfl) (xmp rfl (xN0 rfl (xf 4 fc_f54_2_4 rfl (xf 0 fc_f51_0_0 rfl (xf 0 fc_f49_0_0 rfl (xL6 2 fc_a45_6 rfl rfl (xmi rfl ?_))))))))
  refine xmi rfl (TL.callD [3] [3] (linked_ok (p := P1) plainM hl (hqu a ⟨by omega, by omega⟩).1) ⟨rfl, rfl, rfl, trivial⟩ ⟨rfl, trivial⟩ fc_c29 rfl rfl rfl rfl rfl (kL2 rfl rfl trivial) (xmf rfl (xmp rfl (xN0 rfl (xf 4 fc_f54_2_4 rfl (xf 0 fc_f51_0_0 rfl (xf 0 fc_f49_0_0 rfl (xL6 2 fc_a45_6 rfl rfl ?_))))))))
  refine xmi rfl (xmp rfl (xN0 rfl (xf 14 fc_f54_3_14 rfl (xlv 2 fc_s52 rfl rfl (xmi rfl (TL.iaO rfl ha9 rfl fc_l52_65_5 (by omega) rfl rfl (xf 1 fc_f65_1_1 rfl (TL.ldRF 4 (.int _ _) rfl rfl (own_rowG ha9 (by omega)) (by omega) (encE_ok _).1 rfl fc_s3 rfl rfl ?_))))))))
  refine xmp rfl (xN0 rfl (xf 14 fc_f54_3_14 rfl (xlv 2 fc_s52 rfl rfl (xmi rfl (TL.iaO rfl ha9 rfl fc_l52_65_5 (by omega) rfl rfl (xf 2 fc_f65_2_2 rfl (TL.ldRF 4 (.int _ _) rfl rfl (own_rowG ha9 (by omega)) (by omega) (encE_ok _).1 rfl fc_s3 rfl rfl (TL.callD [3] [3] (same_ok (p := P1) plainM hl (hqu a ⟨by omega, by omega⟩).2) ⟨rfl, rfl, rfl, rfl, trivial⟩ ⟨rfl, trivial⟩ fc_c30 rfl rfl rfl rfl rfl (kL2 rfl rfl trivial) ?_))))))))
  refine xpF rfl (TL.done (TQ.then (TC.condF rfl (TC.skip (TQ.inBlock (TQ.then (TC.region (TL.add (((a + 1 : Nat) : Int)) rfl rfl (wrN (by omega)) rfl rfl ?_))))))))
  refine xmi rfl (TL.done (TQ.roundK (a + 1) ⟨by omega, by omega⟩ ⟨rfl, trivial⟩ trivial (kE4 rfl rfl rfl rfl trivial) (kL5 rfl rfl rfl rfl rfl trivial)))
  refine dS (TC.condF rfl (TC.exit (TQ.thenExit (TQ.thenExit (TQ.blockHere (TQ.then (sA (xmp rfl ?_))))))))
  refine xN0 rfl (xf 4 fc_f54_2_4 rfl (xf 0 fc_f51_0_0 rfl (xf 6 fc_f49_1_6 rfl (xL4 2 fc_a47_4 rfl rfl (xmi rfl (TL.callD [3] [3] (elift_ok plainM hl) ⟨rfl, rfl, rfl, trivial⟩ ⟨rfl, trivial⟩ fc_c31 rfl rfl rfl rfl rfl trivial (dA (xmp rfl ?_))))))))
  refine xN0 rfl (xf 4 fc_f54_2_4 rfl (xL10 2 fc_a51_10 rfl rfl (xmi rfl (TL.callD [3] [3] (plant_ok (p := P1) plainM hl hpl) ⟨rfl, rfl, trivial⟩ ⟨rfl, trivial⟩ fc_c32 rfl rfl rfl rfl rfl trivial (dA (xmp rfl (xN0 rfl (xf 14 fc_f54_3_14 rfl ?_))))))))
  refine xlv 2 fc_s52 rfl rfl (xmi rfl (TL.iaO rfl ha9 rfl fc_l52_65_5 (by omega) rfl rfl (xf 3 fc_f65_3_3 rfl (TL.stOF 4 (i := i0) (cur := D[i0]!) (u := { D[i0]! with lv := 0 }) (by omega) rfl rfl rfl rfl (by omega) (rfl) ⟨(encE_ok _).1, rfl⟩ rfl fc_s3 rfl rfl trivial (dA (xmp rfl ?_))))))
  have hRx := hRb
  obtain ⟨g2, hRG2, hM2⟩ := hRx
  refine TL.callD [2, 3, 4] [2, 3, 4] (is13_ok hl hRG2 hM2) ⟨rfl, trivial⟩ ⟨rfl, rfl, rfl, trivial⟩ fc_c18 rfl rfl rfl rfl rfl trivial (xmt rfl (TL.callD [] [] awake13_ok trivial trivial fc_c15 rfl rfl rfl rfl rfl trivial (xpT rfl (xat rfl (dR ?_)))))
  refine FQ.ret1 (v := (.bool true)) (Bs := [_]) [0] rfl rfl rfl ⟨rfl, trivial⟩ ?_
  exact ⟨rfl, rfl⟩



end Go.Proofs.YtfmjfdbmpkcndaaGreat
