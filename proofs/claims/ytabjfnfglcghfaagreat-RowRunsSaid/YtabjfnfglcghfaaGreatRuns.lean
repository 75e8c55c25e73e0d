/-
  'tombololaw19.RowRuns' returns true for every input, and leaves its arguments as they were. No condition.
-/
import Derived.Test.YtabjfnfglcghfaaGreatRows
import Derived.Test.YtabjfnfglcghfaaGreatConC
set_option linter.unusedVariables false
set_option linter.unusedSimpArgs false
set_option maxRecDepth 100000
namespace Go.Proofs.YtabjfnfglcghfaaGreat
open Go.ChangeShapes Go.WideShapes Go.ChangeAt Go.RowKit Go.Joins Go.Eng Go.Tm
theorem Tryz.own:ownKnob Tryz.prog.godebug=none:=by kernel_rfl
theorem Tryz.laidOut:laidOutB Tryz.prog=true:=by kernel_rfl
section
variable {H:Type} {enc:TypeId×Value→H} {W:World} {base b0:Nat} {r:Reach} {spare:Nat→Bool} {held:Bool} {v:Value} {d:DataW H} {p:List MemPlace}
theorem open_fit {t:TypeId} {ks:List CK} (hk:cks Tryz.prog 5 t=some ks) (hv:∃ cs,v=.agg cs) (h:DataW.Trod enc Tryz.prog W base spare held t v d p):∃ cs:List Value,v=.agg cs.toArray∧zeu enc Tryz.prog W base spare held cs ks:=by
 obtain ⟨cs,rfl⟩:=hv
 obtain ⟨fuel,hf⟩:=h
 exact ⟨cs.toList,by simp,zcZ 5 t ks _ hk ⟨fuel,_,hf⟩⟩
theorem zok (hs:∃ a n c,v=.slice a n c) (h:DataW.Trod enc Tryz.prog W base spare held 22 v d p):∃ (qa:Option Addr) (bq offq qn qc:Nat) (fq:Nat→Int),v=.slice qa qn qc∧(0<qn→qa=some ⟨bq,offq,none⟩)∧zaZ (AW W) encU 1 bq offq qn fq∧∀ i,i<qn→(fun z=>0≤z∧z<18446744073709551616) (fq i):=by
 obtain ⟨a0,n0,c0,rfl⟩:=hs
 obtain ⟨fuel,hf⟩:=h
 obtain ⟨x0,h0,h3⟩:=ztf (zcZ 5 22 [.s 29] [.slice a0 n0 c0] (by kernel_rfl) ⟨fuel,_,hf⟩)
 obtain ⟨rfl,_⟩:=List.cons.inj h0
 exact h3.row (en:=encU) (m:=1) (G:=fun z=>0≤z∧z<18446744073709551616) (by kernel_rfl) (by decide) (fun _=>rfl) fun cs h=>by
  obtain ⟨x,rfl,h9⟩:=ztf (zcZ 5 _ [.i .u64] cs (by kernel_rfl) h)
  obtain ⟨z,rfl,hw⟩:=h9
  have:=bounds_u64 hw; exact ⟨z,rfl,by omega⟩
theorem zol (hs:∃ a n c,v=.slice a n c) (h:DataW.Trod enc Tryz.prog W base spare held 23 v d p):∃ (qa:Option Addr) (bq offq qn qc:Nat) (fq:Nat→Acc),v=.slice qa qn qc∧(0<qn→qa=some ⟨bq,offq,none⟩)∧zaZ (AW W) zas 3 bq offq qn fq∧∀ i,i<qn→(fun z=>0≤z.val∧z.val<18446744073709551616) (fq i):=by
 obtain ⟨a0,n0,c0,rfl⟩:=hs
 obtain ⟨fuel,hf⟩:=h
 obtain ⟨x0,h0,h3⟩:=ztf (zcZ 5 23 [.s 34] [.slice a0 n0 c0] (by kernel_rfl) ⟨fuel,_,hf⟩)
 obtain ⟨rfl,_⟩:=List.cons.inj h0
 exact h3.row (en:=zas) (m:=3) (G:=fun z=>0≤z.val∧z.val<18446744073709551616) (by kernel_rfl) (by decide) (fun _=>rfl) fun cs h=>by
  obtain ⟨x0,x1,x2,rfl,g0,g1,g2⟩:=fits3 (zcZ 5 _ [.b,.i .i64,.i .u64] cs (by kernel_rfl) h)
  obtain ⟨z0,rfl⟩:=g0
  obtain ⟨z1,rfl,_⟩:=g1
  obtain ⟨z2,rfl,hw⟩:=g2
  have:=bounds_u64 hw; exact ⟨⟨z0,z1,z2⟩,rfl,by show 0≤z2∧z2<_; omega⟩
end
theorem rowruns_lifted (os:Os) (started:os.Started) (H:Type) (enc:TypeId×Value→H) :
  ReturnsInHanded {} Tryz.checked os 3 .any (Rows.rowRunsSpec.pre6 enc Tryz.prog Tryz.f3 Rows.rowRunsRow.domain false) (Rows.rowRunsSpec.post enc Tryz.prog Tryz.f3 false true false false):=by
 refine returnsInHanded_of_change (C:=Tryz.checked) Tryz.own started (by kernel_rfl) Tryz.func3
  (ChangeSpec.witness6 (enc:=enc) (C:=Tryz.checked) false ⟨#[],#[.slice none 0 0,.slice none 0 0],[]⟩ 8 (by kernel_rfl) (by kernel_rfl) (by kernel_rfl) (by kernel_rfl)) ?_
 intro W base args ds gs before hval0 hW hcnd _
 have hval:∀ (j:Nat) t v,Tryz.f3.params[j]?=some t→args[j]?=some v→Value.okWide Tryz.prog W .any base t v:=hval0
 have hW':=hW
 obtain ⟨p,q,hA0,hV,rfl,hfz,hnd⟩:=hW
 have hA:DataW.TrodAll enc Tryz.prog W 0 (fun _=>true) true Tryz.f3.params.toList args.toList ds p:=hA0
 rw [Tryz.params3] at hA hval
 obtain ⟨v0,v1,d0,d1,p0,p1,rfl,rfl,rfl,h0,h1⟩:=trodAll_two hA
 obtain ⟨rfl,rfl⟩:=trodVars_none hV
 have k0:=h0
 have k1:=h1
 obtain ⟨da,bd,offd,dn,dc,fd,rfl,hda,hAd,hfd⟩:=zok (okWide_slice Tryz.underlying22 (hval 0 22 _ rfl rfl)) h0
 obtain ⟨wa,bw,offw,wn,wc,fw,rfl,hwa,hAw,hfw⟩:=zol (okWide_slice Tryz.underlying23 (hval 1 23 _ rfl rfl)) h1
 have hfn:FnD Tryz.prog 3 [.slice da dn dc,.slice wa wn wc] [AW W] (.bool true) [AW W]:=by
  by_cases hok:(dn≤40∧wn≤60)
  ·exact znX hda hAd hfd hwa hAw hfw hok
  ·exact FnD.frame1 (znW hok)
 refine (Fn.callsW hfn).mono fun e W' ⟨he,hB⟩=>?_
 subst he
 refine ⟨_,rfl,_,_,_,[],_,[],hW',trodAll_mk1 (shut_bool Tryz.underlying4 true),trodAll_mk2 (Below.trod Tryz.laidOut (by kernel_rfl) (of_decide_eq_true (by kernel_rfl)) k0 hB (by obtain ⟨n,hn⟩:=k0; exact DataW.trod_lt n _ _ _ hn)) (Below.trod Tryz.laidOut (by kernel_rfl) (of_decide_eq_true (by kernel_rfl)) k1 hB (by obtain ⟨n,hn⟩:=k1; exact DataW.trod_lt n _ _ _ hn)),rfl,hB.frame _,fun h=>by cases h⟩
theorem zbT {a b:Bool} (h1:a=true) (h2:b=true):(a && b)=true:=by rw [h1,h2]; rfl
theorem zm1:laidOutB Tryz.prog=true:=Tryz.laidOut
theorem zm0:mapsRowed Tryz.prog=true:=by kernel_rfl
theorem zmZ:(Tryz.prog.stops == [])=true:=by kernel_rfl
theorem zmY:(Tryz.prog.stopKnobs == [])=true:=by kernel_rfl
theorem zkQ:(Rows.rowRunsRow.inPlace == Tryz.prog.inPlace 3)=true:=by kernel_rfl
theorem zkP:(Rows.rowRunsRow.unfollowed == Tryz.prog.unfollowed 3)=true:=by kernel_rfl
theorem zkO:(Rows.rowRunsRow.recurses == Tryz.prog.recurses 3)=true:=by kernel_rfl
theorem zkN:(Rows.rowRunsRow.named == Tryz.prog.varsNamed 3)=true:=by kernel_rfl
theorem zkM:(Rows.rowRunsRow.plainKeys == Tryz.prog.plainKeys)=true:=by kernel_rfl
theorem zkL:Tryz.prog.stopsHeard=true:=by kernel_rfl
theorem zkK:Tryz.prog.mayEnter=true:=by kernel_rfl
theorem zkJ:(Rows.rowRunsRow.lifted == Tryz.prog.liftsFinal)=true:=by kernel_rfl
theorem zkI:(Tryz.prog.make == some Rows.rowRunsRow.make)=true:=by kernel_rfl
theorem znY:joinedFacts Tryz.pinned.checked.prog 3 Tryz.f3 Rows.rowRunsSpec Rows.rowRunsRow=true:=by
 unfold joinedFacts
 exact zbT (zbT (zbT (zbT (zbT (zbT (zbT (zbT (zbT (zbT (zbT (zbT (zbT (zbT (zbT (zbT (zbT (zbT (zbT (zbT (zbT (zbT (zbT (zbT (zbT (zbT (zbT (zbT (zbT (zbT (zbT ((by kernel_rfl)) (zm1)) (zm0)) (by kernel_rfl)) (by kernel_rfl)) (by kernel_rfl)) (zmZ)) (by kernel_rfl)) (zmY)) (zkQ)) (zkP)) (zkO)) (zkN)) (by kernel_rfl)) (by kernel_rfl)) (by kernel_rfl)) (by kernel_rfl)) (by kernel_rfl)) (by kernel_rfl)) (by kernel_rfl)) (by kernel_rfl)) (by kernel_rfl)) (zkM)) (by kernel_rfl)) (zkL)) (zkK)) (zkJ)) (zkI)) (by kernel_rfl)) (by kernel_rfl)) (by kernel_rfl)) (by kernel_rfl)
theorem rowruns_holds:Rows.RowRunsSaid :=
 OpenClaim.holds_of_wide 3 Tryz.f3 rfl rfl rfl rfl rfl rfl rfl ⟨rfl,rfl,rfl,rfl,rfl⟩ rfl rfl rfl rfl rfl (by kernel_rfl) Tryz.func3 znY
  (of_decide_eq_true (by kernel_rfl)) (by unfold Func.isWrapper; rw [if_neg (of_decide_eq_false (by kernel_rfl))]; exact ⟨rfl,rfl⟩)
  (fun os started H enc _=>rowruns_lifted os started H enc)
end Go.Proofs.YtabjfnfglcghfaaGreat
