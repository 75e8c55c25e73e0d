/-
  'tombololaw14.HdtOrder' returns true for every input, and leaves its arguments as they were. No condition.
-/
import Derived.Test.YtfmjfdbmpkcndaaGreatRows
import Derived.Test.YtfmjfdbmpkcndaaGreatConD
set_option linter.unusedVariables false
set_option linter.unusedSimpArgs false
set_option maxRecDepth 100000
namespace Go.Proofs.YtfmjfdbmpkcndaaGreat
open Go.ChangeShapes Go.WideShapes Go.ChangeAt Go.RowKit Go.Joins Go.Eng Go.Tm
theorem Tryz.own:ownKnob Tryz.prog.godebug=none:=by kernel_rfl
theorem Tryz.laidOut:laidOutB Tryz.prog=true:=by kernel_rfl
section
variable {H:Type} {enc:TypeId×Value→H} {W:World} {base b0:Nat} {r:Reach} {spare:Nat→Bool} {held:Bool} {v:Value} {d:DataW H} {p:List MemPlace}
theorem znY {t:TypeId} {ks:List CK} (hk:cks Tryz.prog 5 t=some ks) (hv:∃ cs,v=.agg cs) (h:DataW.Trod enc Tryz.prog W base spare held t v d p):∃ cs:List Value,v=.agg cs.toArray∧zdO enc Tryz.prog W base spare held cs ks:=by
 obtain ⟨cs,rfl⟩:=hv
 obtain ⟨fuel,hf⟩:=h
 exact ⟨cs.toList,by simp,zdR 5 t ks _ hk ⟨fuel,_,hf⟩⟩
theorem zl7 (hv:Value.okWide Tryz.prog W r b0 80 v) (h:DataW.Trod enc Tryz.prog W base spare held 80 v d p) :
  ∃ (V S T:Int) (da oa:Option Addr) (bd offd dn dc bo offo on oc:Nat) (fd:Nat→Int) (fo:Nat→Op3),v=.agg #[.int .i64 V,.int .i64 S,.int .i64 T,.slice da dn dc,.slice oa on oc] ∧
   (0<dn→da=some ⟨bd,offd,none⟩)∧zaW (AW W) encU 1 bd offd dn fd∧(∀ i,i<dn→0≤fd i∧fd i<18446744073709551616)∧(0<on→oa=some ⟨bo,offo,none⟩)∧zaW (AW W) zqc 3 bo offo on fo:=by
 obtain ⟨cs,rfl,hf⟩:=znY (ks:=[.i .i64,.i .i64,.i .i64,.s 110,.s 85]) (by kernel_rfl) (by obtain ⟨fs,hu⟩:=ziz (P:=Tryz.prog) (t:=80) (by kernel_rfl); exact okWide_struct hu hv |>.imp fun _ h=>h.1) h
 obtain ⟨x0,x1,x2,x3,x4,rfl,h0,h1,h2,h3,h4⟩:=fits5 hf
 obtain ⟨V,rfl,_⟩:=h0
 obtain ⟨S,rfl,_⟩:=h1
 obtain ⟨T,rfl,_⟩:=h2
 obtain ⟨da,bd,offd,dn,dc,fd,rfl,h5,h6,h7⟩:=h3.row (en:=encU) (m:=1) (G:=fun z=>0≤z∧z<18446744073709551616) (by kernel_rfl) (by decide) (fun _=>rfl) fun cs h=>by
  obtain ⟨x,rfl,h9⟩:=fits1 (zdR 5 _ [.i .u64] cs (by kernel_rfl) h)
  obtain ⟨z,rfl,hw⟩:=h9
  have:=bounds_u64 hw; exact ⟨z,rfl,by omega⟩
 obtain ⟨oa,bo,offo,on,oc,fo,rfl,h8,h9,_⟩:=h4.row (en:=zqc) (m:=3) (G:=fun _=>True) (by kernel_rfl) (by decide) (fun _=>rfl) fun cs h=>by
  obtain ⟨x0,x1,x2,rfl,h0,h1,h2⟩:=fits3 (zdR 5 _ [.i .i64,.i .i64,.i .i64] cs (by kernel_rfl) h)
  obtain ⟨z0,rfl,_⟩:=h0
  obtain ⟨z1,rfl,_⟩:=h1
  obtain ⟨z2,rfl,_⟩:=h2
  exact ⟨⟨z0,z1,z2⟩,rfl,trivial⟩
 exact ⟨V,S,T,da,oa,bd,offd,dn,dc,bo,offo,on,oc,fd,fo,rfl,h5,h6,h7,h8,h9⟩
theorem znX (hv:Value.okWide Tryz.prog W r b0 3 v):∃ x:Int,v=.int .i64 x:=okWide_int Tryz.underlying3 hv
end
theorem orderH_lifted (os:Os) (started:os.Started) (H:Type) (enc:TypeId×Value→H) :
  ReturnsInHanded {} Tryz.checked os 13 .any (Rows.hdtOrderSpec.pre6 enc Tryz.prog Tryz.f13 Rows.hdtOrderRow.domain false) (Rows.hdtOrderSpec.post enc Tryz.prog Tryz.f13 false true false false):=by
 refine returnsInHanded_of_change (C:=Tryz.checked) Tryz.own started (by kernel_rfl) Tryz.func13
  (ChangeSpec.witness6 (enc:=enc) (C:=Tryz.checked) false ⟨#[],#[.agg #[.int .i64 0,.int .i64 0,.int .i64 0,.slice none 0 0,.slice none 0 0],.int .i64 0],[]⟩ 8 (by kernel_rfl) (by kernel_rfl) (by kernel_rfl) (by kernel_rfl)) ?_
 intro W base args ds gs before hval0 hW hcnd _
 have hval:∀ (j:Nat) t v,Tryz.f13.params[j]?=some t→args[j]?=some v→Value.okWide Tryz.prog W .any base t v:=hval0
 have hW':=hW
 obtain ⟨p,q,hA0,hV,rfl,hfz,hnd⟩:=hW
 have hA:DataW.TrodAll enc Tryz.prog W 0 (fun _=>true) true Tryz.f13.params.toList args.toList ds p:=hA0
 rw [Tryz.params13] at hA hval
 obtain ⟨v0,v1,d0,d1,p0,p1,rfl,rfl,rfl,h0,h1⟩:=trodAll_two hA
 obtain ⟨rfl,rfl⟩:=trodVars_none hV
 have k0:=h0
 have k1:=h1
 obtain ⟨V,S,T,da,oa,bd,offd,dn,dc,bo,offo,on,oc,fd,fo,rfl,hda,hAd,hfd,hoa,hAo⟩:=zl7 (hval 0 80 _ rfl rfl) h0
 obtain ⟨i1,rfl⟩:=znX (hval 1 3 _ rfl rfl)
 have hfn:FnD Tryz.prog 13 [.agg #[.int .i64 V,.int .i64 S,.int .i64 T,.slice da dn dc,.slice oa on oc],.int .i64 i1] [AW W] (.bool true) [AW W]:=by
  by_cases hok:(okL V S T∧V≤8∧S≤12∧dn≤60∧on≤40)
  ·obtain ⟨l,hl,rfl,rfl,rfl⟩:=zpy hok.1
   exact znW hl hda hAd hfd hoa hAo hok
  ·exact FnD.frame1 (znV hok)
 refine (Fn.callsW hfn).mono fun e W' ⟨he,hB⟩=>?_
 subst he
 refine ⟨_,rfl,_,_,_,[],_,[],hW',trodAll_mk1 (shut_bool Tryz.underlying4 true),trodAll_mk2 (Below.trod Tryz.laidOut (by kernel_rfl) (of_decide_eq_true (by kernel_rfl)) k0 hB (by obtain ⟨n,hn⟩:=k0; exact DataW.trod_lt n _ _ _ hn)) (Below.trod Tryz.laidOut (by kernel_rfl) (of_decide_eq_true (by kernel_rfl)) k1 hB (by obtain ⟨n,hn⟩:=k1; exact DataW.trod_lt n _ _ _ hn)),rfl,hB.frame _,fun h=>by cases h⟩
theorem orderH_holds:Rows.HdtOrderSaid :=
 OpenClaim.holds_of_wide 13 Tryz.f13 rfl rfl rfl rfl rfl rfl rfl ⟨rfl,rfl,rfl,rfl,rfl⟩ rfl rfl rfl rfl rfl (by kernel_rfl) Tryz.func13 (by kernel_rfl)
  (of_decide_eq_true (by kernel_rfl)) (by unfold Func.isWrapper; rw [if_neg (of_decide_eq_false (by kernel_rfl))]; exact ⟨rfl,rfl⟩)
  (fun os started H enc _=>orderH_lifted os started H enc)
end Go.Proofs.YtfmjfdbmpkcndaaGreat
