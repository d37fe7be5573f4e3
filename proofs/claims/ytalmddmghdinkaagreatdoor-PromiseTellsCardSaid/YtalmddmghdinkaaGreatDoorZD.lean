/-
  PROVED: gantrylaw33.PromiseTells answers true at every input, and its arguments read afterwards as before; the listed variables are tied to the program's text. No condition.
-/
import Derived.Test.YtalmddmghdinkaaGreatDoorCards
import Derived.Test.YtalmddmghdinkaaGreatDoorTie
import Derived.SevenTiedAt
import Derived.Test.YtalmddmghdinkaaGreatDoorZC
set_option linter.all false
set_option linter.deprecated false
noncomputable section
set_option maxRecDepth 100000
namespace Go.Proofs.YtalmddmghdinkaaGreatDoor
open Go Go.ah Go.ah.X Go.Proofs.dI Go.ChangeShapes Go.WideShapes Go.ChangeAt Go.RowKit
section
theorem own:ownKnob Tryz.prog.godebug=none:=aA
theorem laidOut:laidOutB Tryz.prog=true:=aA
theorem ajl(os:Os)(args:Array Value):laidMetH Tryz.prog xH ((World.doorLaid Tryz.prog 39 os).forCall (λ_ _=>0) ⟨#[],args,[]⟩).memory:=
 laidMetH_of_parts3 (fuel:=8) (laidMet_of_run' 8 aA aA) aA aA
theorem dc:Tryz.prog.cellsOf 3=1:=aA
theorem al6{W:World}(h:laidMetH Tryz.prog xH W):0<W.heap.size:=JL (ab2 h 0 _ rfl)
theorem agS:l4 iO:=⟨cg _,by rw[GO];rfl,by rw[GO];rfl,by rw[GO];rfl⟩
section
variable {H:Type}{enc:TypeId×Value->H}{P:Program}{w:World}{base:Nat}{spare:Nat->Bool}{held:Bool}{a b c d e f:TypeId}
theorem asn{args:Array Value}{dg:List (DataW H)}{ps:List MemPlace}(h:DataW.TrodAll enc P w base spare held [a,b,c,d,e,f] args.toList dg ps):
  ∃v0 v1 v2 hz v4 kT d0 d1 d2 d3 d4 d5 oo e1 ei fG iB qf,args= #[v0,v1,v2,hz,v4,kT]∧dg=[d0,d1,d2,d3,d4,d5]∧ps=oo++e1++ei++fG++iB++qf∧DataW.Trod enc P w base spare held a v0 d0 oo∧DataW.Trod enc P w base spare held b v1 d1 e1∧DataW.Trod enc P w base spare held c v2 d2 ei∧
   DataW.Trod enc P w base spare held d hz d3 fG∧DataW.Trod enc P w base spare held e v4 d4 iB∧DataW.Trod enc P w base spare held f kT d5 qf:=by
 obtain ⟨v0,_,d0,_,oo,_,mh,rfl,rfl,aR,h⟩:=trodAll_cons h;obtain ⟨v1,_,d1,_,e1,_,rfl,rfl,rfl,J,h⟩:=trodAll_cons h;obtain ⟨v2,_,d2,_,ei,_,rfl,rfl,rfl,U,h⟩:=trodAll_cons h;obtain ⟨hz,_,d3,_,fG,_,rfl,rfl,rfl,aj,h⟩:=trodAll_cons h;obtain ⟨v4,_,d4,_,iB,_,rfl,rfl,rfl,aH,h⟩:=trodAll_cons h;obtain ⟨kT,_,d5,_,qf,_,rfl,rfl,rfl,bD,h⟩:=trodAll_cons h;obtain ⟨rfl,rfl,rfl⟩:=trodAll_nil h;exact ⟨v0,v1,v2,hz,v4,kT,d0,d1,d2,d3,d4,d5,oo,e1,ei,fG,iB,qf,by cases args;simp_all,rfl,by simp,aR,J,U,aj,aH,bD⟩
theorem aso{v0 v1 v2 hz v4 kT:Value}{d0 d1 d2 d3 d4 d5:DataW H}{oo e1 ei fG iB qf:List MemPlace}(aR:DataW.Trod enc P w base spare held a v0 d0 oo)(J:DataW.Trod enc P w base spare held b v1 d1 e1)(U:DataW.Trod enc P w base spare held c v2 d2 ei)
  (aj:DataW.Trod enc P w base spare held d hz d3 fG) (aH:DataW.Trod enc P w base spare held e v4 d4 iB) (bD:DataW.Trod enc P w base spare held f kT d5 qf):
  DataW.TrodAll enc P w base spare held [a,b,c,d,e,f] [v0,v1,v2,hz,v4,kT] [d0,d1,d2,d3,d4,d5] (oo++(e1++(ei++(fG++(iB++qf))))):=
 ⟨_,_,aR,⟨_,_,J,⟨_,_,U,trodAll_mk3 aj aH bD,rfl⟩,rfl⟩,rfl⟩
end
theorem lifted(os:Os)(started:os.Started)(H:Type)(enc:TypeId×Value->H):
  ReturnsInHanded {} Tryz.checked os 3 .any (λw args=>(Rows.promiseTellsSpec.pre enc Tryz.prog Tryz.f3 [] false w args∧laidMetH Tryz.prog xH w)∧sizedMet enc Tryz.prog Tryz.f3 (OpenSpec.ofChange Rows.promiseTellsSpec) false w args)
   (Rows.promiseTellsSpec.post enc Tryz.prog Tryz.f3 false true false false):=by
 refine returnsInHanded_of_change_and (C:=Tryz.checked) (X:=λw _=>laidMetH Tryz.prog xH w) (λ_ _ _ dE h=>h.of_heap dE) own started aA Tryz.func3
  (ChangeSpec.witness_shaped (enc:=enc) (C:=Tryz.checked) (os:=os) (X:=λw _=>laidMetH Tryz.prog xH w) false (World.doorLaid Tryz.prog 39 os) #[.slice none 0 0,.slice none 0 0,.slice none 0 0,.slice none 0 0,.int .i64 0,.int .i64 0] 8 rfl (World.shaped_of_RefB aA aA) aA aA aA (ajl os _)) ?_
 intro W base args dg gs before anp m6 _ _ gn _;have su:∀(j:Nat) t v,Tryz.f3.params[j]? =some t->args[j]? =some v->Value.okWide Tryz.prog W .any base t v:=anp;have CG:=m6;obtain ⟨p,q,akX,jX,rfl,ry,An⟩:=m6;have gW:DataW.TrodAll enc Tryz.prog W 0 (λ_=>true) true Tryz.f3.params.toList args.toList dg p:=akX;rw[Tryz.params3]at gW su;obtain ⟨v0,v1,v2,hz,v4,kT,d0,d1,d2,d3,d4,d5,oo,e1,ei,fG,iB,qf,rfl,rfl,rfl,aR,J,U,aj,aH,bD⟩:=asn gW;obtain ⟨rfl,rfl⟩:=trodVars_none jX;obtain ⟨n,rfl,rfl,rfl,wn⟩:=open_int Tryz.underlying3 (su 4 3 v4 rfl rfl) aH;obtain ⟨m,rfl,rfl,rfl,ag⟩:=open_int Tryz.underlying3 (su 5 3 kT rfl rfl) bD;have fE:=al6 gn;obtain ⟨Gi,eY,i0,fC⟩:=Jw fE Tryz.underlying22 Tryz.underlying3 dc (su 0 22 v0 rfl rfl) aR;obtain ⟨bk,cy,i1,b1⟩:=Jw fE Tryz.underlying22 Tryz.underlying3 dc (su 1 22 v1 rfl rfl) J;obtain ⟨cn,cm,i2,cq⟩:=Jw fE Tryz.underlying22 Tryz.underlying3 dc (su 2 22 v2 rfl rfl) U;obtain ⟨dM,B5,i3,cV⟩:=Jw fE Tryz.underlying22 Tryz.underlying3 dc (su 3 22 hz rfl rfl) aj;simp only[hd]at CG ry;refine (aq9 (f:=3) (n:=n) (m:=m) gn fC b1 cq cV λx y z w hx aI aY hw=>?_).mono λe zG ⟨he,amP,K8,iN,od⟩=>⟨_,he,?_⟩;exact (X.ae6 hx aI aY hw (λu hu=>bounds_i64 (fC.wf u hu)) (λu hu=>bounds_i64 (b1.wf u hu)) (λu hu=>bounds_i64 (cq.wf u hu)) (λu hu=>bounds_i64 (cV.wf u hu)) (bounds_i64 wn) (bounds_i64 ag)).1 iO rfl agS;have b6:∀x∈oo++e1++ei++fG,x.block<W.heap.size:=λx hx=>CG.lt x hx;have Lg:∀x∈oo++e1++ei++fG,W.sameAt zG x:=λx hx=>by
  have Y:=od _ (b6 x hx);cases x with
  |cell b o=>exact World.cell?_of_block (w:=W) Y
  |map b=>exact Y
 refine ⟨_,_,_,[],oo++(e1++(ei++(fG++([]++ [])))),[],CG,trodAll_mk1 (shut_bool Tryz.underlying4 _),?_,rfl,⟨amP,K8,λi hi=>?_⟩,λh=>by cases h⟩;exact aso (WideElems.Trod_stays laidOut aA (D4 aA) aR (λx hx=>Lg x (by simp[hx])) (λx hx=>by simpa using b6 x (by simp[hx]))) (WideElems.Trod_stays laidOut aA (D4 aA) J (λx hx=>Lg x (by simp[hx])) (λx hx=>by simpa using b6 x (by simp[hx]))) (WideElems.Trod_stays laidOut aA (D4 aA) U (λx hx=>Lg x (by simp[hx])) (λx hx=>by simpa using b6 x (by simp[hx]))) (WideElems.Trod_stays laidOut aA (D4 aA) aj (λx hx=>Lg x (by simp[hx])) (λx hx=>by simpa using b6 x (by simp[hx]))) (shut_int Tryz.underlying3 wn) (shut_int Tryz.underlying3 ag);rw[od i hi];cases W.heap[i]? with
 |none=>rfl
 |some o=>cases o<;>first|exact ⟨rfl,rfl,rfl,λ_ _=>rfl⟩|exact .inr ⟨rfl,rfl⟩|rfl
theorem aqZ:Rows.PromiseTellsSaid:=
 OpenClaim.holds_of_wide 3 Tryz.f3 rfl rfl rfl rfl rfl rfl rfl ⟨rfl,rfl,rfl,rfl,rfl⟩ rfl rfl rfl rfl rfl aA Tryz.func3 aou
  (D4 aA) (by unfold Func.isWrapper;first|(rw[if_pos (by decide+kernel)];kernel_rfl)|(rw[if_neg (by decide+kernel)];exact ⟨rfl,rfl⟩))
  (λos started H enc _=>lifted os started H enc)
end
end Go.Proofs.YtalmddmghdinkaaGreatDoor
namespace Go.Proofs.YtalmddmghdinkaaGreatDoor
open Go
theorem akQ{P:Program}{c:OpenClaim}(jx:c.start=.entering)(h:(P.funcs.toList.all λf=> !f.goes)=true):false=c.goesBy P:=by
 have jJ:∀fn∈P.funcs.toList,fn.goes=false:=by
  intro fn aM;have:=fj.1 h fn aM;simpa using this
 have alI:P.funcs.any Func.goes=false:=by
  rw[<-Array.any_toList];rw[zu];intro x hx;simp[jJ x hx]
 have au:∀f,P.goes f=false:=by
  intro f;unfold Program.goes;rw[alI,Bool.and_false,Bool.or_false,zu];intro g _;cases amb:P.funcs[g]? with
  |none=>simp
  |some fn=>
   have:=jJ fn (by rw[Array.mem_toList_iff];exact MX amb);simp[this]
 unfold OpenClaim.goesBy Program.goesAt Program.goesFrom;rw[jx];cases P.funcNamed c.func with
 |none=>rfl
 |some f=>simp[au f]
theorem ahh:(Tryz.prog.funcs.toList.all λf=> !f.goes)=true:=aA
theorem aqp:Rows.PromiseTellsCardSaid:=
 Claim7.holds_tied_plain_at .later [] [.funcsDeep,.funcs] true (true,"65530d9ec18ffe65f71d4a0d22e57b0c98ffb5bef8efc47813bb5cac28b07949") true
  aqZ (λ_ h=>by cases h) aA (λ_ h=>by cases h) promiseTells_row_tie rfl ⟨rfl,rfl⟩ aA rfl
  (λf fn aM p4=>by
   obtain rfl:f=3:=Option.some.inj ((show Tryz.prog.funcNamed "gantry/gantrylaw33.PromiseTells" =some 3 by kernel_rfl).symm.trans aM) |>.symm;obtain rfl:fn=Tryz.f3:=(Option.some.inj (Tryz.func3.symm.trans p4)).symm;exact ⟨by kernel_rfl,λj t aO=>by
    rw[Tryz.params3]at aO;have hm:t∈ [22,22,22,22,3,3]:=by simpa using MX aO
    have jJ:([22,22,22,22,3,3].all λu=> !Tryz.prog.wantsStandIn u)=true:=aA;exact (show Tryz.prog.wantsStandIn t=false by simpa using fj.1 jJ t hm)⟩)
  (akQ rfl ahh)
theorem promiseTells_holds:Rows.PromiseTellsCardSaid:=aqp
end Go.Proofs.YtalmddmghdinkaaGreatDoor
