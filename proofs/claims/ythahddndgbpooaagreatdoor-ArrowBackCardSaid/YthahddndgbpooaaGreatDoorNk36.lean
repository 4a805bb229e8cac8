/- nocklaw01.ArrowBack: for every stock and every card the call returns true, on every schedule and without a data race; its arguments read afterwards as they read before; nothing that was in memory is changed; at the return no other goroutine does more than leave. The card ties the eleven listed package variables to the program's text. Conditions: none beyond the card's own (the listed variables hold what the program's text lays). The texts of this claim were shortened by program (no remarks, short names) to fit the bounds on a claim's size; their long form lies in the repository's folder wip. -/
import Derived.Test.YthahddndgbpooaaGreatDoorNkA
import Derived.Test.YthahddndgbpooaaGreatDoorNk35
import Derived.JoinedOf
import Derived.KernelRfl
import Derived.Test.YthahddndgbpooaaGreatDoorRows
set_option linter.all false
set_option maxRecDepth 100000
open Go
variable {a b:Bool}{b0 k:Nat}{v:Value}{W:World}
section
namespace Go.Proofs.YthahddndgbpooaaGreatDoor
open Go
namespace JarrowBack
theorem k0:Rows.arrowBackRow.wf (OpenSpec.ofChange Rows.arrowBackSpec)=true:=by kernel_rfl
theorem k1:laidOutB Tryz.prog=true:=by kernel_rfl
theorem k2:mapsRowed Tryz.prog=true:=by kernel_rfl
theorem k3:Tryz.f4.params.all (Tryz.prog.readableRec ·)=true:=by kernel_rfl
theorem k4:namedTie Tryz.prog Rows.arrowBackRow.named Rows.arrowBackSpec.vars=true:=by kernel_rfl
theorem k5:(Rows.arrowBackRow.stops==[])=true:=by kernel_rfl
theorem k6:(Tryz.prog.stops==[])=true:=by kernel_rfl
theorem k7:(Rows.arrowBackRow.knobs==[])=true:=by kernel_rfl
theorem k8:(Tryz.prog.stopKnobs==[])=true:=by kernel_rfl
theorem k9:(Rows.arrowBackRow.inPlace==Tryz.prog.inPlace 4)=true:=by kernel_rfl
theorem k10:(Rows.arrowBackRow.unfollowed==Tryz.prog.unfollowed 4)=true:=by kernel_rfl
theorem k11:(Rows.arrowBackRow.recurses==Tryz.prog.recurses 4)=true:=by kernel_rfl
theorem k12:(Rows.arrowBackRow.named==Tryz.prog.varsNamed 4)=true:=by kernel_rfl
theorem k13:(Rows.arrowBackRow.maps==(Tryz.f4.params.toList++Rows.arrowBackSpec.plain.varTypes Tryz.prog).any (Tryz.prog.mapsRec ·))=true:=by kernel_rfl
theorem k14:(Rows.arrowBackRow.ifaces==(Tryz.f4.params.toList++Rows.arrowBackSpec.plain.varTypes Tryz.prog).any (Tryz.prog.ifacesRec ·))=true:=by kernel_rfl
theorem k15:(Rows.arrowBackRow.mapsOut==Tryz.prog.mapsAmong Tryz.f4.resultTypes.toList)=true:=by kernel_rfl
theorem k16:(Rows.arrowBackRow.loops==(Tryz.f4.params.toList++Rows.arrowBackSpec.plain.varTypes Tryz.prog).any (Tryz.prog.loopsFrom ·))=true:=by kernel_rfl
theorem k17:(Rows.arrowBackRow.wideKeys==(Tryz.f4.params.toList++Rows.arrowBackSpec.plain.varTypes Tryz.prog++Tryz.f4.resultTypes.toList).any (Tryz.prog.wideKeysFrom ·))=true:=by kernel_rfl
theorem k18:Rows.arrowBackSpec.vars.all (Tryz.prog.varReadable ·)=true:=by kernel_rfl
theorem k19:Tryz.f4.resultTypes.all (λt=>Tryz.prog.readableRec t&&decide (t<Tryz.prog.types.size))=true:=by kernel_rfl
theorem k20:(Rows.arrowBackRow.ifacesOut==Tryz.f4.resultTypes.toList.any (Tryz.prog.ifacesRec ·))=true:=by kernel_rfl
theorem k21:(Rows.arrowBackRow.loopsOut==Tryz.f4.resultTypes.toList.any (Tryz.prog.loopsFrom ·))=true:=by kernel_rfl
theorem k22:(Rows.arrowBackRow.plainKeys==Tryz.prog.plainKeys)=true:=by kernel_rfl
theorem k23:Rows.arrowBackRow.shortTexts.isNone=true:=by kernel_rfl
theorem k24:Tryz.prog.stopsHeard=true:=by kernel_rfl
theorem k25:Tryz.prog.mayEnter=true:=by kernel_rfl
theorem k26:(Rows.arrowBackRow.lifted==Tryz.prog.liftsFinal)=true:=by kernel_rfl
theorem k27:(Tryz.prog.make==some Rows.arrowBackRow.make)=true:=by kernel_rfl
theorem k28:(Rows.arrowBackRow.kinds==(if Rows.arrowBackRow.domain.isEmpty then[] else Tryz.f4.params.toList.map λt=>match Tryz.prog.underlying t with|some (.int k)=>some k|_=>none))=true:=by kernel_rfl
theorem k29:(Rows.arrowBackRow.pinned==Rows.arrowBackRow.pinnedBy)=true:=by kernel_rfl
theorem k30:(Rows.arrowBackRow.veiled==(Tryz.f4.params.toList++Rows.arrowBackSpec.plain.varTypes Tryz.prog++Tryz.f4.resultTypes.toList).any (Tryz.prog.veiledRec ·))=true:=by kernel_rfl
theorem k31:Rows.arrowBackRow.veiledFits Tryz.prog Tryz.f4.params.toList (Tryz.f4.params.toList++Rows.arrowBackSpec.plain.varTypes Tryz.prog++Tryz.f4.resultTypes.toList)=true:=by kernel_rfl
theorem ZI(ha:a=true)(hb:b=true):(a&&b)=true:=by rw[ha,hb];rfl
theorem facts:joinedFacts Tryz.prog 4 Tryz.f4 Rows.arrowBackSpec Rows.arrowBackRow=true:=(ZI (ZI (ZI (ZI (ZI (ZI (ZI (ZI (ZI (ZI (ZI (ZI (ZI (ZI (ZI (ZI (ZI (ZI (ZI (ZI (ZI (ZI (ZI (ZI (ZI (ZI (ZI (ZI (ZI (ZI (ZI k0 k1) k2) k3) k4) k5) k6) k7) k8) k9) k10) k11) k12) k13) k14) k15) k16) k17) k18) k19) k20) k21) k22) k23) k24) k25) k26) k27) k28) k29) k30) k31)
end JarrowBack
end Go.Proofs.YthahddndgbpooaaGreatDoor
end
namespace Go.Proofs.Tryq
open Go Go.Nk Go.RowKit Go.ChangeShapes Go.WideShapes Go.ChangeAt Go.Conc Go.Deep
attribute [local instance] theBan
section
variable {H:Type}{enc:TypeId×Value->H}
theorem under68:Tryz.prog.underlying 29=some (.slice 75):=by kernel_rfl
theorem cells80:Tryz.prog.cellsOf 75=5:=by kernel_rfl
theorem cells70:Tryz.prog.cellsOf 31=5:=by kernel_rfl
theorem Zg3{x:DataW H×List MemPlace}(hv:∃u,Cell.okWide Tryz.prog W .any b0 u v)(h:DataW.trod enc Tryz.prog W 0 (λ_=>true) true k 29 [v]=some x):
 ∃(base:Option Addr)(n cap:Nat)(S:List Rs),v= .slice base n cap/\S.length=n/\n<=cap/\cap<=maxLen/\VRel id (Nk.Live (Zx W)) v v/\RawS W base S/\∀s∈S,(Lit.int .i64 s.a).wf=true/\(Lit.int .i64 s.m).wf=true/\(Lit.int .i64 s.M).wf=true/\(Lit.int .i64 s.wi).wf=true/\(Lit.int .i64 s.li).wf=true:=by
 obtain⟨base,n,cap,e,hn,hm,hr,Q4⟩:=Z5V under68 cells80 (by decide) hv h;have key:∀i,i<n->∃s:Rs,(∃b off,base=some ⟨b,off,none⟩/\b<W.heap.size/\ShotAt W b (off+i*5) s.a s.m s.M s.wi s.li)/\((Lit.int .i64 s.a).wf=true/\(Lit.int .i64 s.m).wf=true/\(Lit.int .i64 s.M).wf=true/\(Lit.int .i64 s.wi).wf=true/\(Lit.int .i64 s.li).wf=true):=by
  intro i hi;obtain⟨b,off,h1,h2,cs,h3,h4,h5⟩:=Q4 i hi;have Ag:cs.length<=Tryz.prog.cellsOf 75:=by rw[cells80];omega
  obtain⟨x0,e0,w0⟩:=Z0z (n:=3) (o:=0) (u:=3) Ag h5 (by kernel_rfl) under3;obtain⟨x1,e1,w1⟩:=Z0z (n:=3) (o:=1) (u:=3) Ag h5 (by kernel_rfl) under3;obtain⟨x2,e2,w2⟩:=Z0z (n:=3) (o:=2) (u:=3) Ag h5 (by kernel_rfl) under3;obtain⟨x3,e3,w3⟩:=Z0z (n:=3) (o:=3) (u:=3) Ag h5 (by kernel_rfl) under3;obtain⟨x4,e4,w4⟩:=Z0z (n:=3) (o:=4) (u:=3) Ag h5 (by kernel_rfl) under3;exact⟨⟨x0,x1,x2,x3,x4⟩,⟨b,off,h1,h2,⟨(h4 0 (by omega)).trans e0,(h4 1 (by omega)).trans e1,(h4 2 (by omega)).trans e2,(h4 3 (by omega)).trans e3,(h4 4 (by omega)).trans e4⟩⟩,w0,w1,w2,w3,w4⟩
 obtain⟨L,C8,Q3⟩:=Zaa n key;exact⟨base,n,cap,L,e,C8,hn,hm,hr,λi x hx=>(Q3 i x hx).1,λs hs=>by obtain⟨i,hi⟩:=List.mem_iff_getElem?.1 hs;exact(Q3 i s hi).2⟩
theorem open_card{d:DataW H}{p:List MemPlace}(hv:Value.okWide Tryz.prog W .any b0 31 v)(h:DataW.Trod enc Tryz.prog W 0 (λ_=>true) true 31 v d p):
 ∃(r0 r1 r2 r3:Int)(base:Option Addr)(n cap:Nat)(S:List Rs),v= .agg #[r0,r1,r2,r3,.slice base n cap]/\S.length=n/\n<=cap/\cap<=maxLen/\VRel id (Nk.Live (Zx W)) v v/\RawS W base S/\
  ((Lit.int .i64 r0).wf=true/\(Lit.int .i64 r1).wf=true/\(Lit.int .i64 r2).wf=true/\(Lit.int .i64 r3).wf=true)/\∀s∈S,(Lit.int .i64 s.a).wf=true/\(Lit.int .i64 s.m).wf=true/\(Lit.int .i64 s.M).wf=true/\(Lit.int .i64 s.wi).wf=true/\(Lit.int .i64 s.li).wf=true:=by
 obtain⟨cs,rfl,hs,hx⟩:=ZiU hv (by kernel_rfl);obtain⟨fuel,hf⟩:=h;have hf:DataW.trod enc Tryz.prog W 0 (λ_=>true) true fuel 31 cs.toList=some (d,p):=hf;rw[cells70] at hs;have Ag:cs.toList.length<=Tryz.prog.cellsOf 31:=by rw[cells70];simp[hs]
 obtain⟨x0,e0,w0⟩:=Z0z (n:=2) (o:=0) (u:=3) Ag ⟨_,_,hf⟩ (by kernel_rfl) under3;obtain⟨x1,e1,w1⟩:=Z0z (n:=2) (o:=1) (u:=3) Ag ⟨_,_,hf⟩ (by kernel_rfl) under3;obtain⟨x2,e2,w2⟩:=Z0z (n:=2) (o:=2) (u:=3) Ag ⟨_,_,hf⟩ (by kernel_rfl) under3;obtain⟨x3,e3,w3⟩:=Z0z (n:=2) (o:=3) (u:=3) Ag ⟨_,_,hf⟩ (by kernel_rfl) under3;obtain⟨sv,m,y,e4,h4⟩:=Z7R (n:=2) (o:=4) (u:=29) Ag ⟨_,_,hf⟩ (by kernel_rfl) under68;obtain⟨base,n,cap,S,rfl,hL,hn,hm,hr,hR,hw⟩:=Zg3 (hx 4 sv (by simpa using e4)) h4;have Oh:=arr5 hs e0 e1 e2 e3 e4;subst Oh
 have hA:AR id (Nk.Live (Zx W)) #[x0,x1,x2,x3,.slice base n cap] #[x0,x1,x2,x3,.slice base n cap]:=
  ((((AR.nil.push (.int _ _)).push (.int _ _)).push (.int _ _)).push (.int _ _)).push hr
 exact⟨x0,x1,x2,x3,base,n,cap,S,rfl,hL,hn,hm,.agg hA.1 hA.2,hR,⟨w0,w1,w2,w3⟩,hw⟩
end
end Go.Proofs.Tryq
namespace Go.Proofs.YthahddndgbpooaaGreatDoor
open Go Go.Nk Go.Ns Go.RowKit Go.ChangeShapes Go.WideShapes Go.ChangeAt Go.Conc
open Go.Proofs.Tryq
attribute [local instance] theBan
section
theorem cl{a:Addr}(h:W.cell? a=some v):(clean Wob W).cell? a=some v:=(Zo7 (W:=Wob) Cx.ok W a).trans h
theorem ZpU{base:Option Addr}{L:List Sf}(h:RawA W base L):RawA (clean Wob W) base L:=λi x hi=>by
 obtain⟨b,off,h1,h2,h3,h4⟩:=h i x hi;exact⟨b,off,h1,by rw[Zny];exact h2,⟨cl h3.k0,cl h3.k1,cl h3.k2,cl h3.k3,cl h3.k4,cl h3.k5,cl h3.k6⟩,h4⟩
theorem ZpV{base:Option Addr}{S:List Rs}(h:RawS W base S):RawS (clean Wob W) base S:=λi x hi=>by
 obtain⟨b,off,h1,h2,h3⟩:=h i x hi;exact⟨b,off,h1,by rw[Zny];exact h2,⟨cl h3.c0,cl h3.c1,cl h3.c2,cl h3.c3,cl h3.c4⟩⟩
theorem ZpW(h:Meas W):Meas (clean Wob W):=λi hi=>cl (h i hi)
theorem ZpX(h:Tryp.MaxL W):Tryp.MaxL (clean Wob W):=by obtain⟨m,h⟩:=h;exact⟨m,cl h⟩
theorem ZpY(h:Tryp.ErrF W):Tryp.ErrF (clean Wob W):=by obtain⟨t,v,h⟩:=h;exact⟨t,v,cl h⟩
theorem Zqy(hr:Z1s W 4=true)(h:Tryp.Pow W):Tryp.Pow (clean Wob W):=⟨by rw[Zny];exact h.lt,by
 have h1:=h.tab;unfold Lib.TabIs World.var? at h1⊢;have hg:Tryp.prog.globalNamed "internal/strconv.uint64pow10" =some 4:=by kernel_rfl
 rw[hg] at h1⊢;simp only[SQ] at h1⊢;obtain⟨c,e,f,h2⟩:=Z9A.1 hr;rw[Znw,h2,XI,ZnN (W:=Wob) Cx.ok];rw[h2] at h1;exact h1⟩
end
theorem Zof(os:Os)(started:os.Started)(H:Type)(enc:TypeId×Value->H):
 ReturnsInLeavingWide {} Tryz.checked os 4 .any (λw args=>(Rows.arrowBackSpec.pre enc Tryz.prog Tryz.f4 [] false w args/\laidMetH Tryz.prog laidL w)/\sizedMet enc Tryz.prog Tryz.f4 (OpenSpec.ofChange Rows.arrowBackSpec) false w args)
  (Rows.arrowBackSpec.post enc Tryz.prog Tryz.f4 false true false false):=by
 refine Z4e (n:=2) (ts:=[26,31]) started Tryz.func4 (by rw[Tryz.params4]) rfl rfl (by kernel_rfl) (λds hd=>by
  match ds,hd with
  |[_,_],_=>rfl) (by kernel_rfl)
  (ChangeSpec.witness_shaped (enc:=enc) (C:=Tryz.checked) (os:=os) (X:=λw _=>laidMetH Tryz.prog laidL w) false (ZqA os) #[.agg #[.int .i64 0,.int .i64 0,.int .i64 0,.int .i64 0,.slice none 0 0],.agg #[.int .i64 0,.int .i64 0,.int .i64 0,.int .i64 0,.slice none 0 0]] 8 rfl (Z3F os _) (by kernel_rfl) (by kernel_rfl) (by kernel_rfl) (Z7C os _)) ?_
 intro W base args ds p H9 hA hL Af Wk Bz;rw[Tryz.params4] at H9;obtain⟨v0,v1,dx0,dx1,px0,px1,rfl,rfl,rfl,h0,h1⟩:=trodAll_two hA;obtain⟨a0,b0,c0,d0,ab0,n0,k0,S0,rfl,hL0,V4,Cq,Ei,Jj,Ni⟩:=Z4c (H9 0 26 v0 rfl rfl) h0;obtain⟨a1,b1,c1,d1,ab1,n1,k1,S1,rfl,C8,V5,Ew,Bj,Bi,Fq⟩:=open_card (H9 1 31 v1 rfl rfl) h1;have hM:=Z5D hL
 exact Tryp.law4_runs Af Wk (Tryp.pw_of_rows Af) hM (Z5C hL) (Z6y hL) rfl λcd Db=>
  Tryp.back_hits a0 b0 c0 d0 a1 b1 c1 d1 ab0 ab1 n0 k0 n1 k1 S0 S1 (clean Wob W) hL0 C8 (ZpW hM) (Zqy (Af 4 (by decide)) (Tryp.pow_of_laid Wk hL)) (ZpX (Tryp.max_of_shape Bz)) (ZpY (Tryp.err_of_laid hL)) (ZpU Jj) (ZpV Bi) cd Db
theorem arrowBack_row:Rows.ArrowBackSaid:=
 OpenClaim.holds_of_wide_leaving 4 Tryz.f4 rfl rfl rfl rfl rfl rfl rfl ⟨rfl,rfl,rfl,rfl,rfl⟩ rfl rfl rfl rfl rfl (by kernel_rfl) Tryz.func4 JarrowBack.facts
  (TR (by kernel_rfl)) (by unfold Func.isWrapper;first|(rw[YZ (by decide+kernel)];kernel_rfl)|(rw[XA (by decide+kernel)];exact⟨rfl,rfl⟩))
  (λos started H enc _=>Zof os started H enc)
theorem arrowBack_card:Rows.ArrowBackCardSaid:=
 Zac .later [.data,.data,.data,.data,.handle,.sentinel,.sentinel,.data,.funcs,.sentinel,.pinned] true (true,"0da3e65f66aa73cdfcf1444b1f86cc6896551a7d24507d09c3f5bae850b9b7d4") true
  arrowBack_row (by kernel_rfl) arrowBack_row_tie rfl ⟨rfl,rfl⟩ (by kernel_rfl) rfl
  (λf fn hf hfn=>by
    obtain rfl:f=4:=YT ((show Tryz.prog.funcNamed "nock/nocklaw01.ArrowBack" =some 4 by kernel_rfl).symm.trans hf) |>.symm
    obtain rfl:fn=Tryz.f4:=(YT (Tryz.func4.symm.trans hfn)).symm
    exact⟨by kernel_rfl,λj t ht=>by
     rw[Tryz.params4] at ht;have hm:t∈[26,31]:=(by simpa using Array.mem_of_getElem? ht);have Aq:([26,31].all λu=> !Tryz.prog.wantsStandIn u)=true:=(by kernel_rfl);exact(show Tryz.prog.wantsStandIn t=false by simpa using YL.1 Aq t hm)⟩)
  (by kernel_rfl)
end Go.Proofs.YthahddndgbpooaaGreatDoor
