/- nocklaw01.ArrowEach: for every card, any distance, mark and choices the call returns true, on every schedule and without a data race; its arguments read afterwards as they read before; nothing that was in memory is changed; at the return no other goroutine does more than leave. The card ties the four listed package variables to the program's text. Conditions: none beyond the card's own (the listed variables hold what the program's text lays). The texts of this claim were shortened by program (no remarks, short names) to fit the bounds on a claim's size; their long form lies in the repository's folder wip. -/
import Derived.Test.YtedkbdkbbnemlaaGreatDoorNk29
import Derived.Carry
import Derived.JoinedOf
import Derived.KernelRfl
import Derived.Test.YtedkbdkbbnemlaaGreatDoorRows
set_option linter.all false
namespace Go.Proofs.Tryq
set_option maxRecDepth 100000
set_option maxHeartbeats 4000000
open Go Go.Nk Go.RowKit
theorem Zgm(r0 r1 r2 r3:Int)(base:Option Addr)(n cap:Nat)(u mk:Int)(pb:Option Addr)(pn pc:Nat)(L:List Int)(S:List Rs)(w:World)(hlen:S.length=n)(hu:0≤u∧u<256)(hmk:0≤mk∧mk<65536)(hpl:L.length=pn)(hL:∀x∈L,0≤x∧x<65536)(hM:Meas w)(hmo:Most w)(hd:Deb w)(hS:RawS w base S)(hpU:RawU w pb L):
 Calls prog 8 #[.agg #[.int .i64 r0,.int .i64 r1,.int .i64 r2,.int .i64 r3,.slice base n cap],.int .u8 u,.int .u16 mk,.slice pb pn pc] w fun e w'=>e= .returned (.bool true):=by
 have hfa:=fun W (hW:Ext w W)=>Zgb r0 r1 r2 r3 base n cap S W hlen (hS.ext hW)
 have hsh:∀W,Ext w W→Calls prog 22 #[] W fun e w'=>e= .returned (.bool true)∧Ext W w':=fun W (hW:Ext w W)=>Zce W (hM.ext hW) (hmo.ext hW) (hd.ext hW)
 cases hf:ZfR r0 r1 r2 r3 S with
 |false=>
  simp only[hf] at hfa
  exact Zgv r0 r1 r2 r3 base n cap u mk pb pn pc w hfa hsh
 |true=>
  simp only[hf] at hfa
  have hcf:ZC r0 r1 r2 r3 S=0:=by simp[ZfR] at hf;exact hf.2
  have hn8:=(Zav hcf).len
  rw[hlen] at hn8
  have hup:∀W,Ext w W→Calls prog 44 #[.int .i64 n] W fun e w'=>∃x,e= .returned x∧(∃ao cp,x= .slice ao n cp∧RawI w' ao (upL n)∧n≤cp)∧Ext W w':=by
   intro W hW
   refine(Zg9 n W (by omega)).mono ?_
   rintro e w2 ⟨x,rfl,hx,hE⟩
   obtain⟨bl,cl,rfl,hI,hcl⟩:=hx.rawI
   have hl:(upL n).length=n:=by simp[upL]
   rw[hl] at hcl
   exact⟨_,rfl,⟨bl,cl,by rw[hl],hI,hcl⟩,hE⟩
  have hft:=fun W ao cp (hW:Ext w W)(hI:RawI W ao (upL n))(_:n≤cp)=>Zg2 r0 r1 r2 r3 base n cap S ao n cp (upL n) W hlen (by omega) (by simp[upL]) (by omega) (fun j hj=>mem_upL.1 hj) (hS.ext hW) hI
  cases hq:Z20 r0 r1 r2 r3 S (upL n) with
  |false=>
   simp only[hq] at hft
   exact Zgw r0 r1 r2 r3 base n cap u mk pb pn pc w hfa hup hft hsh
  |true=>
   simp only[hq] at hft
   by_cases hz:n=0
   ·exact Zgx r0 r1 r2 r3 base n cap u mk pb pn pc w hfa hup hft (by rw[hz];rfl) hsh
   ·have hg:Fine r0 r1 r2 r3 S:=⟨hcf,fun e=>hz (by rw[←hlen,e];rfl),by rw[hlen];exact hq⟩
    refine Zgr r0 r1 r2 r3 base n cap u mk pb pn pc w hfa hup hft (beq_eq_false_iff_ne.2 (by omega)) hn8 hu hmk L hpl hL hpU S hlen hS (fun s hs=>(hg.ok.ok s hs).1) (fun d=>(Z4L r0 r1 r2 r3 S d).1) (fun d=>(Z4L r0 r1 r2 r3 S d).2) ⟨hg.ok.h0,hg.ok.h1⟩ ?_ ?_ ?_ ?_ ?_ hsh
    ·intro d h1 h2
     exact⟨hg.le ⟨h1,h2⟩,hg.inB ⟨h1,h2⟩⟩
    ·intro d m h1 h2 h3 h4
     exact hg.next h1 h2 ⟨h3,h4⟩
    ·intro d m h1 h2 h3 h4
     exact hg.prev h1 h2 ⟨h3,h4⟩
    ·intro d h1 h2 W hW
     have:=Z86 r0 r1 r2 r3 base n cap W d S hlen (hS.ext hW) (hmo.ext hW)
     rw[hg.markF ⟨h1,h2⟩,hg.markR ⟨h1,h2⟩] at this
     exact this
    ·intro i s hs
     have hi:=(List.getElem?_eq_some_iff.1 hs).1
     have hw:=hg.in_wide (List.mem_of_getElem? hs)
     refine⟨_,_,hw.1,hw.2,fun W hW=> ?_⟩
     have h1:=Z69 r0 r1 r2 r3 base n cap S i W hlen (by omega) (hS.ext hW)
     have h2:Z1e r0 r1 r2 r3 S i=0:=by
      refine firstV_zero fun j x hx=> ?_
      have:=List.mem_of_getElem? hx
      simp only[List.mem_cons,List.not_mem_nil,or_false] at this
      rcases this with rfl|rfl
      ·exact hcf
      ·exact if_pos ⟨by omega,by omega⟩
     have h3:Zau r0 r1 r2 r3 S i=Z68 r2 r3 s:=by rw[Zau,if_pos h2,Int.toNat_natCast,hs]
     rw[h2,h3] at h1
     exact h1
end Go.Proofs.Tryq
section
set_option maxRecDepth 100000
namespace Go.Proofs.YtedkbdkbbnemlaaGreatDoor
open Go
namespace JarrowEach
theorem k0:Rows.arrowEachRow.wf (OpenSpec.ofChange Rows.arrowEachSpec)=true:=by kernel_rfl
theorem k1:laidOutB Tryz.prog=true:=by kernel_rfl
theorem k2:mapsRowed Tryz.prog=true:=by kernel_rfl
theorem k3:Tryz.f8.params.all (Tryz.prog.readableRec ·)=true:=by kernel_rfl
theorem k4:namedTie Tryz.prog Rows.arrowEachRow.named Rows.arrowEachSpec.vars=true:=by kernel_rfl
theorem k5:(Rows.arrowEachRow.stops==[])=true:=by kernel_rfl
theorem k6:(Tryz.prog.stops==[])=true:=by kernel_rfl
theorem k7:(Rows.arrowEachRow.knobs==[])=true:=by kernel_rfl
theorem k8:(Tryz.prog.stopKnobs==[])=true:=by kernel_rfl
theorem k9:(Rows.arrowEachRow.inPlace==Tryz.prog.inPlace 8)=true:=by kernel_rfl
theorem k10:(Rows.arrowEachRow.unfollowed==Tryz.prog.unfollowed 8)=true:=by kernel_rfl
theorem k11:(Rows.arrowEachRow.recurses==Tryz.prog.recurses 8)=true:=by kernel_rfl
theorem k12:(Rows.arrowEachRow.named==Tryz.prog.varsNamed 8)=true:=by kernel_rfl
theorem k13:(Rows.arrowEachRow.maps==(Tryz.f8.params.toList++Rows.arrowEachSpec.plain.varTypes Tryz.prog).any (Tryz.prog.mapsRec ·))=true:=by kernel_rfl
theorem k14:(Rows.arrowEachRow.ifaces==(Tryz.f8.params.toList++Rows.arrowEachSpec.plain.varTypes Tryz.prog).any (Tryz.prog.ifacesRec ·))=true:=by kernel_rfl
theorem k15:(Rows.arrowEachRow.mapsOut==Tryz.prog.mapsAmong Tryz.f8.resultTypes.toList)=true:=by kernel_rfl
theorem k16:(Rows.arrowEachRow.loops==(Tryz.f8.params.toList++Rows.arrowEachSpec.plain.varTypes Tryz.prog).any (Tryz.prog.loopsFrom ·))=true:=by kernel_rfl
theorem k17:(Rows.arrowEachRow.wideKeys==(Tryz.f8.params.toList++Rows.arrowEachSpec.plain.varTypes Tryz.prog++Tryz.f8.resultTypes.toList).any (Tryz.prog.wideKeysFrom ·))=true:=by kernel_rfl
theorem k18:Rows.arrowEachSpec.vars.all (Tryz.prog.varReadable ·)=true:=by kernel_rfl
theorem k19:Tryz.f8.resultTypes.all (fun t=>Tryz.prog.readableRec t&&decide (t<Tryz.prog.types.size))=true:=by kernel_rfl
theorem k20:(Rows.arrowEachRow.ifacesOut==Tryz.f8.resultTypes.toList.any (Tryz.prog.ifacesRec ·))=true:=by kernel_rfl
theorem k21:(Rows.arrowEachRow.loopsOut==Tryz.f8.resultTypes.toList.any (Tryz.prog.loopsFrom ·))=true:=by kernel_rfl
theorem k22:(Rows.arrowEachRow.plainKeys==Tryz.prog.plainKeys)=true:=by kernel_rfl
theorem k23:Rows.arrowEachRow.shortTexts.isNone=true:=by kernel_rfl
theorem k24:Tryz.prog.stopsHeard=true:=by kernel_rfl
theorem k25:Tryz.prog.mayEnter=true:=by kernel_rfl
theorem k26:(Rows.arrowEachRow.lifted==Tryz.prog.liftsFinal)=true:=by kernel_rfl
theorem k27:(Tryz.prog.make==some Rows.arrowEachRow.make)=true:=by kernel_rfl
theorem k28:(Rows.arrowEachRow.kinds==(if Rows.arrowEachRow.domain.isEmpty then[] else Tryz.f8.params.toList.map fun t=>match Tryz.prog.underlying t with|some (.int k)=>some k|_=>none))=true:=by kernel_rfl
theorem k29:(Rows.arrowEachRow.pinned==Rows.arrowEachRow.pinnedBy)=true:=by kernel_rfl
theorem k30:(Rows.arrowEachRow.veiled==(Tryz.f8.params.toList++Rows.arrowEachSpec.plain.varTypes Tryz.prog++Tryz.f8.resultTypes.toList).any (Tryz.prog.veiledRec ·))=true:=by kernel_rfl
theorem k31:Rows.arrowEachRow.veiledFits Tryz.prog Tryz.f8.params.toList (Tryz.f8.params.toList++Rows.arrowEachSpec.plain.varTypes Tryz.prog++Tryz.f8.resultTypes.toList)=true:=by kernel_rfl
theorem ZI{a b:Bool}(ha:a=true)(hb:b=true):(a&&b)=true:=by rw[ha,hb];rfl
theorem facts:joinedFacts Tryz.prog 8 Tryz.f8 Rows.arrowEachSpec Rows.arrowEachRow=true:=(ZI (ZI (ZI (ZI (ZI (ZI (ZI (ZI (ZI (ZI (ZI (ZI (ZI (ZI (ZI (ZI (ZI (ZI (ZI (ZI (ZI (ZI (ZI (ZI (ZI (ZI (ZI (ZI (ZI (ZI (ZI k0 k1) k2) k3) k4) k5) k6) k7) k8) k9) k10) k11) k12) k13) k14) k15) k16) k17) k18) k19) k20) k21) k22) k23) k24) k25) k26) k27) k28) k29) k30) k31)
end JarrowEach
end Go.Proofs.YtedkbdkbbnemlaaGreatDoor
end
namespace Go.Proofs.Tryq
set_option maxRecDepth 100000
open Go Go.Nk Go.RowKit Go.ChangeShapes Go.WideShapes Go.ChangeAt Go.Conc Go.Deep
attribute [local instance] theBan
section
variable {H:Type} {enc:TypeId×Value→H} {W:World} {b0:Nat}
theorem Zf4{t:TypeId}{k:IntKind}(hu:Tryz.prog.underlying t=some (.int k))(hs:isS Tryz.prog t=false)(ha:isA Tryz.prog t=false)(hl:(Z3e Tryz.prog 0 t 0).any (fun y=>y.1==0&&y.2==t)=true)(hc1:Tryz.prog.cellsOf t=1){v:Value}{d:DataW H}{p:List MemPlace}(hv:Value.okWide Tryz.prog W .any b0 t v)(h:DataW.Trod enc Tryz.prog W 0 (fun _=>true) true t v d p):
 ∃n:Int,v= .int k n∧(Lit.int k n).wf=true∧VRel id (Nk.Live (Zx W)) v v:=by
 have hc:=Zei hv hs ha
 obtain⟨fuel,hf⟩:=h
 have e:v.cells.toList=[v]:=by
  cases v<;>first|rfl|skip
  rename_i cs
  simp[Cell.okWide,Cell.ok,hu] at hc
 rw[e] at hf
 have hcs:[v].length≤Tryz.prog.cellsOf t:=by rw[hc1];exact Nat.le_refl _
 obtain⟨x1,e1,hw⟩:=Z0z (n:=0) (o:=0) (u:=t) hcs ⟨_,_,hf⟩ hl hu
 obtain rfl:v= .int k x1:=by simpa using e1
 exact⟨x1,rfl,hw,.int _ _⟩
theorem Zf7{n:Int}(h:(Lit.int .u16 n).wf=true):0≤n∧n<65536:=by
 have h1:IntKind.u16.min=0:=rfl
 have h2:IntKind.u16.max=65535:=rfl
 simp only[Lit.wf,Bool.and_eq_true,decide_eq_true_eq] at h
 omega
theorem wf_u8{n:Int}(h:(Lit.int .u8 n).wf=true):0≤n∧n<256:=by
 have h1:IntKind.u8.min=0:=rfl
 have h2:IntKind.u8.max=255:=rfl
 simp only[Lit.wf,Bool.and_eq_true,decide_eq_true_eq] at h
 omega
theorem under40:Tryz.prog.underlying 40=some (.int .u16):=by kernel_rfl
theorem ZeQ{v:Value}{d:DataW H}{p:List MemPlace}(hv:Value.okWide Tryz.prog W .any b0 40 v)(h:DataW.Trod enc Tryz.prog W 0 (fun _=>true) true 40 v d p):∃n:Int,v= .int .u16 n∧(Lit.int .u16 n).wf=true∧VRel id (Nk.Live (Zx W)) v v:=
 Zf4 under40 (by kernel_rfl) (by kernel_rfl) (by kernel_rfl) (by kernel_rfl) hv h
theorem ZfW{v:Value}{d:DataW H}{p:List MemPlace}(hv:Value.okWide Tryz.prog W .any b0 5 v)(h:DataW.Trod enc Tryz.prog W 0 (fun _=>true) true 5 v d p):∃n:Int,v= .int .u8 n∧(Lit.int .u8 n).wf=true∧VRel id (Nk.Live (Zx W)) v v:=
 Zf4 under5 (by kernel_rfl) (by kernel_rfl) (by kernel_rfl) (by kernel_rfl) hv h
theorem under68:Tryz.prog.underlying 68=some (.slice 80):=by kernel_rfl
theorem cells80:Tryz.prog.cellsOf 80=5:=by kernel_rfl
theorem cells70:Tryz.prog.cellsOf 70=5:=by kernel_rfl
theorem Zg3{v:Value}{k:Nat}{x:DataW H×List MemPlace}(hv:∃u,Cell.okWide Tryz.prog W .any b0 u v)(h:DataW.trod enc Tryz.prog W 0 (fun _=>true) true k 68 [v]=some x):
 ∃(base:Option Addr)(n cap:Nat)(S:List Rs),v= .slice base n cap∧S.length=n∧n≤cap∧cap≤maxLen∧VRel id (Nk.Live (Zx W)) v v∧RawS W base S∧∀s∈S,(Lit.int .i64 s.a).wf=true∧(Lit.int .i64 s.m).wf=true∧(Lit.int .i64 s.M).wf=true∧(Lit.int .i64 s.wi).wf=true∧(Lit.int .i64 s.li).wf=true:=by
 obtain⟨base,n,cap,e,hn,hm,hr,hel⟩:=Z5V under68 cells80 (by decide) hv h
 have key:∀i,i<n→∃s:Rs,(∃b off,base=some ⟨b,off,none⟩∧b<W.heap.size∧ShotAt W b (off+i*5) s.a s.m s.M s.wi s.li)∧((Lit.int .i64 s.a).wf=true∧(Lit.int .i64 s.m).wf=true∧(Lit.int .i64 s.M).wf=true∧(Lit.int .i64 s.wi).wf=true∧(Lit.int .i64 s.li).wf=true):=by
  intro i hi
  obtain⟨b,off,h1,h2,cs,h3,h4,h5⟩:=hel i hi
  have hcs:cs.length≤Tryz.prog.cellsOf 80:=by rw[cells80];omega
  obtain⟨x0,e0,w0⟩:=Z0z (n:=3) (o:=0) (u:=3) hcs h5 (by kernel_rfl) under3
  obtain⟨x1,e1,w1⟩:=Z0z (n:=3) (o:=1) (u:=3) hcs h5 (by kernel_rfl) under3
  obtain⟨x2,e2,w2⟩:=Z0z (n:=3) (o:=2) (u:=3) hcs h5 (by kernel_rfl) under3
  obtain⟨x3,e3,w3⟩:=Z0z (n:=3) (o:=3) (u:=3) hcs h5 (by kernel_rfl) under3
  obtain⟨x4,e4,w4⟩:=Z0z (n:=3) (o:=4) (u:=3) hcs h5 (by kernel_rfl) under3
  exact⟨⟨x0,x1,x2,x3,x4⟩,⟨b,off,h1,h2,⟨(h4 0 (by omega)).trans e0,(h4 1 (by omega)).trans e1,(h4 2 (by omega)).trans e2,(h4 3 (by omega)).trans e3,(h4 4 (by omega)).trans e4⟩⟩,w0,w1,w2,w3,w4⟩
 obtain⟨L,hL1,hL2⟩:=Zaa n key
 exact⟨base,n,cap,L,e,hL1,hn,hm,hr,fun i x hx=>(hL2 i x hx).1,fun s hs=>by obtain⟨i,hi⟩:=List.mem_iff_getElem?.1 hs;exact(hL2 i s hi).2⟩
theorem open_card{v:Value}{d:DataW H}{p:List MemPlace}(hv:Value.okWide Tryz.prog W .any b0 70 v)(h:DataW.Trod enc Tryz.prog W 0 (fun _=>true) true 70 v d p):
 ∃(r0 r1 r2 r3:Int)(base:Option Addr)(n cap:Nat)(S:List Rs),v= .agg #[.int .i64 r0,.int .i64 r1,.int .i64 r2,.int .i64 r3,.slice base n cap]∧S.length=n∧n≤cap∧cap≤maxLen∧VRel id (Nk.Live (Zx W)) v v∧RawS W base S∧
  ((Lit.int .i64 r0).wf=true∧(Lit.int .i64 r1).wf=true∧(Lit.int .i64 r2).wf=true∧(Lit.int .i64 r3).wf=true)∧∀s∈S,(Lit.int .i64 s.a).wf=true∧(Lit.int .i64 s.m).wf=true∧(Lit.int .i64 s.M).wf=true∧(Lit.int .i64 s.wi).wf=true∧(Lit.int .i64 s.li).wf=true:=by
 obtain⟨cs,rfl,hs,hx⟩:=aggOk hv (by kernel_rfl)
 obtain⟨fuel,hf⟩:=h
 have hf:DataW.trod enc Tryz.prog W 0 (fun _=>true) true fuel 70 cs.toList=some (d,p):=hf
 rw[cells70] at hs
 have hcs:cs.toList.length≤Tryz.prog.cellsOf 70:=by rw[cells70];simp[hs]
 obtain⟨x0,e0,w0⟩:=Z0z (n:=2) (o:=0) (u:=3) hcs ⟨_,_,hf⟩ (by kernel_rfl) under3
 obtain⟨x1,e1,w1⟩:=Z0z (n:=2) (o:=1) (u:=3) hcs ⟨_,_,hf⟩ (by kernel_rfl) under3
 obtain⟨x2,e2,w2⟩:=Z0z (n:=2) (o:=2) (u:=3) hcs ⟨_,_,hf⟩ (by kernel_rfl) under3
 obtain⟨x3,e3,w3⟩:=Z0z (n:=2) (o:=3) (u:=3) hcs ⟨_,_,hf⟩ (by kernel_rfl) under3
 obtain⟨sv,m,y,e4,h4⟩:=Z7R (n:=2) (o:=4) (u:=68) hcs ⟨_,_,hf⟩ (by kernel_rfl) under68
 obtain⟨base,n,cap,S,rfl,hL,hn,hm,hr,hR,hw⟩:=Zg3 (hx 4 sv (by simpa using e4)) h4
 have hcs5:=arr5 hs e0 e1 e2 e3 e4
 subst hcs5
 have hA:AR id (Nk.Live (Zx W)) #[.int .i64 x0,.int .i64 x1,.int .i64 x2,.int .i64 x3,.slice base n cap] #[.int .i64 x0,.int .i64 x1,.int .i64 x2,.int .i64 x3,.slice base n cap]:=
  ((((AR.nil.push (.int _ _)).push (.int _ _)).push (.int _ _)).push (.int _ _)).push hr
 exact⟨x0,x1,x2,x3,base,n,cap,S,rfl,hL,hn,hm,.agg hA.1 hA.2,hR,⟨w0,w1,w2,w3⟩,hw⟩
end
theorem ZfV{W:World}{base:Option Addr}{S:List Rs}(h:RawS W base S):RawS (Zx W) base S:=fun i x hi=>by
 obtain⟨b,off,h1,h2,h3⟩:=h i x hi
 exact⟨b,off,h1,by rw[Z1l];exact h2,⟨Z0d rfl h3.c0 rfl,Z0d rfl h3.c1 rfl,Z0d rfl h3.c2 rfl,Z0d rfl h3.c3 rfl,Z0d rfl h3.c4 rfl⟩⟩
theorem Zg8{W:World}(t){base:Option Addr}{S:List Rs}(h:RawS W base S):RawS (retape t W) base S:=fun i x hi=>by
 obtain⟨b,off,h1,h2,h3⟩:=h i x hi
 exact⟨b,off,h1,h2,⟨h3.c0,h3.c1,h3.c2,h3.c3,h3.c4⟩⟩
section
variable {H:Type} {enc:TypeId×Value→H} {W:World} {b0:Nat}
theorem under41:Tryz.prog.underlying 41=some (.slice 40):=by kernel_rfl
theorem cells40:Tryz.prog.cellsOf 40=1:=by kernel_rfl
theorem Zgs{v:Value}{d:DataW H}{p:List MemPlace}(hv:Value.okWide Tryz.prog W .any b0 41 v)(h:DataW.Trod enc Tryz.prog W 0 (fun _=>true) true 41 v d p):
 ∃(base:Option Addr)(n cap:Nat)(l:List Int),v= .slice base n cap∧l.length=n∧n≤cap∧cap≤maxLen∧VRel id (Nk.Live (Zx W)) v v∧RawU W base l∧∀y∈l,(Lit.int .u16 y).wf=true:=by
 have hc:=Zei hv (by kernel_rfl) (by kernel_rfl)
 obtain⟨fuel,hf⟩:=h
 have e:v.cells.toList=[v]:=by
  cases v<;>first|rfl|skip
  rename_i cs
  unfold Cell.okWide at hc
  simp only[under41] at hc
  exact hc.elim
 rw[e] at hf
 obtain⟨base,n,cap,e,hn,hm,hr,hel⟩:=Z5V under41 cells40 (by decide) ⟨_,hc⟩ hf
 have key:∀i,i<n→∃x:Int,(∃b off,base=some ⟨b,off,none⟩∧b<W.heap.size∧W.cell? ⟨b,off+i,none⟩=some (.int .u16 x))∧(Lit.int .u16 x).wf=true:=by
  intro i hi
  obtain⟨b,off,h1,h2,cs,h3,h4,h5⟩:=hel i hi
  have hcs:cs.length≤Tryz.prog.cellsOf 40:=by rw[cells40];omega
  obtain⟨x1,e1,hw⟩:=Z0z (n:=0) (o:=0) (u:=40) hcs h5 (by kernel_rfl) under40
  have:=(h4 0 (by omega)).trans e1
  rw[Nat.mul_one,Nat.add_zero] at this
  exact⟨x1,⟨b,off,h1,h2,this⟩,hw⟩
 obtain⟨L,hL1,hL2⟩:=Zaa n key
 exact⟨base,n,cap,L,e,hL1,hn,hm,hr,fun i x hx=>(hL2 i x hx).1,fun y hy=>by obtain⟨i,hi⟩:=List.mem_iff_getElem?.1 hy;exact(hL2 i y hi).2⟩
end
theorem Zgt{W:World}{base:Option Addr}{l:List Int}(h:RawU W base l):RawU (Zx W) base l:=fun i x hi=>by
 obtain⟨b,off,h1,h2,h3⟩:=h i x hi
 exact⟨b,off,h1,by rw[Z1l];exact h2,Z0d rfl h3 rfl⟩
theorem Zgy{W:World}(t){base:Option Addr}{l:List Int}(h:RawU W base l):RawU (retape t W) base l:=fun i x hi=>by
 obtain⟨b,off,h1,h2,h3⟩:=h i x hi
 exact⟨b,off,h1,h2,h3⟩
end Go.Proofs.Tryq
namespace Go.Proofs.YtedkbdkbbnemlaaGreatDoor
set_option maxRecDepth 100000
open Go Go.Nk Go.RowKit Go.ChangeShapes Go.WideShapes Go.ChangeAt Go.Conc
open Go.Proofs.Tryq
attribute [local instance] theBan
theorem Zgk(os:Os)(started:os.Started)(H:Type)(enc:TypeId×Value→H):
 ReturnsInLeavingWide {} Tryz.checked os 8 .any (fun w args=>(Rows.arrowEachSpec.pre enc Tryz.prog Tryz.f8 [] false w args∧laidMetH Tryz.prog laidL w)∧sizedMet enc Tryz.prog Tryz.f8 (OpenSpec.ofChange Rows.arrowEachSpec) false w args)
  (Rows.arrowEachSpec.post enc Tryz.prog Tryz.f8 false true false false):=by
 refine Z4e (n:=4) (ts:=[70,5,40,41]) started (by simp[keptList]) Tryz.func8 same8 (by kernel_rfl) Tryz.results8 (by kernel_rfl) (by rw[Tryz.params8]) rfl rfl (by kernel_rfl) (fun ds hd=>by
  match ds,hd with
  |[_,_,_,_],_=>rfl) (by kernel_rfl)
  (ChangeSpec.witness_shaped (enc:=enc) (C:=Tryz.checked) (os:=os) (X:=fun w _=>laidMetH Tryz.prog laidL w) false (World.doorLaid Tryz.prog 400 os) #[.agg #[.int .i64 0,.int .i64 0,.int .i64 0,.int .i64 0,.slice none 0 0],.int .u8 0,.int .u16 0,.slice none 0 0] 8 rfl (Z3F os _) (by kernel_rfl) (by kernel_rfl) (by kernel_rfl) (Z7C os _)) ?_
 intro W base args ds p hval hA hM hmo hd
 rw[Tryz.params8] at hval
 obtain⟨v0,v1,v2,v3,dx0,dx1,dx2,dx3,px0,px1,px2,px3,rfl,rfl,rfl,h0,h1,h2,h3⟩:=trodAll_four hA
 obtain⟨a0,b0,c0,d0,ab0,n0,k0,S0,rfl,hL0,hn0,hc0,hr0,hS0,hw0,hx0⟩:=open_card (hval 0 70 v0 rfl rfl) h0
 obtain⟨u1,rfl,hw1,hr1⟩:=ZfW (hval 1 5 v1 rfl rfl) h1
 obtain⟨u2,rfl,hw2,hr2⟩:=ZeQ (hval 2 40 v2 rfl rfl) h2
 obtain⟨ab3,n3,k3,S3,rfl,hL3,hn3,hc3,hr3,hS3,hw3⟩:=Zgs (hval 3 41 v3 rfl rfl) h3
 refine⟨(((AR.nil.push hr0).push hr1).push hr2).push hr3,fun t=> ?_⟩
 exact Zgm a0 b0 c0 d0 ab0 n0 k0 u1 u2 ab3 n3 k3 S3 S0 (retape t (Zx W)) hL0 (wf_u8 hw1) (Zf7 hw2) hL3 (fun x hx=>Zf7 (hw3 x hx)) hM (Za7 t hmo) hd (Zg8 t (ZfV hS0)) (Zgy t (Zgt hS3))
theorem arrowEach_row:Rows.ArrowEachSaid:=
 OpenClaim.holds_of_wide_leaving 8 Tryz.f8 rfl rfl rfl rfl rfl rfl rfl ⟨rfl,rfl,rfl,rfl,rfl⟩ rfl rfl rfl rfl rfl (by kernel_rfl) Tryz.func8 JarrowEach.facts
  (of_decide_eq_true (by kernel_rfl)) (by unfold Func.isWrapper;first|(rw[if_pos (by decide+kernel)];kernel_rfl)|(rw[if_neg (by decide+kernel)];exact⟨rfl,rfl⟩))
  (fun os started H enc _=>Zgk os started H enc)
theorem arrowEach_card:Rows.ArrowEachCardSaid:=
 Zac .later [.data,.data,.data,.funcs] true (true,"0e1059176c690520e63ed0d32383d6ff1680ebd08dcb3a61820afc84c46f7b58") false
  arrowEach_row (by kernel_rfl) arrowEach_row_tie rfl ⟨rfl,rfl⟩ (by kernel_rfl) rfl
  (fun f fn hf hfn=>by
    obtain rfl:f=8:=Option.some.inj ((show Tryz.prog.funcNamed "nock/nocklaw01.ArrowEach" =some 8 by kernel_rfl).symm.trans hf) |>.symm
    obtain rfl:fn=Tryz.f8:=(Option.some.inj (Tryz.func8.symm.trans hfn)).symm
    exact⟨by kernel_rfl,fun j t ht=>by
     rw[Tryz.params8] at ht
     have hm:t∈[70,5,40,41]:=by simpa using Array.mem_of_getElem? ht
     have hall:([70,5,40,41].all fun u=> !Tryz.prog.wantsStandIn u)=true:=by kernel_rfl
     exact(show Tryz.prog.wantsStandIn t=false by simpa using List.all_eq_true.1 hall t hm)⟩)
  (by kernel_rfl)
end Go.Proofs.YtedkbdkbbnemlaaGreatDoor
