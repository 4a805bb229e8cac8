/- nocklaw01.ArrowOrder: for every card, any turn, any shot and any distance the call returns true, on every schedule and without a data race; its arguments read afterwards as they read before; nothing that was in memory is changed; at the return no other goroutine does more than leave. The card ties the four listed package variables to the program's text. Conditions: none beyond the card's own (the listed variables hold what the program's text lays). The texts of this claim were shortened by program (no remarks, short names) to fit the bounds on a claim's size; their long form lies in the repository's folder wip. -/
import Derived.Test.YtedkbdkbbnemlaaGreatDoorNk31
import Derived.JoinedOf
import Derived.KernelRfl
import Derived.Test.YtedkbdkbbnemlaaGreatDoorRows
set_option linter.all false
namespace Go.Proofs.Tryq
set_option maxHeartbeats 4000000
open Go Go.Nk Go.RowKit
set_option linter.all false
theorem Zke{n i B:Nat}(hi:i<n):((i+(n - B % n)) % n+B) % n=i:=by
 have h1:B % n<n:=Nat.mod_lt _ (by omega);have h2:=Nat.div_add_mod B n;rw[Nat.mod_add_mod,show i+(n - B % n)+B=i+n+n*(B / n) by omega,Nat.add_mul_mod_self_left,Nat.add_mod_right,Nat.mod_eq_of_lt hi]
theorem Zkj{S:List Rs}{B:Nat}{s:Rs}:s∈ZS S B S.length↔s∈S:=by
 rw[ZS,List.mem_filterMap];constructor
 ·rintro⟨j,_,h⟩;exact List.mem_of_getElem? h
 ·intro h;obtain⟨i,hi⟩:=List.mem_iff_getElem?.1 h;have A3:=(List.getElem?_eq_some_iff.1 hi).1;exact⟨(i+(S.length - B % S.length)) % S.length,List.mem_range.2 (Nat.mod_lt _ (by omega)),by rw[Zke A3];exact hi⟩
theorem Zkf{r0 r1 r2 r3:Int}{S:List Rs}{n k:Nat}(hk:k<n):(k:Int)∈Zk0 r0 r1 r2 r3 S n↔Zk7 r0 r1 r2 r3 S k=true:=by
 unfold Zk0;rw[List.mem_map];constructor
 ·rintro⟨j,hj,e⟩;have:j=k:=by omega
  subst this;exact(List.mem_filter.1 hj).2
 ·intro h;exact⟨k,List.mem_filter.2 ⟨List.mem_range.2 hk,h⟩,rfl⟩
theorem Zk4(r0 r1 r2 r3:Int)(base:Option Addr)(n cap:Nat)(b wh at9:Int)(S:List Rs)(w:World)(A1:S.length=n)(hb:0<=b/\b<256)(hw:0<=wh/\wh<256)(ha:0<=at9/\at9<256)(hM:Meas w)(D7:Most w)(hd:Deb w)(hS:RawS w base S):
 Calls prog 20 #[.agg #[.int .i64 r0,.int .i64 r1,.int .i64 r2,.int .i64 r3,.slice base n cap],.int .u8 b,.int .u8 wh,.int .u8 at9] w fun e w'=>e= .returned (.bool true):=by
 have Q4:=fun W (hW:Ext w W)=>Zgb r0 r1 r2 r3 base n cap S W A1 (hS.ext hW)
 have B9:∀W,Ext w W->Calls prog 22 #[] W fun e w'=>e= .returned (.bool true)/\Ext W w':=fun W (hW:Ext w W)=>Zce W (hM.ext hW) (D7.ext hW) (hd.ext hW)
 cases hf:ZfR r0 r1 r2 r3 S with
 |false=>
  simp only[hf] at Q4;exact Zkg r0 r1 r2 r3 base n cap b wh at9 w Q4 B9
 |true=>
  simp only[hf] at Q4;have Eo:ZC r0 r1 r2 r3 S=0:=by simp[ZfR] at hf;exact hf.2
  have By:=Zav Eo;have Ca:=By.len;rw[A1] at Ca;have Cq:∀W,Ext w W->Calls prog 44 #[.int .i64 n] W fun e w'=>∃ao cp,e= .returned (.slice ao n cp)/\RawI w' ao (upL n)/\n<=cp/\Ext W w':=by
   intro W hW;refine(Zg9 n W (by omega)).mono ?_;rintro e w2 ⟨x,rfl,hx,hE⟩;obtain⟨bl,cl,rfl,hI,Gq⟩:=hx.rawI;rw[Zj5] at Gq;exact⟨bl,cl,by rw[Zj5],hI,Gq,hE⟩
  have Ty:=fun W ao cp (hW:Ext w W)(hI:RawI W ao (upL n))(_:n<=cp)=>Zg2 r0 r1 r2 r3 base n cap S ao n cp (upL n) W A1 (by omega) (by simp[upL]) (by omega) (fun j hj=>mem_upL.1 hj) (hS.ext hW) hI
  cases hq:Z20 r0 r1 r2 r3 S (upL n) with
  |false=>
   simp only[hq] at Ty;exact Zkh r0 r1 r2 r3 base n cap b wh at9 w Q4 Cq Ty B9
  |true=>
   simp only[hq] at Ty;by_cases hz:n=0
   ·exact Zki r0 r1 r2 r3 base n cap b wh at9 w Q4 Cq Ty (by rw[hz];rfl) B9
   ·have hg:Fine r0 r1 r2 r3 S:=⟨Eo,fun e=>hz (by rw[<-A1,e];rfl),by rw[A1];exact hq⟩;have Cn:0<=wh % (n:Int)/\wh % (n:Int)<n:=⟨Int.emod_nonneg _ (by omega),Int.emod_lt_of_pos _ (by omega)⟩;obtain⟨k,hk⟩:∃k:Nat,(k:Int)=wh % (n:Int):=⟨(wh % (n:Int)).toNat,by omega⟩;have Dt:k<n:=(by omega);obtain⟨B,hB⟩:∃B:Nat,b=(B:Int):=⟨b.toNat,by omega⟩;obtain⟨d,Va⟩:∃d:Nat,at9 % 91=(d:Int):=⟨(at9 % 91).toNat,by omega⟩;have J2:((upL n).eraseIdx k).length=n - 1:=(by rw[List.length_eraseIdx,Zj5,if_pos Dt]);have An:∀i∈(upL n).eraseIdx k,0<=i/\i<S.length:=fun i hi=>by rw[A1];exact Zk8 hi
    have N9:(ZS S B n).length=n:=Zk3 (by omega) B n;have Gz:∀s,s∈ZS S B n↔s∈S:=fun s=>by rw[<-A1];exact Zkj
    have Ph:=hg.same (T:=ZS S B n) (by omega) Gz;have hmF:ZjZ r0 r1 r2 r3 S=0:=(by rw[ZjZ,if_pos Eo];exact hg.against);have hLd:ZjY r0 r1 r2 r3 S=Zk0 r0 r1 r2 r3 S n:=(by rw[ZjY,if_pos hmF,A1]);have Ql:ZjY r0 r1 r2 r3 S∈chooseR (upL n):=(by rw[hLd];exact(chooseR_iff _ _).2 (List.Sublist.map _ List.filter_sublist));obtain⟨_,_,c3,c4⟩:=ZiY Ql
    refine Zka r0 r1 r2 r3 base n cap b wh at9 w Q4 Cq Ty (beq_eq_false_iff_ne.2 (by omega)) Ca (by omega) S A1 hS B hB (by omega) d (by omega) (by rw[Int.tmod_eq_emod_of_nonneg ha.1,Va]) ha
     (fun e=>Z4L r0 r1 r2 r3 S e) (fun e=>Z4L r0 r1 r2 r3 (ZR S ((upL n).eraseIdx k)) e) (ZjY r0 r1 r2 r3 S) (ZR S ((upL n).eraseIdx k)) (ZjY r0 r1 r2 r3 S).length (n - 1) k (by show _=_;omega) Dt (by rw[Int.tmod_eq_emod_of_nonneg hw.1,hk]) hw rfl (by omega) (by show _=_;rw[Zj2 An,J2])
     ?_ ?_ ?_ ?_ ?_ ?_ ?_ ?_ ?_ B9
    ·intro e he W hW;have:=Z86 r0 r1 r2 r3 base n cap W e S A1 (hS.ext hW) (D7.ext hW);rw[hg.markF (by omega),hg.markR (by omega)] at this;exact this
    ·intro mb mc W hW hR;have:=Z86 r0 r1 r2 r3 mb n mc W d (ZS S B n) N9 hR (D7.ext hW);rw[Ph.markF (by omega),Ph.markR (by omega),hg.same_mark (T:=ZS S B n) (by omega) Gz (by omega)] at this;exact this
    ·intro W hW;refine(Zk9 r0 r1 r2 r3 base n cap S W A1 (hS.ext hW) (D7.ext hW)).mono ?_;rintro e w' ⟨v,rfl,hv,hE⟩;obtain⟨bl,cl,rfl,hI,_⟩:=hv.rawI;exact⟨bl,cl,by rw[hmF],hI,hE⟩
    ·intro bl cl W hI;have:=Z5a n bl _ cl (ZjY r0 r1 r2 r3 S) W (by omega) rfl (by omega) hI;rw[c4] at this;exact this
    ·intro h1;rw[hLd,h1,Zk1];have:Zk7 r0 r1 r2 r3 S 0=true:=(by rw[hg.mat (by omega),matQ,A1,h1];rfl);rw[this];rfl
    ·intro bl cl W Gq hI;refine(Zkd bl n cl (upL n) k W (Zj5 n) (by omega) Gq Dt hI).mono ?_;rintro e w' ⟨v,rfl,hv,hE⟩;obtain⟨b2,c2,rfl,Ip,_⟩:=hv.rawI;exact⟨b2,c2,by rw[J2],Ip,hE⟩
    ·intro bl cl W hW hI;exact Zjr r0 r1 r2 r3 base n cap S bl (n - 1) cl ((upL n).eraseIdx k) W A1 J2 (by omega) (by omega) An (hS.ext hW) hI
    ·intro hm e he mb mc W hW hR;have hgF:=hg.som An (by omega) (fun e0=>by rw[e0] at J2;simp at J2;omega);have:=Z86 r0 r1 r2 r3 mb (n - 1) mc W e (ZR S ((upL n).eraseIdx k)) (by rw[Zj2 An,J2]) hR (D7.ext hW);rw[hgF.markF (by omega),hgF.markR (by omega)] at this;exact this
    ·intro hm;have:=hg.matters (k:=k) (by omega) (by omega);rw[decide_eq_true_eq,hLd,Zkf Dt,this,A1];constructor
     ·rintro⟨e,he,h⟩;exact⟨e,by omega,h⟩
     ·rintro⟨e,he,h⟩;exact⟨e,by omega,h⟩
end Go.Proofs.Tryq
section
set_option maxRecDepth 100000
namespace Go.Proofs.YtedkbdkbbnemlaaGreatDoor
open Go
namespace JarrowOrder
theorem k0:Rows.arrowOrderRow.wf (OpenSpec.ofChange Rows.arrowOrderSpec)=true:=by kernel_rfl
theorem k1:laidOutB Tryz.prog=true:=by kernel_rfl
theorem k2:mapsRowed Tryz.prog=true:=by kernel_rfl
theorem k3:Tryz.f20.params.all (Tryz.prog.readableRec ·)=true:=by kernel_rfl
theorem k4:namedTie Tryz.prog Rows.arrowOrderRow.named Rows.arrowOrderSpec.vars=true:=by kernel_rfl
theorem k5:(Rows.arrowOrderRow.stops==[])=true:=by kernel_rfl
theorem k6:(Tryz.prog.stops==[])=true:=by kernel_rfl
theorem k7:(Rows.arrowOrderRow.knobs==[])=true:=by kernel_rfl
theorem k8:(Tryz.prog.stopKnobs==[])=true:=by kernel_rfl
theorem k9:(Rows.arrowOrderRow.inPlace==Tryz.prog.inPlace 20)=true:=by kernel_rfl
theorem k10:(Rows.arrowOrderRow.unfollowed==Tryz.prog.unfollowed 20)=true:=by kernel_rfl
theorem k11:(Rows.arrowOrderRow.recurses==Tryz.prog.recurses 20)=true:=by kernel_rfl
theorem k12:(Rows.arrowOrderRow.named==Tryz.prog.varsNamed 20)=true:=by kernel_rfl
theorem k13:(Rows.arrowOrderRow.maps==(Tryz.f20.params.toList++Rows.arrowOrderSpec.plain.varTypes Tryz.prog).any (Tryz.prog.mapsRec ·))=true:=by kernel_rfl
theorem k14:(Rows.arrowOrderRow.ifaces==(Tryz.f20.params.toList++Rows.arrowOrderSpec.plain.varTypes Tryz.prog).any (Tryz.prog.ifacesRec ·))=true:=by kernel_rfl
theorem k15:(Rows.arrowOrderRow.mapsOut==Tryz.prog.mapsAmong Tryz.f20.resultTypes.toList)=true:=by kernel_rfl
theorem k16:(Rows.arrowOrderRow.loops==(Tryz.f20.params.toList++Rows.arrowOrderSpec.plain.varTypes Tryz.prog).any (Tryz.prog.loopsFrom ·))=true:=by kernel_rfl
theorem k17:(Rows.arrowOrderRow.wideKeys==(Tryz.f20.params.toList++Rows.arrowOrderSpec.plain.varTypes Tryz.prog++Tryz.f20.resultTypes.toList).any (Tryz.prog.wideKeysFrom ·))=true:=by kernel_rfl
theorem k18:Rows.arrowOrderSpec.vars.all (Tryz.prog.varReadable ·)=true:=by kernel_rfl
theorem k19:Tryz.f20.resultTypes.all (fun t=>Tryz.prog.readableRec t&&decide (t<Tryz.prog.types.size))=true:=by kernel_rfl
theorem k20:(Rows.arrowOrderRow.ifacesOut==Tryz.f20.resultTypes.toList.any (Tryz.prog.ifacesRec ·))=true:=by kernel_rfl
theorem k21:(Rows.arrowOrderRow.loopsOut==Tryz.f20.resultTypes.toList.any (Tryz.prog.loopsFrom ·))=true:=by kernel_rfl
theorem k22:(Rows.arrowOrderRow.plainKeys==Tryz.prog.plainKeys)=true:=by kernel_rfl
theorem k23:Rows.arrowOrderRow.shortTexts.isNone=true:=by kernel_rfl
theorem k24:Tryz.prog.stopsHeard=true:=by kernel_rfl
theorem k25:Tryz.prog.mayEnter=true:=by kernel_rfl
theorem k26:(Rows.arrowOrderRow.lifted==Tryz.prog.liftsFinal)=true:=by kernel_rfl
theorem k27:(Tryz.prog.make==some Rows.arrowOrderRow.make)=true:=by kernel_rfl
theorem k28:(Rows.arrowOrderRow.kinds==(if Rows.arrowOrderRow.domain.isEmpty then[] else Tryz.f20.params.toList.map fun t=>match Tryz.prog.underlying t with|some (.int k)=>some k|_=>none))=true:=by kernel_rfl
theorem k29:(Rows.arrowOrderRow.pinned==Rows.arrowOrderRow.pinnedBy)=true:=by kernel_rfl
theorem k30:(Rows.arrowOrderRow.veiled==(Tryz.f20.params.toList++Rows.arrowOrderSpec.plain.varTypes Tryz.prog++Tryz.f20.resultTypes.toList).any (Tryz.prog.veiledRec ·))=true:=by kernel_rfl
theorem k31:Rows.arrowOrderRow.veiledFits Tryz.prog Tryz.f20.params.toList (Tryz.f20.params.toList++Rows.arrowOrderSpec.plain.varTypes Tryz.prog++Tryz.f20.resultTypes.toList)=true:=by kernel_rfl
theorem ZI{a b:Bool}(ha:a=true)(hb:b=true):(a&&b)=true:=by rw[ha,hb];rfl
theorem facts:joinedFacts Tryz.prog 20 Tryz.f20 Rows.arrowOrderSpec Rows.arrowOrderRow=true:=(ZI (ZI (ZI (ZI (ZI (ZI (ZI (ZI (ZI (ZI (ZI (ZI (ZI (ZI (ZI (ZI (ZI (ZI (ZI (ZI (ZI (ZI (ZI (ZI (ZI (ZI (ZI (ZI (ZI (ZI (ZI k0 k1) k2) k3) k4) k5) k6) k7) k8) k9) k10) k11) k12) k13) k14) k15) k16) k17) k18) k19) k20) k21) k22) k23) k24) k25) k26) k27) k28) k29) k30) k31)
end JarrowOrder
end Go.Proofs.YtedkbdkbbnemlaaGreatDoor
end
namespace Go.Proofs.Tryq
set_option maxRecDepth 100000
open Go Go.Nk Go.RowKit Go.ChangeShapes Go.WideShapes Go.ChangeAt Go.Conc Go.Deep
attribute [local instance] theBan
section
variable {H:Type} {enc:TypeId×Value->H} {W:World} {b0:Nat}
theorem Zf4{t:TypeId}{k:IntKind}(hu:Tryz.prog.underlying t=some (.int k))(hs:isS Tryz.prog t=false)(ha:isA Tryz.prog t=false)(hl:(Z3e Tryz.prog 0 t 0).any (fun y=>y.1==0&&y.2==t)=true)(De:Tryz.prog.cellsOf t=1){v:Value}{d:DataW H}{p:List MemPlace}(hv:Value.okWide Tryz.prog W .any b0 t v)(h:DataW.Trod enc Tryz.prog W 0 (fun _=>true) true t v d p):
 ∃n:Int,v= .int k n/\(Lit.int k n).wf=true/\VRel id (Nk.Live (Zx W)) v v:=by
 have hc:=Zei hv hs ha;obtain⟨fuel,hf⟩:=h;have e:v.cells.toList=[v]:=by
  cases v<;>first|rfl|skip
  rename_i cs;simp[Cell.okWide,Cell.ok,hu] at hc
 rw[e] at hf;have Ak:[v].length<=Tryz.prog.cellsOf t:=by rw[De];exact Nat.le_refl _
 obtain⟨x1,e1,hw⟩:=Z0z (n:=0) (o:=0) (u:=t) Ak ⟨_,_,hf⟩ hl hu;obtain rfl:v= .int k x1:=by simpa using e1
 exact⟨x1,rfl,hw,.int _ _⟩
theorem Zgg{n:Int}(h:(Lit.int .u8 n).wf=true):0<=n/\n<256:=by
 have h1:IntKind.u8.min=0:=rfl;have h2:IntKind.u8.max=255:=rfl;simp only[Lit.wf,Bool.and_eq_true,decide_eq_true_eq] at h;omega
theorem ZfW{v:Value}{d:DataW H}{p:List MemPlace}(hv:Value.okWide Tryz.prog W .any b0 5 v)(h:DataW.Trod enc Tryz.prog W 0 (fun _=>true) true 5 v d p):∃n:Int,v= .int .u8 n/\(Lit.int .u8 n).wf=true/\VRel id (Nk.Live (Zx W)) v v:=
 Zf4 under5 (by kernel_rfl) (by kernel_rfl) (by kernel_rfl) (by kernel_rfl) hv h
theorem under68:Tryz.prog.underlying 68=some (.slice 80):=by kernel_rfl
theorem cells80:Tryz.prog.cellsOf 80=5:=by kernel_rfl
theorem cells70:Tryz.prog.cellsOf 70=5:=by kernel_rfl
theorem Zg3{v:Value}{k:Nat}{x:DataW H×List MemPlace}(hv:∃u,Cell.okWide Tryz.prog W .any b0 u v)(h:DataW.trod enc Tryz.prog W 0 (fun _=>true) true k 68 [v]=some x):
 ∃(base:Option Addr)(n cap:Nat)(S:List Rs),v= .slice base n cap/\S.length=n/\n<=cap/\cap<=maxLen/\VRel id (Nk.Live (Zx W)) v v/\RawS W base S/\∀s∈S,(Lit.int .i64 s.a).wf=true/\(Lit.int .i64 s.m).wf=true/\(Lit.int .i64 s.M).wf=true/\(Lit.int .i64 s.wi).wf=true/\(Lit.int .i64 s.li).wf=true:=by
 obtain⟨base,n,cap,e,hn,hm,hr,J2⟩:=Z5V under68 cells80 (by decide) hv h;have key:∀i,i<n->∃s:Rs,(∃b off,base=some ⟨b,off,none⟩/\b<W.heap.size/\ShotAt W b (off+i*5) s.a s.m s.M s.wi s.li)/\((Lit.int .i64 s.a).wf=true/\(Lit.int .i64 s.m).wf=true/\(Lit.int .i64 s.M).wf=true/\(Lit.int .i64 s.wi).wf=true/\(Lit.int .i64 s.li).wf=true):=by
  intro i hi;obtain⟨b,off,h1,h2,cs,h3,h4,h5⟩:=J2 i hi;have Ak:cs.length<=Tryz.prog.cellsOf 80:=by rw[cells80];omega
  obtain⟨x0,e0,w0⟩:=Z0z (n:=3) (o:=0) (u:=3) Ak h5 (by kernel_rfl) under3;obtain⟨x1,e1,w1⟩:=Z0z (n:=3) (o:=1) (u:=3) Ak h5 (by kernel_rfl) under3;obtain⟨x2,e2,w2⟩:=Z0z (n:=3) (o:=2) (u:=3) Ak h5 (by kernel_rfl) under3;obtain⟨x3,e3,w3⟩:=Z0z (n:=3) (o:=3) (u:=3) Ak h5 (by kernel_rfl) under3;obtain⟨x4,e4,w4⟩:=Z0z (n:=3) (o:=4) (u:=3) Ak h5 (by kernel_rfl) under3;exact⟨⟨x0,x1,x2,x3,x4⟩,⟨b,off,h1,h2,⟨(h4 0 (by omega)).trans e0,(h4 1 (by omega)).trans e1,(h4 2 (by omega)).trans e2,(h4 3 (by omega)).trans e3,(h4 4 (by omega)).trans e4⟩⟩,w0,w1,w2,w3,w4⟩
 obtain⟨L,Ch,Ug⟩:=Zaa n key;exact⟨base,n,cap,L,e,Ch,hn,hm,hr,fun i x hx=>(Ug i x hx).1,fun s hs=>by obtain⟨i,hi⟩:=List.mem_iff_getElem?.1 hs;exact(Ug i s hi).2⟩
theorem open_card{v:Value}{d:DataW H}{p:List MemPlace}(hv:Value.okWide Tryz.prog W .any b0 70 v)(h:DataW.Trod enc Tryz.prog W 0 (fun _=>true) true 70 v d p):
 ∃(r0 r1 r2 r3:Int)(base:Option Addr)(n cap:Nat)(S:List Rs),v= .agg #[.int .i64 r0,.int .i64 r1,.int .i64 r2,.int .i64 r3,.slice base n cap]/\S.length=n/\n<=cap/\cap<=maxLen/\VRel id (Nk.Live (Zx W)) v v/\RawS W base S/\
  ((Lit.int .i64 r0).wf=true/\(Lit.int .i64 r1).wf=true/\(Lit.int .i64 r2).wf=true/\(Lit.int .i64 r3).wf=true)/\∀s∈S,(Lit.int .i64 s.a).wf=true/\(Lit.int .i64 s.m).wf=true/\(Lit.int .i64 s.M).wf=true/\(Lit.int .i64 s.wi).wf=true/\(Lit.int .i64 s.li).wf=true:=by
 obtain⟨cs,rfl,hs,hx⟩:=aggOk hv (by kernel_rfl);obtain⟨fuel,hf⟩:=h;have hf:DataW.trod enc Tryz.prog W 0 (fun _=>true) true fuel 70 cs.toList=some (d,p):=hf;rw[cells70] at hs;have Ak:cs.toList.length<=Tryz.prog.cellsOf 70:=by rw[cells70];simp[hs]
 obtain⟨x0,e0,w0⟩:=Z0z (n:=2) (o:=0) (u:=3) Ak ⟨_,_,hf⟩ (by kernel_rfl) under3;obtain⟨x1,e1,w1⟩:=Z0z (n:=2) (o:=1) (u:=3) Ak ⟨_,_,hf⟩ (by kernel_rfl) under3;obtain⟨x2,e2,w2⟩:=Z0z (n:=2) (o:=2) (u:=3) Ak ⟨_,_,hf⟩ (by kernel_rfl) under3;obtain⟨x3,e3,w3⟩:=Z0z (n:=2) (o:=3) (u:=3) Ak ⟨_,_,hf⟩ (by kernel_rfl) under3;obtain⟨sv,m,y,e4,h4⟩:=Z7R (n:=2) (o:=4) (u:=68) Ak ⟨_,_,hf⟩ (by kernel_rfl) under68;obtain⟨base,n,cap,S,rfl,hL,hn,hm,hr,hR,hw⟩:=Zg3 (hx 4 sv (by simpa using e4)) h4;have hcs5:=arr5 hs e0 e1 e2 e3 e4;subst hcs5
 have hA:AR id (Nk.Live (Zx W)) #[.int .i64 x0,.int .i64 x1,.int .i64 x2,.int .i64 x3,.slice base n cap] #[.int .i64 x0,.int .i64 x1,.int .i64 x2,.int .i64 x3,.slice base n cap]:=
  ((((AR.nil.push (.int _ _)).push (.int _ _)).push (.int _ _)).push (.int _ _)).push hr
 exact⟨x0,x1,x2,x3,base,n,cap,S,rfl,hL,hn,hm,.agg hA.1 hA.2,hR,⟨w0,w1,w2,w3⟩,hw⟩
end
theorem ZfV{W:World}{base:Option Addr}{S:List Rs}(h:RawS W base S):RawS (Zx W) base S:=fun i x hi=>by
 obtain⟨b,off,h1,h2,h3⟩:=h i x hi;exact⟨b,off,h1,by rw[Z1l];exact h2,⟨Z0d rfl h3.c0 rfl,Z0d rfl h3.c1 rfl,Z0d rfl h3.c2 rfl,Z0d rfl h3.c3 rfl,Z0d rfl h3.c4 rfl⟩⟩
theorem Zg8{W:World}(t){base:Option Addr}{S:List Rs}(h:RawS W base S):RawS (retape t W) base S:=fun i x hi=>by
 obtain⟨b,off,h1,h2,h3⟩:=h i x hi;exact⟨b,off,h1,h2,⟨h3.c0,h3.c1,h3.c2,h3.c3,h3.c4⟩⟩
end Go.Proofs.Tryq
namespace Go.Proofs.YtedkbdkbbnemlaaGreatDoor
set_option maxRecDepth 100000
open Go Go.Nk Go.RowKit Go.ChangeShapes Go.WideShapes Go.ChangeAt Go.Conc
open Go.Proofs.Tryq
attribute [local instance] theBan
theorem Zk2(os:Os)(started:os.Started)(H:Type)(enc:TypeId×Value->H):
 ReturnsInLeavingWide {} Tryz.checked os 20 .any (fun w args=>(Rows.arrowOrderSpec.pre enc Tryz.prog Tryz.f20 [] false w args/\laidMetH Tryz.prog laidL w)/\sizedMet enc Tryz.prog Tryz.f20 (OpenSpec.ofChange Rows.arrowOrderSpec) false w args)
  (Rows.arrowOrderSpec.post enc Tryz.prog Tryz.f20 false true false false):=by
 refine Z4e (n:=4) (ts:=[70,5,5,5]) started (by simp[keptList]) Tryz.func20 same20 (by kernel_rfl) Tryz.results20 (by kernel_rfl) (by rw[Tryz.params20]) rfl rfl (by kernel_rfl) (fun ds hd=>by
  match ds,hd with
  |[_,_,_,_],_=>rfl) (by kernel_rfl)
  (ChangeSpec.witness_shaped (enc:=enc) (C:=Tryz.checked) (os:=os) (X:=fun w _=>laidMetH Tryz.prog laidL w) false (World.doorLaid Tryz.prog 400 os) #[.agg #[.int .i64 0,.int .i64 0,.int .i64 0,.int .i64 0,.slice none 0 0],.int .u8 0,.int .u8 0,.int .u8 0] 8 rfl (Z3F os _) (by kernel_rfl) (by kernel_rfl) (by kernel_rfl) (Z7C os _)) ?_
 intro W base args ds p F5 hA hM D7 hd;rw[Tryz.params20] at F5;obtain⟨v0,v1,v2,v3,dx0,dx1,dx2,dx3,px0,px1,px2,px3,rfl,rfl,rfl,h0,h1,h2,h3⟩:=trodAll_four hA;obtain⟨a0,b0,c0,d0,ab0,n0,k0,S0,rfl,hL0,P8,Bf,Ec,Hq,Mr,Bh⟩:=open_card (F5 0 70 v0 rfl rfl) h0;obtain⟨u1,rfl,Lv,D0⟩:=ZfW (F5 1 5 v1 rfl rfl) h1;obtain⟨u2,rfl,Fg,Cg⟩:=ZfW (F5 2 5 v2 rfl rfl) h2;obtain⟨u3,rfl,E5,Ep⟩:=ZfW (F5 3 5 v3 rfl rfl) h3;refine⟨(((AR.nil.push Ec).push D0).push Cg).push Ep,fun t=> ?_⟩;exact Zk4 a0 b0 c0 d0 ab0 n0 k0 u1 u2 u3 S0 (retape t (Zx W)) hL0 (Zgg Lv) (Zgg Fg) (Zgg E5) hM (Za7 t D7) hd (Zg8 t (ZfV Hq))
theorem arrowOrder_row:Rows.ArrowOrderSaid:=
 OpenClaim.holds_of_wide_leaving 20 Tryz.f20 rfl rfl rfl rfl rfl rfl rfl ⟨rfl,rfl,rfl,rfl,rfl⟩ rfl rfl rfl rfl rfl (by kernel_rfl) Tryz.func20 JarrowOrder.facts
  (of_decide_eq_true (by kernel_rfl)) (by unfold Func.isWrapper;first|(rw[if_pos (by decide+kernel)];kernel_rfl)|(rw[if_neg (by decide+kernel)];exact⟨rfl,rfl⟩))
  (fun os started H enc _=>Zk2 os started H enc)
theorem arrowOrder_card:Rows.ArrowOrderCardSaid:=
 Zac .later [.data,.data,.data,.funcs] true (true,"0e1059176c690520e63ed0d32383d6ff1680ebd08dcb3a61820afc84c46f7b58") false
  arrowOrder_row (by kernel_rfl) arrowOrder_row_tie rfl ⟨rfl,rfl⟩ (by kernel_rfl) rfl
  (fun f fn hf hfn=>by
    obtain rfl:f=20:=Option.some.inj ((show Tryz.prog.funcNamed "nock/nocklaw01.ArrowOrder" =some 20 by kernel_rfl).symm.trans hf) |>.symm
    obtain rfl:fn=Tryz.f20:=(Option.some.inj (Tryz.func20.symm.trans hfn)).symm
    exact⟨by kernel_rfl,fun j t ht=>by
     rw[Tryz.params20] at ht;have hm:t∈[70,5,5,5]:=(by simpa using Array.mem_of_getElem? ht);have Aj:([70,5,5,5].all fun u=> !Tryz.prog.wantsStandIn u)=true:=(by kernel_rfl);exact(show Tryz.prog.wantsStandIn t=false by simpa using List.all_eq_true.1 Aj t hm)⟩)
  (by kernel_rfl)
end Go.Proofs.YtedkbdkbbnemlaaGreatDoor
