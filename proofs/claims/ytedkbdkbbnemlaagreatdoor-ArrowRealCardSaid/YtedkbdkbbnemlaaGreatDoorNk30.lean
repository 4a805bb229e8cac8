/- nocklaw01.ArrowReal: for every rule, any truth of it, any shots and any distance the call returns true, on every schedule and without a data race; its arguments read afterwards as they read before; nothing that was in memory is changed; at the return no other goroutine does more than leave. The card ties the four listed package variables to the program's text. Conditions: none beyond the card's own (the listed variables hold what the program's text lays). The texts of this claim were shortened by program (no remarks, short names) to fit the bounds on a claim's size; their long form lies in the repository's folder wip. -/
import Derived.Test.YtedkbdkbbnemlaaGreatDoorNk29
import Derived.Carry
set_option linter.all false
namespace Go.Proofs.Tryq
set_option maxRecDepth 100000
open Go Go.Nk Go.RowKit Go.ChangeShapes Go.WideShapes Go.ChangeAt Go.Conc Go.Deep
attribute [local instance] theBan
section
variable {H:Type} {enc:TypeId×Value→H} {W:World} {b0:Nat}
theorem Zf4{t:TypeId}{k:IntKind}(hu:Tryz.prog.underlying t=some (.int k))(hs:isS Tryz.prog t=false)(ha:isA Tryz.prog t=false)(hl:(Z3e Tryz.prog 0 t 0).any (fun y=>y.1==0&&y.2==t)=true)(hc1:Tryz.prog.cellsOf t=1){v:Value}{d:DataW H}{p:List MemPlace}(hv:Value.okWide Tryz.prog W .any b0 t v)(h:DataW.Trod enc Tryz.prog W 0 (fun _=>true) true t v d p):
 ∃n:Int,v= .int k n∧(Lit.int k n).wf=true∧VRel id (Nk.Live (Zx W)) v v:=by
 have hc:=Zei hv hs ha
 obtain⟨fuel,hf⟩:=h
 have e:v.cells.toList=[v]:=by
  cases v<;>first|rfl|skip
  rename_i cs
  simp[Cell.okWide,Cell.ok,hu] at hc
 rw[e] at hf
 have hcs:[v].length≤Tryz.prog.cellsOf t:=by rw[hc1];exact Nat.le_refl _
 obtain⟨x1,e1,hw⟩:=Z0z (n:=0) (o:=0) (u:=t) hcs ⟨_,_,hf⟩ hl hu
 obtain rfl:v= .int k x1:=by simpa using e1
 exact⟨x1,rfl,hw,.int _ _⟩
theorem Zf7{n:Int}(h:(Lit.int .u16 n).wf=true):0≤n∧n<65536:=by
 have h1:IntKind.u16.min=0:=rfl
 have h2:IntKind.u16.max=65535:=rfl
 simp only[Lit.wf,Bool.and_eq_true,decide_eq_true_eq] at h
 omega
theorem wf_u8{n:Int}(h:(Lit.int .u8 n).wf=true):0≤n∧n<256:=by
 have h1:IntKind.u8.min=0:=rfl
 have h2:IntKind.u8.max=255:=rfl
 simp only[Lit.wf,Bool.and_eq_true,decide_eq_true_eq] at h
 omega
theorem under40:Tryz.prog.underlying 40=some (.int .u16):=by kernel_rfl
theorem ZeQ{v:Value}{d:DataW H}{p:List MemPlace}(hv:Value.okWide Tryz.prog W .any b0 40 v)(h:DataW.Trod enc Tryz.prog W 0 (fun _=>true) true 40 v d p):∃n:Int,v= .int .u16 n∧(Lit.int .u16 n).wf=true∧VRel id (Nk.Live (Zx W)) v v:=
 Zf4 under40 (by kernel_rfl) (by kernel_rfl) (by kernel_rfl) (by kernel_rfl) hv h
theorem ZfW{v:Value}{d:DataW H}{p:List MemPlace}(hv:Value.okWide Tryz.prog W .any b0 5 v)(h:DataW.Trod enc Tryz.prog W 0 (fun _=>true) true 5 v d p):∃n:Int,v= .int .u8 n∧(Lit.int .u8 n).wf=true∧VRel id (Nk.Live (Zx W)) v v:=
 Zf4 under5 (by kernel_rfl) (by kernel_rfl) (by kernel_rfl) (by kernel_rfl) hv h
end
section
variable {H:Type} {enc:TypeId×Value→H} {W:World} {b0:Nat}
theorem ZiK{P:Program}{w:World}{base:Nat}{spare:Nat→Bool}{held:Bool}{t t' t'' t3 t4:TypeId}{args:Array Value}{ds:List (DataW H)}{ps:List MemPlace}(h:DataW.TrodAll enc P w base spare held [t,t',t'',t3,t4] args.toList ds ps):
 ∃v v' v'' v3 v4 d d' d'' d3 d4 p p' p'' p3 p4,args= #[v,v',v'',v3,v4]∧ds=[d,d',d'',d3,d4]∧ps=p++p'++p''++p3++p4∧DataW.Trod enc P w base spare held t v d p∧DataW.Trod enc P w base spare held t' v' d' p'∧DataW.Trod enc P w base spare held t'' v'' d'' p''∧DataW.Trod enc P w base spare held t3 v3 d3 p3∧DataW.Trod enc P w base spare held t4 v4 d4 p4:=by
 obtain⟨v,vs,d,ds',p,q,hargs,rfl,rfl,hd,hrest⟩:=trodAll_cons h
 obtain⟨v',vs',d',ds'',p',q',rfl,rfl,rfl,hd',hrest'⟩:=trodAll_cons hrest
 obtain⟨v'',vs'',d'',ds''',p'',q'',rfl,rfl,rfl,hd'',hrest''⟩:=trodAll_cons hrest'
 obtain⟨v3,vs3,d3,ds3,p3,q3,rfl,rfl,rfl,hd3,hrest3⟩:=trodAll_cons hrest''
 obtain⟨v4,vs4,d4,ds4,p4,q4,rfl,rfl,rfl,hd4,hrest4⟩:=trodAll_cons hrest3
 obtain⟨rfl,rfl,rfl⟩:=trodAll_nil hrest4
 exact⟨v,v',v'',v3,v4,d,d',d'',d3,d4,p,p',p'',p3,p4,by cases args;simp_all,rfl,by simp,hd,hd',hd'',hd3,hd4⟩
end
section
variable {H:Type} {enc:TypeId×Value→H} {W:World} {b0:Nat}
theorem under41:Tryz.prog.underlying 41=some (.slice 40):=by kernel_rfl
theorem cells40:Tryz.prog.cellsOf 40=1:=by kernel_rfl
theorem Zgs{v:Value}{d:DataW H}{p:List MemPlace}(hv:Value.okWide Tryz.prog W .any b0 41 v)(h:DataW.Trod enc Tryz.prog W 0 (fun _=>true) true 41 v d p):
 ∃(base:Option Addr)(n cap:Nat)(l:List Int),v= .slice base n cap∧l.length=n∧n≤cap∧cap≤maxLen∧VRel id (Nk.Live (Zx W)) v v∧RawU W base l∧∀y∈l,(Lit.int .u16 y).wf=true:=by
 have hc:=Zei hv (by kernel_rfl) (by kernel_rfl)
 obtain⟨fuel,hf⟩:=h
 have e:v.cells.toList=[v]:=by
  cases v<;>first|rfl|skip
  rename_i cs
  unfold Cell.okWide at hc
  simp only[under41] at hc
  exact hc.elim
 rw[e] at hf
 obtain⟨base,n,cap,e,hn,hm,hr,hel⟩:=Z5V under41 cells40 (by decide) ⟨_,hc⟩ hf
 have key:∀i,i<n→∃x:Int,(∃b off,base=some ⟨b,off,none⟩∧b<W.heap.size∧W.cell? ⟨b,off+i,none⟩=some (.int .u16 x))∧(Lit.int .u16 x).wf=true:=by
  intro i hi
  obtain⟨b,off,h1,h2,cs,h3,h4,h5⟩:=hel i hi
  have hcs:cs.length≤Tryz.prog.cellsOf 40:=by rw[cells40];omega
  obtain⟨x1,e1,hw⟩:=Z0z (n:=0) (o:=0) (u:=40) hcs h5 (by kernel_rfl) under40
  have:=(h4 0 (by omega)).trans e1
  rw[Nat.mul_one,Nat.add_zero] at this
  exact⟨x1,⟨b,off,h1,h2,this⟩,hw⟩
 obtain⟨L,hL1,hL2⟩:=Zaa n key
 exact⟨base,n,cap,L,e,hL1,hn,hm,hr,fun i x hx=>(hL2 i x hx).1,fun y hy=>by obtain⟨i,hi⟩:=List.mem_iff_getElem?.1 hy;exact(hL2 i y hi).2⟩
end
theorem Zgt{W:World}{base:Option Addr}{l:List Int}(h:RawU W base l):RawU (Zx W) base l:=fun i x hi=>by
 obtain⟨b,off,h1,h2,h3⟩:=h i x hi
 exact⟨b,off,h1,by rw[Z1l];exact h2,Z0d rfl h3 rfl⟩
theorem Zgy{W:World}(t){base:Option Addr}{l:List Int}(h:RawU W base l):RawU (retape t W) base l:=fun i x hi=>by
 obtain⟨b,off,h1,h2,h3⟩:=h i x hi
 exact⟨b,off,h1,h2,h3⟩
theorem cells67:Tryz.prog.cellsOf 67=4:=by kernel_rfl
theorem arr4{cs:Array Value}{a b c d:Value}(hs:cs.size=4)(h0:cs.toList[0]? =some a)(h1:cs.toList[1]? =some b)(h2:cs.toList[2]? =some c)(h3:cs.toList[3]? =some d):cs= #[a,b,c,d]:=by
 rcases cs with⟨l⟩
 match l,hs,h0,h1,h2,h3 with
 |[w,x,y,z],_,h0,h1,h2,h3=>
  simp at h0 h1 h2 h3
  rw[h0,h1,h2,h3]
section
variable {H:Type} {enc:TypeId×Value→H} {W:World} {b0:Nat}
theorem ZjT{v:Value}{d:DataW H}{p:List MemPlace}(hv:Value.okWide Tryz.prog W .any b0 67 v)(h:DataW.Trod enc Tryz.prog W 0 (fun _=>true) true 67 v d p):
 ∃a b c e:Int,v= .agg #[.int .i64 a,.int .i64 b,.int .i64 c,.int .i64 e]∧VRel id (Nk.Live (Zx W)) v v:=by
 obtain⟨cs,rfl,hs,hx⟩:=aggOk hv (by kernel_rfl)
 obtain⟨fuel,hf⟩:=h
 have hf:DataW.trod enc Tryz.prog W 0 (fun _=>true) true fuel 67 cs.toList=some (d,p):=hf
 rw[cells67] at hs
 have hcs:cs.toList.length≤Tryz.prog.cellsOf 67:=by rw[cells67];simp[hs]
 obtain⟨x0,e0,w0⟩:=Z0z (n:=3) (o:=0) (u:=3) hcs ⟨_,_,hf⟩ (by kernel_rfl) under3
 obtain⟨x1,e1,w1⟩:=Z0z (n:=3) (o:=1) (u:=3) hcs ⟨_,_,hf⟩ (by kernel_rfl) under3
 obtain⟨x2,e2,w2⟩:=Z0z (n:=3) (o:=2) (u:=3) hcs ⟨_,_,hf⟩ (by kernel_rfl) under3
 obtain⟨x3,e3,w3⟩:=Z0z (n:=3) (o:=3) (u:=3) hcs ⟨_,_,hf⟩ (by kernel_rfl) under3
 have hcs4:=arr4 hs e0 e1 e2 e3
 subst hcs4
 have hA:AR id (Nk.Live (Zx W)) #[.int .i64 x0,.int .i64 x1,.int .i64 x2,.int .i64 x3] #[.int .i64 x0,.int .i64 x1,.int .i64 x2,.int .i64 x3]:=
  (((AR.nil.push (.int _ _)).push (.int _ _)).push (.int _ _)).push (.int _ _)
 exact⟨x0,x1,x2,x3,rfl,.agg hA.1 hA.2⟩
end
end Go.Proofs.Tryq
namespace Go.Proofs.YtedkbdkbbnemlaaGreatDoor
set_option maxRecDepth 100000
open Go Go.Nk Go.RowKit Go.ChangeShapes Go.WideShapes Go.ChangeAt Go.Conc
open Go.Proofs.Tryq
attribute [local instance] theBan
theorem ZjB(os:Os)(started:os.Started)(H:Type)(enc:TypeId×Value→H):
 ReturnsInLeavingWide {} Tryz.checked os 14 .any (fun w args=>(Rows.arrowRealSpec.pre enc Tryz.prog Tryz.f14 [] false w args∧laidMetH Tryz.prog laidL w)∧sizedMet enc Tryz.prog Tryz.f14 (OpenSpec.ofChange Rows.arrowRealSpec) false w args)
  (Rows.arrowRealSpec.post enc Tryz.prog Tryz.f14 false true false false):=by
 refine Z4e (n:=5) (ts:=[67,40,41,41,5]) started (by simp[keptList]) Tryz.func14 same14 (by kernel_rfl) Tryz.results14 (by kernel_rfl) (by rw[Tryz.params14]) rfl rfl (by kernel_rfl) (fun ds hd=>by
  match ds,hd with
  |[_,_,_,_,_],_=>rfl) (by kernel_rfl)
  (ChangeSpec.witness_shaped (enc:=enc) (C:=Tryz.checked) (os:=os) (X:=fun w _=>laidMetH Tryz.prog laidL w) false (World.doorLaid Tryz.prog 400 os) #[.agg #[.int .i64 0,.int .i64 0,.int .i64 0,.int .i64 0],.int .u16 0,.slice none 0 0,.slice none 0 0,.int .u8 0] 8 rfl (Z3F os _) (by kernel_rfl) (by kernel_rfl) (by kernel_rfl) (Z7C os _)) ?_
 intro W base args ds p hval hA hM hmo hd
 rw[Tryz.params14] at hval
 obtain⟨v0,v1,v2,v3,v4,dx0,dx1,dx2,dx3,dx4,px0,px1,px2,px3,px4,rfl,rfl,rfl,h0,h1,h2,h3,h4⟩:=ZiK hA
 obtain⟨a0,b0,c0,d0,rfl,hr0⟩:=ZjT (hval 0 67 v0 rfl rfl) h0
 obtain⟨u1,rfl,hw1,hr1⟩:=ZeQ (hval 1 40 v1 rfl rfl) h1
 obtain⟨ab2,n2,k2,S2,rfl,hL2,hn2,hc2,hr2,hS2,hw2⟩:=Zgs (hval 2 41 v2 rfl rfl) h2
 obtain⟨ab3,n3,k3,S3,rfl,hL3,hn3,hc3,hr3,hS3,hw3⟩:=Zgs (hval 3 41 v3 rfl rfl) h3
 obtain⟨u4,rfl,hw4,hr4⟩:=ZfW (hval 4 5 v4 rfl rfl) h4
 refine⟨((((AR.nil.push hr0).push hr1).push hr2).push hr3).push hr4,fun t=> ?_⟩
 exact ZjD a0 b0 c0 d0 u1 ab2 n2 k2 ab3 n3 k3 u4 S2 S3 (retape t (Zx W)) hL2 hL3 (Zf7 hw1) (wf_u8 hw4) (fun x hx=>Zf7 (hw2 x hx)) (fun x hx=>Zf7 (hw3 x hx)) hM (Za7 t hmo) hd (Zgy t (Zgt hS2)) (Zgy t (Zgt hS3))
theorem arrowReal_row:Rows.ArrowRealSaid:=
 OpenClaim.holds_of_wide_leaving 14 Tryz.f14 rfl rfl rfl rfl rfl rfl rfl ⟨rfl,rfl,rfl,rfl,rfl⟩ rfl rfl rfl rfl rfl (by kernel_rfl) Tryz.func14 JarrowReal.facts
  (of_decide_eq_true (by kernel_rfl)) (by unfold Func.isWrapper;first|(rw[if_pos (by decide+kernel)];kernel_rfl)|(rw[if_neg (by decide+kernel)];exact⟨rfl,rfl⟩))
  (fun os started H enc _=>ZjB os started H enc)
theorem arrowReal_card:Rows.ArrowRealCardSaid:=
 Zac .later [.data,.data,.data,.funcs] true (true,"0e1059176c690520e63ed0d32383d6ff1680ebd08dcb3a61820afc84c46f7b58") false
  arrowReal_row (by kernel_rfl) arrowReal_row_tie rfl ⟨rfl,rfl⟩ (by kernel_rfl) rfl
  (fun f fn hf hfn=>by
    obtain rfl:f=14:=Option.some.inj ((show Tryz.prog.funcNamed "nock/nocklaw01.ArrowReal" =some 14 by kernel_rfl).symm.trans hf) |>.symm
    obtain rfl:fn=Tryz.f14:=(Option.some.inj (Tryz.func14.symm.trans hfn)).symm
    exact⟨by kernel_rfl,fun j t ht=>by
     rw[Tryz.params14] at ht
     have hm:t∈[67,40,41,41,5]:=by simpa using Array.mem_of_getElem? ht
     have hall:([67,40,41,41,5].all fun u=> !Tryz.prog.wantsStandIn u)=true:=by kernel_rfl
     exact(show Tryz.prog.wantsStandIn t=false by simpa using List.all_eq_true.1 hall t hm)⟩)
  (by kernel_rfl)
end Go.Proofs.YtedkbdkbbnemlaaGreatDoor
