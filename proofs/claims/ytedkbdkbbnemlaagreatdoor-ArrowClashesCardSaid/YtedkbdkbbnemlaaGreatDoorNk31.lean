/- nocklaw01.ArrowClashes: for every card and any other shots the call returns true, on every schedule and without a data race; its arguments read afterwards as they read before; nothing that was in memory is changed; at the return no other goroutine does more than leave. The card ties the four listed package variables to the program's text. Conditions: none beyond the card's own (the listed variables hold what the program's text lays). The texts of this claim were shortened by program (no remarks, short names) to fit the bounds on a claim's size; their long form lies in the repository's folder wip. -/
import Derived.Test.YtedkbdkbbnemlaaGreatDoorNk30
set_option linter.all false
namespace Go.Proofs.Tryq
set_option maxRecDepth 100000
open Go Go.Nk Go.RowKit Go.ChangeShapes Go.WideShapes Go.ChangeAt Go.Conc Go.Deep
attribute [local instance] theBan
section
variable {H:Type} {enc:TypeId×Value→H} {W:World} {b0:Nat}
theorem Zf4{t:TypeId}{k:IntKind}(hu:Tryz.prog.underlying t=some (.int k))(hs:isS Tryz.prog t=false)(ha:isA Tryz.prog t=false)(hl:(Z3e Tryz.prog 0 t 0).any (fun y=>y.1==0&&y.2==t)=true)(hc1:Tryz.prog.cellsOf t=1){v:Value}{d:DataW H}{p:List MemPlace}(hv:Value.okWide Tryz.prog W .any b0 t v)(h:DataW.Trod enc Tryz.prog W 0 (fun _=>true) true t v d p):
 ∃n:Int,v= .int k n∧(Lit.int k n).wf=true∧VRel id (Nk.Live (Zx W)) v v:=by
 have hc:=Zei hv hs ha
 obtain⟨fuel,hf⟩:=h
 have e:v.cells.toList=[v]:=by
  cases v<;>first|rfl|skip
  rename_i cs
  simp[Cell.okWide,Cell.ok,hu] at hc
 rw[e] at hf
 have hcs:[v].length≤Tryz.prog.cellsOf t:=by rw[hc1];exact Nat.le_refl _
 obtain⟨x1,e1,hw⟩:=Z0z (n:=0) (o:=0) (u:=t) hcs ⟨_,_,hf⟩ hl hu
 obtain rfl:v= .int k x1:=by simpa using e1
 exact⟨x1,rfl,hw,.int _ _⟩
theorem wf_u8{n:Int}(h:(Lit.int .u8 n).wf=true):0≤n∧n<256:=by
 have h1:IntKind.u8.min=0:=rfl
 have h2:IntKind.u8.max=255:=rfl
 simp only[Lit.wf,Bool.and_eq_true,decide_eq_true_eq] at h
 omega
theorem ZfW{v:Value}{d:DataW H}{p:List MemPlace}(hv:Value.okWide Tryz.prog W .any b0 5 v)(h:DataW.Trod enc Tryz.prog W 0 (fun _=>true) true 5 v d p):∃n:Int,v= .int .u8 n∧(Lit.int .u8 n).wf=true∧VRel id (Nk.Live (Zx W)) v v:=
 Zf4 under5 (by kernel_rfl) (by kernel_rfl) (by kernel_rfl) (by kernel_rfl) hv h
theorem under68:Tryz.prog.underlying 68=some (.slice 80):=by kernel_rfl
theorem cells80:Tryz.prog.cellsOf 80=5:=by kernel_rfl
theorem cells70:Tryz.prog.cellsOf 70=5:=by kernel_rfl
theorem Zg3{v:Value}{k:Nat}{x:DataW H×List MemPlace}(hv:∃u,Cell.okWide Tryz.prog W .any b0 u v)(h:DataW.trod enc Tryz.prog W 0 (fun _=>true) true k 68 [v]=some x):
 ∃(base:Option Addr)(n cap:Nat)(S:List Rs),v= .slice base n cap∧S.length=n∧n≤cap∧cap≤maxLen∧VRel id (Nk.Live (Zx W)) v v∧RawS W base S∧∀s∈S,(Lit.int .i64 s.a).wf=true∧(Lit.int .i64 s.m).wf=true∧(Lit.int .i64 s.M).wf=true∧(Lit.int .i64 s.wi).wf=true∧(Lit.int .i64 s.li).wf=true:=by
 obtain⟨base,n,cap,e,hn,hm,hr,hel⟩:=Z5V under68 cells80 (by decide) hv h
 have key:∀i,i<n→∃s:Rs,(∃b off,base=some ⟨b,off,none⟩∧b<W.heap.size∧ShotAt W b (off+i*5) s.a s.m s.M s.wi s.li)∧((Lit.int .i64 s.a).wf=true∧(Lit.int .i64 s.m).wf=true∧(Lit.int .i64 s.M).wf=true∧(Lit.int .i64 s.wi).wf=true∧(Lit.int .i64 s.li).wf=true):=by
  intro i hi
  obtain⟨b,off,h1,h2,cs,h3,h4,h5⟩:=hel i hi
  have hcs:cs.length≤Tryz.prog.cellsOf 80:=by rw[cells80];omega
  obtain⟨x0,e0,w0⟩:=Z0z (n:=3) (o:=0) (u:=3) hcs h5 (by kernel_rfl) under3
  obtain⟨x1,e1,w1⟩:=Z0z (n:=3) (o:=1) (u:=3) hcs h5 (by kernel_rfl) under3
  obtain⟨x2,e2,w2⟩:=Z0z (n:=3) (o:=2) (u:=3) hcs h5 (by kernel_rfl) under3
  obtain⟨x3,e3,w3⟩:=Z0z (n:=3) (o:=3) (u:=3) hcs h5 (by kernel_rfl) under3
  obtain⟨x4,e4,w4⟩:=Z0z (n:=3) (o:=4) (u:=3) hcs h5 (by kernel_rfl) under3
  exact⟨⟨x0,x1,x2,x3,x4⟩,⟨b,off,h1,h2,⟨(h4 0 (by omega)).trans e0,(h4 1 (by omega)).trans e1,(h4 2 (by omega)).trans e2,(h4 3 (by omega)).trans e3,(h4 4 (by omega)).trans e4⟩⟩,w0,w1,w2,w3,w4⟩
 obtain⟨L,hL1,hL2⟩:=Zaa n key
 exact⟨base,n,cap,L,e,hL1,hn,hm,hr,fun i x hx=>(hL2 i x hx).1,fun s hs=>by obtain⟨i,hi⟩:=List.mem_iff_getElem?.1 hs;exact(hL2 i s hi).2⟩
theorem open_card{v:Value}{d:DataW H}{p:List MemPlace}(hv:Value.okWide Tryz.prog W .any b0 70 v)(h:DataW.Trod enc Tryz.prog W 0 (fun _=>true) true 70 v d p):
 ∃(r0 r1 r2 r3:Int)(base:Option Addr)(n cap:Nat)(S:List Rs),v= .agg #[.int .i64 r0,.int .i64 r1,.int .i64 r2,.int .i64 r3,.slice base n cap]∧S.length=n∧n≤cap∧cap≤maxLen∧VRel id (Nk.Live (Zx W)) v v∧RawS W base S∧
  ((Lit.int .i64 r0).wf=true∧(Lit.int .i64 r1).wf=true∧(Lit.int .i64 r2).wf=true∧(Lit.int .i64 r3).wf=true)∧∀s∈S,(Lit.int .i64 s.a).wf=true∧(Lit.int .i64 s.m).wf=true∧(Lit.int .i64 s.M).wf=true∧(Lit.int .i64 s.wi).wf=true∧(Lit.int .i64 s.li).wf=true:=by
 obtain⟨cs,rfl,hs,hx⟩:=aggOk hv (by kernel_rfl)
 obtain⟨fuel,hf⟩:=h
 have hf:DataW.trod enc Tryz.prog W 0 (fun _=>true) true fuel 70 cs.toList=some (d,p):=hf
 rw[cells70] at hs
 have hcs:cs.toList.length≤Tryz.prog.cellsOf 70:=by rw[cells70];simp[hs]
 obtain⟨x0,e0,w0⟩:=Z0z (n:=2) (o:=0) (u:=3) hcs ⟨_,_,hf⟩ (by kernel_rfl) under3
 obtain⟨x1,e1,w1⟩:=Z0z (n:=2) (o:=1) (u:=3) hcs ⟨_,_,hf⟩ (by kernel_rfl) under3
 obtain⟨x2,e2,w2⟩:=Z0z (n:=2) (o:=2) (u:=3) hcs ⟨_,_,hf⟩ (by kernel_rfl) under3
 obtain⟨x3,e3,w3⟩:=Z0z (n:=2) (o:=3) (u:=3) hcs ⟨_,_,hf⟩ (by kernel_rfl) under3
 obtain⟨sv,m,y,e4,h4⟩:=Z7R (n:=2) (o:=4) (u:=68) hcs ⟨_,_,hf⟩ (by kernel_rfl) under68
 obtain⟨base,n,cap,S,rfl,hL,hn,hm,hr,hR,hw⟩:=Zg3 (hx 4 sv (by simpa using e4)) h4
 have hcs5:=arr5 hs e0 e1 e2 e3 e4
 subst hcs5
 have hA:AR id (Nk.Live (Zx W)) #[.int .i64 x0,.int .i64 x1,.int .i64 x2,.int .i64 x3,.slice base n cap] #[.int .i64 x0,.int .i64 x1,.int .i64 x2,.int .i64 x3,.slice base n cap]:=
  ((((AR.nil.push (.int _ _)).push (.int _ _)).push (.int _ _)).push (.int _ _)).push hr
 exact⟨x0,x1,x2,x3,base,n,cap,S,rfl,hL,hn,hm,.agg hA.1 hA.2,hR,⟨w0,w1,w2,w3⟩,hw⟩
end
theorem ZfV{W:World}{base:Option Addr}{S:List Rs}(h:RawS W base S):RawS (Zx W) base S:=fun i x hi=>by
 obtain⟨b,off,h1,h2,h3⟩:=h i x hi
 exact⟨b,off,h1,by rw[Z1l];exact h2,⟨Z0d rfl h3.c0 rfl,Z0d rfl h3.c1 rfl,Z0d rfl h3.c2 rfl,Z0d rfl h3.c3 rfl,Z0d rfl h3.c4 rfl⟩⟩
theorem Zg8{W:World}(t){base:Option Addr}{S:List Rs}(h:RawS W base S):RawS (retape t W) base S:=fun i x hi=>by
 obtain⟨b,off,h1,h2,h3⟩:=h i x hi
 exact⟨b,off,h1,h2,⟨h3.c0,h3.c1,h3.c2,h3.c3,h3.c4⟩⟩
end Go.Proofs.Tryq
namespace Go.Proofs.YtedkbdkbbnemlaaGreatDoor
set_option maxRecDepth 100000
open Go Go.Nk Go.RowKit Go.ChangeShapes Go.WideShapes Go.ChangeAt Go.Conc
open Go.Proofs.Tryq
attribute [local instance] theBan
theorem ZiZ(os:Os)(started:os.Started)(H:Type)(enc:TypeId×Value→H):
 ReturnsInLeavingWide {} Tryz.checked os 15 .any (fun w args=>(Rows.arrowClashesSpec.pre enc Tryz.prog Tryz.f15 [] false w args∧laidMetH Tryz.prog laidL w)∧sizedMet enc Tryz.prog Tryz.f15 (OpenSpec.ofChange Rows.arrowClashesSpec) false w args)
  (Rows.arrowClashesSpec.post enc Tryz.prog Tryz.f15 false true false false):=by
 refine Z4e (n:=2) (ts:=[70,5]) started (by simp[keptList]) Tryz.func15 same15 (by kernel_rfl) Tryz.results15 (by kernel_rfl) (by rw[Tryz.params15]) rfl rfl (by kernel_rfl) (fun ds hd=>by
  match ds,hd with
  |[_,_],_=>rfl) (by kernel_rfl)
  (ChangeSpec.witness_shaped (enc:=enc) (C:=Tryz.checked) (os:=os) (X:=fun w _=>laidMetH Tryz.prog laidL w) false (World.doorLaid Tryz.prog 400 os) #[.agg #[.int .i64 0,.int .i64 0,.int .i64 0,.int .i64 0,.slice none 0 0],.int .u8 0] 8 rfl (Z3F os _) (by kernel_rfl) (by kernel_rfl) (by kernel_rfl) (Z7C os _)) ?_
 intro W base args ds p hval hA hM hmo hd
 rw[Tryz.params15] at hval
 obtain⟨v0,v1,dx0,dx1,px0,px1,rfl,rfl,rfl,h0,h1⟩:=trodAll_two hA
 obtain⟨a0,b0,c0,d0,ab0,n0,k0,S0,rfl,hL0,hn0,hc0,hr0,hS0,hw0,hx0⟩:=open_card (hval 0 70 v0 rfl rfl) h0
 obtain⟨u1,rfl,hw1,hr1⟩:=ZfW (hval 1 5 v1 rfl rfl) h1
 refine⟨(AR.nil.push hr0).push hr1,fun t=> ?_⟩
 exact Zj1 a0 b0 c0 d0 ab0 n0 k0 u1 S0 (retape t (Zx W)) hL0 (wf_u8 hw1) hM (Za7 t hmo) hd (Zg8 t (ZfV hS0))
theorem arrowClashes_row:Rows.ArrowClashesSaid:=
 OpenClaim.holds_of_wide_leaving 15 Tryz.f15 rfl rfl rfl rfl rfl rfl rfl ⟨rfl,rfl,rfl,rfl,rfl⟩ rfl rfl rfl rfl rfl (by kernel_rfl) Tryz.func15 JarrowClashes.facts
  (of_decide_eq_true (by kernel_rfl)) (by unfold Func.isWrapper;first|(rw[if_pos (by decide+kernel)];kernel_rfl)|(rw[if_neg (by decide+kernel)];exact⟨rfl,rfl⟩))
  (fun os started H enc _=>ZiZ os started H enc)
theorem arrowClashes_card:Rows.ArrowClashesCardSaid:=
 Zac .later [.data,.data,.data,.funcs] true (true,"0e1059176c690520e63ed0d32383d6ff1680ebd08dcb3a61820afc84c46f7b58") false
  arrowClashes_row (by kernel_rfl) arrowClashes_row_tie rfl ⟨rfl,rfl⟩ (by kernel_rfl) rfl
  (fun f fn hf hfn=>by
    obtain rfl:f=15:=Option.some.inj ((show Tryz.prog.funcNamed "nock/nocklaw01.ArrowClashes" =some 15 by kernel_rfl).symm.trans hf) |>.symm
    obtain rfl:fn=Tryz.f15:=(Option.some.inj (Tryz.func15.symm.trans hfn)).symm
    exact⟨by kernel_rfl,fun j t ht=>by
     rw[Tryz.params15] at ht
     have hm:t∈[70,5]:=by simpa using Array.mem_of_getElem? ht
     have hall:([70,5].all fun u=> !Tryz.prog.wantsStandIn u)=true:=by kernel_rfl
     exact(show Tryz.prog.wantsStandIn t=false by simpa using List.all_eq_true.1 hall t hm)⟩)
  (by kernel_rfl)
end Go.Proofs.YtedkbdkbbnemlaaGreatDoor
