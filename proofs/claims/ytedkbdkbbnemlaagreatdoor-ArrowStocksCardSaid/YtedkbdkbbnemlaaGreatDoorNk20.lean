import Derived.Test.YtedkbdkbbnemlaaGreatDoorNkA
import Derived.Test.YtedkbdkbbnemlaaGreatDoorNk19
import Derived.Deep.RegionHeld3
import Derived.LaidOnce
import Derived.SevenTiedAt
import Derived.Test.YtedkbdkbbnemlaaGreatDoorCards
import Derived.Test.YtedkbdkbbnemlaaGreatDoorTie
set_option linter.all false
namespace Go.Proofs.Tryq
set_option maxRecDepth 100000
open Go Go.Nk Go.RowKit Go.ChangeShapes Go.WideShapes Go.ChangeAt Go.Conc Go.Deep
attribute [local instance] theBan
theorem Zaa{α:Type}{p:Nat->α->Prop}:∀(n:Nat),(∀i,i<n->∃x,p i x)->∃L:List α,L.length=n/\∀(i:Nat)(x:α),L[i]? =some x->p i x:=by
 intro n
 induction n with
 |zero=>exact fun _=>⟨[],rfl,fun i x h=>by simp at h⟩
 |succ n ih=>
  intro h;obtain⟨L,h1,h2⟩:=ih fun i hi=>h i (by omega)
  obtain⟨x,hx⟩:=h n (by omega);refine⟨L++[x],by simp[h1],fun i y hy=> ?_⟩;rw[List.getElem?_append] at hy;split at hy
  ·exact h2 i y hy
  ·rename_i A4;have:i=n:=by
    have:=(YI.1 hy).1;simp at this;omega
   subst this;rw[h1,Nat.sub_self] at hy;cases hy;exact hx
section
variable {H:Type} {enc:TypeId×Value->H} {W:World} {b0:Nat}
theorem Zct(b off i:Nat):(⟨b,off,none⟩:Addr).add i=⟨b,off+i,none⟩:=by
 unfold Addr.add;split
 ·rename_i h;rw[h];rfl
 ·rfl
theorem Z5V{u e c:Nat}{v:Value}{k:Nat}{x:DataW H×List MemPlace}(hu:Tryz.prog.underlying u=some (.slice e))(hc:Tryz.prog.cellsOf e=c)(Cn:0<c)(hv:∃u,Cell.okWide Tryz.prog W .any b0 u v)(h:DataW.trod enc Tryz.prog W 0 (fun _=>true) true k u [v]=some x):
 ∃(base:Option Addr)(n cap:Nat),v= .slice base n cap/\n<=cap/\cap<=maxLen/\VRel id (Nk.Live (Zx W)) v v/\
  ∀i,i<n->∃b off,base=some ⟨b,off,none⟩/\b<W.heap.size/\∃cs:List Value,cs.length=c/\(∀j,j<c->W.cell? ⟨b,off+i*c+j,none⟩=cs[j]?)/\∃m y,DataW.trod enc Tryz.prog W 0 (fun _=>true) true m e cs=some y:=by
 rcases open_slice hu h with⟨h1,_⟩|⟨a,len,cap,m,q,D,Pl,h1,_,hl,hm,Hf,_,V5⟩
 ·simp only[List.cons.injEq,and_true] at h1;subst h1;exact⟨none,0,0,rfl,Nat.le_refl _,by decide,.nilSlice _ _,fun i hi=>by omega⟩
 ·simp only[List.cons.injEq,and_true] at h1;subst h1;obtain⟨u',hv⟩:=hv;have An:=Z8u hv;refine⟨some a,len,cap,rfl,hl,hm,.slice (ρ:=id) _ _ (Z8g.1 An),fun i hi=> ?_⟩;simp only[if_true] at Hf;obtain⟨cs,h2,h3⟩:=V5 i (by omega);rw[hc] at h2;obtain⟨_,h4,h5⟩:=World.cells?_some h2;obtain⟨b,off,spot⟩:=a;have H7:spot=none:=by
   obtain⟨cs0,k2,_⟩:=V5 0 (by omega);rw[hc] at k2;obtain⟨_,k4,k5⟩:=World.cells?_some k2;have k6:=k5 0 Cn;rw[YH (by omega)] at k6;simpa[Addr.add] using World.cell?_spot k6
  subst H7;have A4:b<W.heap.size:=by
   obtain⟨_,_,_,h⟩:=Z9A.1 An;exact(YF.1 h).1
  exact⟨b,off,rfl,A4,cs,h4,fun j hj=>by have:=h5 j hj;rwa [Zct,Zct] at this,q,_,h3⟩
theorem under24:Tryz.prog.underlying 24=some (.slice 51):=by kernel_rfl
theorem under9:Tryz.prog.underlying 9=some .string:=by kernel_rfl
theorem under4:Tryz.prog.underlying 4=some .bool:=by kernel_rfl
theorem cells51:Tryz.prog.cellsOf 51=7:=by kernel_rfl
theorem cells26:Tryz.prog.cellsOf 26=5:=by kernel_rfl
theorem Z6L{v:Value}{k:Nat}{x:DataW H×List MemPlace}(hv:∃u,Cell.okWide Tryz.prog W .any b0 u v)(h:DataW.trod enc Tryz.prog W 0 (fun _=>true) true k 24 [v]=some x):
 ∃(base:Option Addr)(n cap:Nat)(L:List Sf),v= .slice base n cap/\L.length=n/\n<=cap/\cap<=maxLen/\VRel id (Nk.Live (Zx W)) v v/\RawA W base L:=by
 obtain⟨base,n,cap,e,hn,hm,hr,V5⟩:=Z5V under24 cells51 (by decide) hv h;have key:∀i,i<n->∃x:Sf,∃b off,base=some ⟨b,off,none⟩/\b<W.heap.size/\ShaftAt W b (off+i*7) x/\x.nm.size<=maxLen:=by
  intro i hi;obtain⟨b,off,h1,h2,cs,h3,h4,h5⟩:=V5 i hi;have Ad:cs.length<=Tryz.prog.cellsOf 51:=by rw[cells51];omega
  obtain⟨s,e0,hs⟩:=Z6d (n:=3) (o:=0) (u:=9) Ad h5 (by kernel_rfl) under9;obtain⟨x1,e1,_⟩:=Z0z (n:=3) (o:=1) (u:=3) Ad h5 (by kernel_rfl) under3;obtain⟨x2,e2,_⟩:=Z0z (n:=3) (o:=2) (u:=3) Ad h5 (by kernel_rfl) under3;obtain⟨x3,e3,_⟩:=Z0z (n:=3) (o:=3) (u:=3) Ad h5 (by kernel_rfl) under3;obtain⟨x4,e4,_⟩:=Z0z (n:=3) (o:=4) (u:=3) Ad h5 (by kernel_rfl) under3;obtain⟨x5,e5,_⟩:=Z0z (n:=3) (o:=5) (u:=3) Ad h5 (by kernel_rfl) under3;obtain⟨x6,e6,_⟩:=Z0z (n:=3) (o:=6) (u:=3) Ad h5 (by kernel_rfl) under3;exact⟨⟨s,x1,x2,x3,x4,x5,x6⟩,b,off,h1,h2,⟨(h4 0 (by omega)).trans e0,(h4 1 (by omega)).trans e1,(h4 2 (by omega)).trans e2,(h4 3 (by omega)).trans e3,(h4 4 (by omega)).trans e4,(h4 5 (by omega)).trans e5,(h4 6 (by omega)).trans e6⟩,hs⟩
 obtain⟨L,Cb,Xb⟩:=Zaa n key;exact⟨base,n,cap,L,e,Cb,hn,hm,hr,Xb⟩
theorem arr5{cs:Array Value}{a b c d e:Value}(hs:cs.size=5)(h0:cs.toList[0]? =some a)(h1:cs.toList[1]? =some b)(h2:cs.toList[2]? =some c)(h3:cs.toList[3]? =some d)(h4:cs.toList[4]? =some e):cs= #[a,b,c,d,e]:=by
 obtain⟨l⟩:=cs
 match l,hs with
 |[_,_,_,_,_],_=>simp at h0 h1 h2 h3 h4;subst h0 h1 h2 h3 h4;rfl
theorem Z4c{v:Value}{d:DataW H}{p:List MemPlace}(hv:Value.okWide Tryz.prog W .any b0 26 v)(h:DataW.Trod enc Tryz.prog W 0 (fun _=>true) true 26 v d p):
 ∃(a b c m:Int)(base:Option Addr)(n cap:Nat)(L:List Sf),v= .agg #[.int .i64 a,.int .i64 b,.int .i64 c,.int .i64 m,.slice base n cap]/\L.length=n/\n<=cap/\cap<=maxLen/\VRel id (Nk.Live (Zx W)) v v/\RawA W base L/\
  ((Lit.int .i64 a).wf=true/\(Lit.int .i64 b).wf=true/\(Lit.int .i64 c).wf=true/\(Lit.int .i64 m).wf=true):=by
 obtain⟨cs,rfl,hs,hx⟩:=ZiU hv (by kernel_rfl);obtain⟨fuel,hf⟩:=h;have hf:DataW.trod enc Tryz.prog W 0 (fun _=>true) true fuel 26 cs.toList=some (d,p):=hf;rw[cells26] at hs;have Ad:cs.toList.length<=Tryz.prog.cellsOf 26:=by rw[cells26];simp[hs]
 obtain⟨x0,e0,w0⟩:=Z0z (n:=2) (o:=0) (u:=3) Ad ⟨_,_,hf⟩ (by kernel_rfl) under3;obtain⟨x1,e1,w1⟩:=Z0z (n:=2) (o:=1) (u:=3) Ad ⟨_,_,hf⟩ (by kernel_rfl) under3;obtain⟨x2,e2,w2⟩:=Z0z (n:=2) (o:=2) (u:=3) Ad ⟨_,_,hf⟩ (by kernel_rfl) under3;obtain⟨x3,e3,w3⟩:=Z0z (n:=2) (o:=3) (u:=3) Ad ⟨_,_,hf⟩ (by kernel_rfl) under3;obtain⟨sv,m,y,e4,h4⟩:=Z7R (n:=2) (o:=4) (u:=24) Ad ⟨_,_,hf⟩ (by kernel_rfl) under24;obtain⟨base,n,cap,L,rfl,hL,hn,hm,hr,hR⟩:=Z6L (hx 4 sv (by simpa using e4)) h4;have Xf:=arr5 hs e0 e1 e2 e3 e4;subst Xf
 have hA:AR id (Nk.Live (Zx W)) #[.int .i64 x0,.int .i64 x1,.int .i64 x2,.int .i64 x3,.slice base n cap] #[.int .i64 x0,.int .i64 x1,.int .i64 x2,.int .i64 x3,.slice base n cap]:=
  ((((AR.nil.push (.int _ _)).push (.int _ _)).push (.int _ _)).push (.int _ _)).push hr
 exact⟨x0,x1,x2,x3,base,n,cap,L,rfl,hL,hn,hm,.agg hA.1 hA.2,hR,w0,w1,w2,w3⟩
end
end Go.Proofs.Tryq
namespace Go.Proofs.Tryq
set_option maxRecDepth 100000
open Go Go.Nk Go.RowKit Go.ChangeShapes Go.WideShapes Go.ChangeAt Go.Conc
attribute [local instance] theBan
theorem own:ownKnob Tryz.prog.godebug=none:=by kernel_rfl
theorem laidOut:laidOutB Tryz.prog=true:=by kernel_rfl
theorem Z7C(os:Os)(args:Array Value):laidMetH Tryz.prog laidL ((World.doorLaid Tryz.prog 400 os).forCall (fun _ _=>0) ⟨#[],args,[]⟩).memory:=
 laidMetH_of_parts3 (fuel:=8) (laidMet_of_run' 8 (by kernel_rfl) (by kernel_rfl)) (by kernel_rfl) (by kernel_rfl)
theorem Z3F(os:Os)(args:Array Value):((World.doorLaid Tryz.prog 400 os).forCall (fun _ _=>0) ⟨#[],args,[]⟩).Shaped Tryz.prog:=World.shaped_of_RefB (by kernel_rfl) (by kernel_rfl)
theorem rows4:((List.range 4).all fun g=>(((begin Tryz.prog (fun _ _=>0) default).world.heap[g]?).bind Obj.row?).isSome)=true:=by kernel_rfl
theorem Z8v{W:World}(h:W.ShapedOpen Tryz.prog):∀g,g<4->Z1s W g=true:=by
 intro g hg;have h1:=YL.1 rows4 g (YU.2 hg);obtain⟨⟨zero,t⟩,hz⟩:=Option.isSome_iff_exists.1 h1;obtain⟨cs,hc,_⟩:=h.1 g zero t (by rw[globals4];exact hg) hz;exact Z9A.2 ⟨_,_,_,hc⟩
theorem Z4e{H:Type}{enc:TypeId×Value->H}{os:Os}{f:FuncId}{fn:Func}{tr:Tmp}{s:ChangeSpec}{ts:List TypeId}{n:Nat}(started:os.Started)(hk:f∈keptList)(hfn:Tryz.prog.funcs[f]? =some fn)(D8:fs[f]? =Tryz.prog.funcs[f]?)(Db:Zej f=true)(hr:fn.results= #[.tmp tr])(hi:Tryz.prog.inits.idxOf? f=none)
 (hts:fn.params.toList=ts)(hn:ts.length=n)(hv:s.vars=[])(Hh:fn.resultTypes= #[4])(hs:∀ds:List (DataW H),ds.length=n->s.fn H ds={results:=[.lit (.bool true)],args:=ds})
 (S5:(ts.all fun t=>Tryz.prog.readableRec t&&decide (t<Tryz.prog.types.size))=true)
 (witness:∃(w:World)(tape:Tape)(i:Input),w.os=os/\(w.forCall tape i).Shaped Tryz.prog/\i.vars=[]/\Input.okWide Tryz.prog (w.forCall tape i) .any w.heap.size f i/\
   ((s.pre enc Tryz.prog fn [] false (w.forCall tape i).memory i.args/\laidMetH Tryz.prog laidL (w.forCall tape i).memory)/\sizedMet enc Tryz.prog fn (OpenSpec.ofChange s) false (w.forCall tape i).memory i.args)/\({}:Assume).holds Tryz.prog (lone (Frame.enter Tryz.prog f i.args .normal) [] (w.forCall tape i)))
 (walk:∀(W:World)(base:Nat)(args:Array Value)(ds:List (DataW H))(p:List MemPlace),(∀(j:Nat) t v,fn.params[j]? =some t->args[j]? =some v->Value.okWide Tryz.prog W .any base t v)->DataW.TrodAll enc Tryz.prog W 0 (fun _=>true) true ts args.toList ds p->
   Meas (Zx W)->Most (Zx W)->Deb (Zx W)->AR id (Nk.Live (Zx W)) args args/\∀t,Calls prog f args (retape t (Zx W)) fun e _=>e= .returned (.bool true)):
 ReturnsInLeavingWide {} Tryz.checked os f .any (fun w args=>(s.pre enc Tryz.prog fn [] false w args/\laidMetH Tryz.prog laidL w)/\sizedMet enc Tryz.prog fn (OpenSpec.ofChange s) false w args) (s.post enc Tryz.prog fn false true false false):=by
 refine Z3E (C:=Tryz.checked) own started hfn witness ?_;intro W base args ds gs before B9 Ea hW hL;have hW':=hW;obtain⟨p,q,Gi,hV,rfl,_,_⟩:=hW;rw[hv] at hV;obtain⟨rfl,rfl⟩:=trodVars_none hV;have hA:DataW.TrodAll enc Tryz.prog W 0 (fun _=>true) true ts args.toList ds p:=by rw[<-hts];exact Gi
 obtain⟨har,Dt⟩:=walk W base args ds p Ea hA (Za5 (Z5D hL)) (Za6 (Z5C hL)) (ZbN (Z6y hL));have An:=Z8v B9;have h4:4<=W.heap.size:=by
  obtain⟨_,_,_,h⟩:=Z9A.1 (An 3 (by omega));exact(YF.1 h).1
 obtain⟨M,last,o,w',t',h1,h2,h3,h5⟩:=ZbO hk hfn D8 Db hr hi An h4 har Dt;refine⟨M,last,o,w',t',h1,h2,h3,h5.mono fun v hp=> ?_⟩;obtain⟨rfl,hb⟩:=hp;have A4:∀x∈p++[],x.block<W.heap.size:=fun x hx=>hW'.lt x hx
 simp only[List.append_nil] at A4;have Xg:ds.length=n:=by
  rw[<-hn];have key:∀{ts:List TypeId}{vs:List Value}{ds:List (DataW H)}{p:List MemPlace},DataW.TrodAll enc Tryz.prog W 0 (fun _=>true) true ts vs ds p->ds.length=ts.length:=by
   intro ts
   induction ts with
   |nil=>intro vs ds p h;cases vs<;>cases ds<;>first|rfl|exact h.elim
   |cons t ts ih=>
    intro vs ds p h;cases vs<;>cases ds<;>first|exact h.elim|skip
    obtain⟨_,_,_,h2,_⟩:=h;simp[ih h2]
  exact key hA
 refine⟨ds,[],p++[],[],p,[],hW',?_,?_,?_,hb.frame _,fun h=>by cases h⟩
 ·rw[List.append_nil,hs ds Xg,Hh];exact trodAll_mk1 (shut_bool under4 true)
 ·rw[List.append_nil,hs ds Xg];have:=Z4X laidOut hb S5 hA A4;rw[<-hts] at this;exact this
 ·rw[List.append_nil,hs ds Xg,hv];rfl
theorem Zac(Lk:Looks){p:Pinned}{s:OpenSpec}{c:OpenClaim}(kinds:List LaidKind)(tests:Bool)(har:Bool×String)(lk:Bool)
 (hc:c.holds p s)(hw:c.wfByText s=true)(Xh:c.laidByTextAt Lk p kinds tests)
 (Ac:c.start= .entering)(hnb:c.noBlocks=false/\c.again=false)(hm:p.checked.prog.mainIs=some (har.1,har.2.toList))(hn:(!har.1&&har.2.isEmpty&& !lk)=false)
 (hl:∀f fn,p.checked.prog.funcNamed c.func=some f->p.checked.prog.funcs[f]? =some fn->lk=p.checked.prog.looks []/\∀(j:Nat) t,fn.params[j]? =some t->p.checked.prog.wantsStandIn t=false)
 (hg:true=c.goesBy p.checked.prog):
 Claim7.holds p (.plain s) {stood:={row:=c,standIns:=[],harness:=har,looks:=lk},kinds:=[],alts:=[],goes:=true,laidByText:=true,laidKinds:=kinds,laidTests:=tests,laidLooks:=Lk}:=by
 have h6:∀r:OpenClaim,Claim7.isSixth {stood:={row:=r,standIns:=[],harness:=har,looks:=lk},kinds:=[]}=false:=fun r=>by simpa[Claim7.isSixth] using hn
 exact⟨Claim7.tied_new_at Lk kinds tests (Claim7.new_of_sixth hc har lk Ac hnb hm (h6 c) hl) hw,(fun D hD=>by cases hD),Xh,(fun h=>by cases h),hg⟩
end Go.Proofs.Tryq
namespace Go.Proofs.Tryq
set_option maxRecDepth 100000
set_option maxHeartbeats 2000000
open Go Go.Nk Go.RowKit
theorem ZbP(a b c m:Int)(base:Option Addr)(n cap:Nat)(L:List Sf)(w:World)(A3:L.length=n)(hM:Meas w)(hS:RawA w base L)(s:Nat)(hb:w.heap[s]? =some (.cells #[.int .i64 a,.int .i64 b,.int .i64 c,.int .i64 m,.slice base n cap] 26)):
 Calls prog 136 #[.pointer (some ⟨s,0,none⟩)] w fun e w'=>e= .returned (.int .i64 (Zp a b c m L))/\Ext w w':=by
 have C7:=Z24 a b c m base n cap L w A3 hM hS;have q0:=Z0 hb 0;have q1:=Z0 hb 1;have q2:=Z0 hb 2;have q3:=Z0 hb 3;have q4:=Z0 hb 4;simp only[YC,YA,YB] at q0 q1 q2 q3 q4;go_enter func136,ntmps136;go_wp2_with (first|(go_at_call 25;refine C7.mono ?_;rintro e w2 ⟨rfl,A8⟩));go_ret;exact⟨rfl,A8⟩
theorem ZbQ(a b c m:Int)(base:Option Addr)(n cap:Nat)(bl:Option Addr)(k cl:Nat)(l:List Int)(w:World)(hn:n<=20)(hk:l.length=k)(B0:k<=100)(hl:RawI w bl l)(s t:Nat)
 (hs:w.heap[s]? =some (.cells #[.func (.func 135) #[.agg #[.int .i64 a,.int .i64 b,.int .i64 c,.int .i64 m,.slice base n cap]] #[]] 173))(ht:w.heap[t]? =some (.cells #[.slice bl k cl] 27)):
 Calls prog 137 #[.pointer (some ⟨s,0,none⟩),.pointer (some ⟨t,0,none⟩)] w fun e w'=>e= .returned (.int .i64 (Zq n l))/\Ext w w':=by
 have C7:=Z9y a b c m base n cap bl k cl l w hn hk B0 hl;have q0:=Z0 hs 0;have q1:=Z0 ht 0;simp only[YC,YA,YB] at q0 q1;go_enter func137,ntmps137;go_wp2_with (first|(go_at_call 135;refine C7.mono ?_;rintro e w2 ⟨rfl,A8⟩));go_ret;exact⟨rfl,A8⟩
def Zo(a b c m:Int)(L:List Sf)(l:List Int):Int:=firstV [Zp a b c m L,Zq L.length l]
theorem Z3c(a b c m:Int)(base:Option Addr)(n cap:Nat)(L:List Sf)(bl:Option Addr)(k cl:Nat)(l:List Int)(w:World)(A3:L.length=n)(hn:n<=20)(hk:l.length=k)(B0:k<=100)(hM:Meas w)(hS:RawA w base L)(hl:RawI w bl l):
 Calls prog 86 #[.agg #[.int .i64 a,.int .i64 b,.int .i64 c,.int .i64 m,.slice base n cap],.slice bl k cl] w fun e w'=>e= .returned (.tuple #[.agg #[.int .i64 a,.int .i64 b,.int .i64 c,.int .i64 m,.slice base n cap],.int .i64 (Zo a b c m L l)])/\Ext w w':=by
 have As:Ext w (((((w.alloc (.cells #[.int .i64 a,.int .i64 b,.int .i64 c,.int .i64 m,.slice base n cap] 26)).alloc (.cells #[.slice bl k cl] 27)).alloc (.cells #[.int .i64 0,.int .i64 0,.int .i64 0,.int .i64 0,.slice none 0 0] 120)).alloc (.cells #[.int .i64 a,.int .i64 b,.int .i64 c,.int .i64 m,.slice base n cap] 120)).alloc (.cells #[.func (.func 135) #[.agg #[.int .i64 a,.int .i64 b,.int .i64 c,.int .i64 m,.slice base n cap]] #[]] 173)):=((((((Ext.rfl' w).alloc _).alloc _).alloc _).alloc _).alloc _);have h0:(((((w.alloc (.cells #[.int .i64 a,.int .i64 b,.int .i64 c,.int .i64 m,.slice base n cap] 26)).alloc (.cells #[.slice bl k cl] 27)).alloc (.cells #[.int .i64 0,.int .i64 0,.int .i64 0,.int .i64 0,.slice none 0 0] 120)).alloc (.cells #[.int .i64 a,.int .i64 b,.int .i64 c,.int .i64 m,.slice base n cap] 120)).alloc (.cells #[.func (.func 135) #[.agg #[.int .i64 a,.int .i64 b,.int .i64 c,.int .i64 m,.slice base n cap]] #[]] 173)).heap[w.heap.size]? =some (.cells #[.int .i64 a,.int .i64 b,.int .i64 c,.int .i64 m,.slice base n cap] 26):=by
  simp only[Z3,Z2];rw[if_neg (by omega),if_neg (by omega),if_neg (by omega),if_neg (by omega),if_pos trivial]
 have h1:(((((w.alloc (.cells #[.int .i64 a,.int .i64 b,.int .i64 c,.int .i64 m,.slice base n cap] 26)).alloc (.cells #[.slice bl k cl] 27)).alloc (.cells #[.int .i64 0,.int .i64 0,.int .i64 0,.int .i64 0,.slice none 0 0] 120)).alloc (.cells #[.int .i64 a,.int .i64 b,.int .i64 c,.int .i64 m,.slice base n cap] 120)).alloc (.cells #[.func (.func 135) #[.agg #[.int .i64 a,.int .i64 b,.int .i64 c,.int .i64 m,.slice base n cap]] #[]] 173)).heap[w.heap.size+1]? =some (.cells #[.slice bl k cl] 27):=by
  simp only[Z3,Z2];rw[if_neg (by omega),if_neg (by omega),if_neg (by omega),if_pos trivial]
 have h2:(((((w.alloc (.cells #[.int .i64 a,.int .i64 b,.int .i64 c,.int .i64 m,.slice base n cap] 26)).alloc (.cells #[.slice bl k cl] 27)).alloc (.cells #[.int .i64 0,.int .i64 0,.int .i64 0,.int .i64 0,.slice none 0 0] 120)).alloc (.cells #[.int .i64 a,.int .i64 b,.int .i64 c,.int .i64 m,.slice base n cap] 120)).alloc (.cells #[.func (.func 135) #[.agg #[.int .i64 a,.int .i64 b,.int .i64 c,.int .i64 m,.slice base n cap]] #[]] 173)).heap[w.heap.size+1+1]? =some (.cells #[.int .i64 0,.int .i64 0,.int .i64 0,.int .i64 0,.slice none 0 0] 120):=by
  simp only[Z3,Z2];rw[if_neg (by omega),if_neg (by omega),if_pos trivial]
 have h3:(((((w.alloc (.cells #[.int .i64 a,.int .i64 b,.int .i64 c,.int .i64 m,.slice base n cap] 26)).alloc (.cells #[.slice bl k cl] 27)).alloc (.cells #[.int .i64 0,.int .i64 0,.int .i64 0,.int .i64 0,.slice none 0 0] 120)).alloc (.cells #[.int .i64 a,.int .i64 b,.int .i64 c,.int .i64 m,.slice base n cap] 120)).alloc (.cells #[.func (.func 135) #[.agg #[.int .i64 a,.int .i64 b,.int .i64 c,.int .i64 m,.slice base n cap]] #[]] 173)).heap[w.heap.size+1+1+1]? =some (.cells #[.int .i64 a,.int .i64 b,.int .i64 c,.int .i64 m,.slice base n cap] 120):=by
  simp only[Z3,Z2];rw[if_neg (by omega),if_pos trivial]
 have h4:(((((w.alloc (.cells #[.int .i64 a,.int .i64 b,.int .i64 c,.int .i64 m,.slice base n cap] 26)).alloc (.cells #[.slice bl k cl] 27)).alloc (.cells #[.int .i64 0,.int .i64 0,.int .i64 0,.int .i64 0,.slice none 0 0] 120)).alloc (.cells #[.int .i64 a,.int .i64 b,.int .i64 c,.int .i64 m,.slice base n cap] 120)).alloc (.cells #[.func (.func 135) #[.agg #[.int .i64 a,.int .i64 b,.int .i64 c,.int .i64 m,.slice base n cap]] #[]] 173)).heap[w.heap.size+1+1+1+1]? =some (.cells #[.func (.func 135) #[.agg #[.int .i64 a,.int .i64 b,.int .i64 c,.int .i64 m,.slice base n cap]] #[]] 173):=by
  simp only[Z3,Z2];rw[if_pos trivial]
 have Em:∀w1,Ext w w1->w1.heap[w.heap.size]? =some (.cells #[.int .i64 a,.int .i64 b,.int .i64 c,.int .i64 m,.slice base n cap] 26)->w1.heap[w.heap.size+1]? =some (.cells #[.slice bl k cl] 27)->w1.heap[w.heap.size+1+1+1+1]? =some (.cells #[.func (.func 135) #[.agg #[.int .i64 a,.int .i64 b,.int .i64 c,.int .i64 m,.slice base n cap]] #[]] 173)->∀(W:World)(g:Nat),Ext w1 W->W.heap[g]? =some (.cells #[.func (.func 136) #[] #[.pointer (some ⟨w.heap.size,0,none⟩)],.func (.func 137) #[] #[.pointer (some ⟨w.heap.size+1+1+1+1,0,none⟩),.pointer (some ⟨w.heap.size+1,0,none⟩)]] 127)->
  Calls prog 90 #[.slice (some ⟨g,0,none⟩) 2 2] W fun e w'=>e= .returned (.int .i64 (Zo a b c m L l))/\Ext W w':=by
  intro w1 As h0 h1 h4 W g Ba hf;rw[show Zo a b c m L l=firstV [Zp a b c m L,Zq n l] by rw[Zo,A3]];refine Z1S g 2 2 (fun i=>if i=0 then 136 else 137) (fun i=> #[]) (fun i=>if i=0 then #[.pointer (some ⟨w.heap.size,0,none⟩)] else #[.pointer (some ⟨w.heap.size+1+1+1+1,0,none⟩),.pointer (some ⟨w.heap.size+1,0,none⟩)]) [Zp a b c m L,Zq n l] rfl (by omega) W ?_ ?_ ?_
  ·intro i hi;rw[Z0 hf];obtain rfl|rfl:i=0\/i=1:=by omega
   ·rfl
   ·rfl
  ·intro i hi args w';obtain rfl|rfl:i=0\/i=1:=by omega
   ·simp[go_sem]
   ·simp[go_sem]
  ·intro i x hx w' hE';have Av:=Ba.trans hE'
   match i,hx with
   |0,hx=>
    obtain rfl:=YT hx;exact ZbP a b c m base n cap L w' A3 (hM.ext (As.trans Av)) (hS.ext (As.trans Av)) _ (Av.get h0)
   |1,hx=>
    obtain rfl:=YT hx;exact ZbQ a b c m base n cap bl k cl l w' hn hk B0 (hl.ext (As.trans Av)) _ _ (Av.get h4) (Av.get h1)
 generalize Zo a b c m L l=f at Em⊢;go_enter func86,ntmps86;go_wp2;generalize World.alloc _ (.cells #[.func (.func 135) #[.agg #[.int .i64 a,.int .i64 b,.int .i64 c,.int .i64 m,.slice base n cap]] #[]] 173)=w1 at As h0 h1 h2 h3 h4⊢;have E0:=Em w1 As h0 h1 h4;clear Em;have q0:=Z0 h3 0;have q1:=Z0 h3 1;have q2:=Z0 h3 2;have q3:=Z0 h3 3;have q4:=Z0 h3 4;simp only[YC,YA,YB] at q0 q1 q2 q3 q4;have z0:=Z8 h2 0;have z1:=Z8 h2 1;have z2:=Z8 h2 2;have z3:=Z8 h2 3;have z4:=Z8 h2 4;have y0:=Z0 h2 0;have y1:=Z0 h2 1;have y2:=Z0 h2 2;have y3:=Z0 h2 3;have y4:=Z0 h2 4;simp only[YC,YA,YB] at y0 y1 y2 y3 y4;have A9:¬w.heap.size+1+1=w.heap.size+1+1+1:=by omega
 go_region_held3 (fun w'=>w'.cell? ⟨w.heap.size+1+1+1,0,none⟩=some (.int .i64 a)/\w'.cell? ⟨w.heap.size+1+1+1,1,none⟩=some (.int .i64 b)/\w'.cell? ⟨w.heap.size+1+1+1,2,none⟩=some (.int .i64 c)/\w'.cell? ⟨w.heap.size+1+1+1,3,none⟩=some (.int .i64 m)/\w'.cell? ⟨w.heap.size+1+1+1,4,none⟩=some (.slice base n cap)) (go_keep) (first
  |(go_at_call 90;refine(E0 _ _ (by(repeat (with_reducible first|assumption|exact Ext.rfl' _|apply Ext.alloc|apply Ext.drew))) (by exact(Z3 _ _ _).trans (if_pos rfl))).mono ?_;rintro e w2 ⟨rfl,A8⟩
    have Av:Ext w1 w2:=Ext.trans (by(repeat (with_reducible first|assumption|exact Ext.rfl' _|apply Ext.alloc|apply Ext.drew))) A8;have g2:=Av.get h2;have z0:=Z8 g2 0;have z1:=Z8 g2 1;have z2:=Z8 g2 2;have z3:=Z8 g2 3;have z4:=Z8 g2 4;have y0:=Z0 g2 0;have y1:=Z0 g2 1;have y2:=Z0 g2 2;have y3:=Z0 g2 3;have y4:=Z0 g2 4;simp only[YC,YA,YB] at y0 y1 y2 y3 y4;have p0:=Av.cellS q0;have p1:=Av.cellS q1;have p2:=Av.cellS q2;have p3:=Av.cellS q3;have p4:=Av.cellS q4))
 all_goals
  go_wp2;have hw:w.heap.size<=w.heap.size+1+1:=by omega
  have Br:=Zb (Zb (Zb (Zb (Zb g2 (i:=0) (.int .i64 a)) (i:=1) (.int .i64 b)) (i:=2) (.int .i64 c)) (i:=3) (.int .i64 m)) (i:=4) (.slice base n cap);have s0:=Z0 Br 0;have s1:=Z0 Br 1;have s2:=Z0 Br 2;have s3:=Z0 Br 3;have s4:=Z0 Br 4;simp at s0 s1 s2 s3 s4;refine bodyPost_ret (v:= .tuple #[.agg #[.int .i64 a,.int .i64 b,.int .i64 c,.int .i64 m,.slice base n cap],.int .i64 f]) ((Z01 rfl _ _ _).trans ?_) rfl ⟨rfl,(((((As.trans Av).setCell _ _ hw).setCell _ _ hw).setCell _ _ hw).setCell _ _ hw).setCell _ _ hw⟩;simp[go_sem,s0,s1,s2,s3,s4]
end Go.Proofs.Tryq
section
namespace Go.Nk
open Go Go.Region
open Go.Proofs.Tryq (Ext Z3 Z2)
variable {P:Program} {ops:Array Oper} {Q:Exit->Act->World->Prop}
theorem Z03{id:Nat}{a:Act}{w:World}(hm:P.follows .mixedOrders=true)(he:Zdr ops=true)(I:(Nat->Bool)->Act->World->Prop)(h0:I (fun _=>false) a w.drew)
 (step:∀i o,ops[i]? =some o->∀ℓ a w,ℓ i=false->(∀k∈Zi7 o,ℓ k=true)->I ℓ a w->wpOp P ops Q i (fun a' w'=>I (upd ℓ i) a' w') a w)
 (fin:∀ℓ a w,(∀i,i<ops.size->ℓ i=true)->I ℓ a w->Q .normal a w):(Code.region id ops true).wp P Q a w:=by
 refine wp_region_any hm (Zad he I step fin ops.size _ a _ (by simp) ?_ ?_)
 ·have:=List.countP_le_length (p:=fun i=> !(Array.replicate ops.size false).getD i false) (l:=List.range ops.size);simpa using this
 ·have e:(fun j=>(Array.replicate ops.size false).getD j false)=fun _=>false:=by
   funext j;simp only[Array.getD_eq_getD_getElem?,Array.getElem?_replicate];split<;>rfl
  rw[e];exact h0
def AllIx{α:Type}(p:Nat->α->Prop):Nat->List α->Prop
 |_,[]=>True
 |k,x::l=>p k x/\AllIx p (k+1) l
theorem AllIx.get{α:Type}{p:Nat->α->Prop}:∀{l:List α}{k:Nat},AllIx p k l->∀i x,l[i]? =some x->p (k+i) x
 |[],_,_,i,x,h=>by simp at h
 |y::l,k,⟨h1,h2⟩,i,x,h=>by
  cases i with
  |zero=>simp at h;subst h;exact h1
  |succ i=>
   have:=h2.get i x (by simpa using h);rw[show k+(i+1)=k+1+i by omega];exact this
theorem Zds{a:Act}{d:Tmp}{v:Value}(h:d<a.tmps.size)(t:Tmp):(a.put (some d) v).tmps.getD t undef=if t=d then v else a.tmps.getD t undef:=by
 have e:(a.put (some d) v).tmps=a.tmps.setIfInBounds d v:=rfl;rw[e];simp only[Array.getD_eq_getD_getElem?,Array.getElem?_setIfInBounds];by_cases hd:d=t
 ·subst hd;simp[h]
 ·rw[if_neg hd,if_neg (fun e=>hd e.symm)]
theorem Z7x(a:Act)(d:Option Tmp)(v:Value):(a.put d v).tmps.size=a.tmps.size:=by
 cases d with
 |none=>rfl
 |some d=>simp[Act.put]
theorem put_defers(a:Act)(d:Option Tmp)(v:Value):(a.put d v).defers=a.defers:=by
 cases d<;>rfl
structure RI(n:Nat)(Dl:List (Option Tmp))(S:List (Option Value))(L0:Tmp->Value)(M:(Nat->Bool)->(Tmp->Value)->World->Prop)(ℓ:Nat->Bool)(a:Act)(w:World):Prop where
 defers:a.defers=[]
 size:a.tmps.size=n
 vals:∀i t v,Dl[i]? =some (some t)->S[i]? =some (some v)->ℓ i=true->a.tmps.getD t undef=v
 out:∀t,(∀i,Dl[i]? =some (some t)->ℓ i=false)->a.tmps.getD t undef=L0 t
 mem:M ℓ (fun t=>a.tmps.getD t undef) w
variable {n:Nat} {Dl:List (Option Tmp)} {S:List (Option Value)} {L0:Tmp->Value} {M:(Nat->Bool)->(Tmp->Value)->World->Prop} {ℓ:Nat->Bool} {a:Act} {w w':World} {i:Nat} {o:Oper}
theorem RI.start(hd:a.defers=[])(hs:a.tmps.size=n)(hM:M (fun _=>false) (fun t=>a.tmps.getD t undef) w):RI n Dl S (fun t=>a.tmps.getD t undef) M (fun _=>false) a w:=
 ⟨hd,hs,fun _ _ _ _ _ h=>(by cases h),fun _ _=>rfl,hM⟩
theorem apart_of:∀{Dl:List (Option Tmp)},(Dl.filterMap id).Nodup->∀{i j:Nat}{t:Tmp},Dl[i]? =some (some t)->Dl[j]? =some (some t)->i=j
 |[],_,i,j,t,h,_=>by simp at h
 |x::l,hn,i,j,t,h1,h2=>by
  cases x with
  |none=>
   have hn':(l.filterMap id).Nodup:=hn;cases i with
   |zero=>simp at h1
   |succ i=>
    cases j with
    |zero=>simp at h2
    |succ j=>rw[apart_of hn' (i:=i) (j:=j) (t:=t) (by simpa using h1) (by simpa using h2)]
  |some x=>
   have hn':(x::l.filterMap id).Nodup:=hn;rw[List.nodup_cons] at hn';have B8:∀{i:Nat},l[i]? =some (some x)->x∈l.filterMap id:=fun{i} h=>List.mem_filterMap.2 ⟨some x,YQ h,rfl⟩
   cases i with
   |zero=>
    simp at h1;subst h1;cases j with
    |zero=>rfl
    |succ j=>exact absurd (B8 (i:=j) (by simpa using h2)) hn'.1
   |succ i=>
    cases j with
    |zero=>
     simp at h2;subst h2;exact absurd (B8 (i:=i) (by simpa using h1)) hn'.1
    |succ j=>rw[apart_of hn'.2 (i:=i) (j:=j) (t:=t) (by simpa using h1) (by simpa using h2)]
theorem RI.put(h:RI n Dl S L0 M ℓ a w){d:Tmp}(hn:(Dl.filterMap id).Nodup)(hi:Dl[i]? =some (some d))(A4:d<n){v:Value}(hS:∀v',S[i]? =some (some v')->v=v')
 (hM:M (upd ℓ i) (fun t=>if t=d then v else a.tmps.getD t undef) w'):RI n Dl S L0 M (upd ℓ i) (a.put (some d) v) w':=by
 have hg:=Zds (a:=a) (v:=v) (by rw[h.size];exact A4);refine⟨by rw[put_defers];exact h.defers,by rw[Z7x];exact h.size,?_,?_,?_⟩
 ·intro j t v' hj hv hl;rw[hg];split
  ·rename_i e;subst e;have:=apart_of hn hi hj;subst this;exact hS v' hv
  ·rename_i e;refine h.vals j t v' hj hv ?_;rw[upd_ne] at hl
   ·exact hl
   ·rintro rfl;rw[hi] at hj;simp at hj;exact e hj.symm
 ·intro t ht;rw[hg];split
  ·rename_i e;subst e;have:=ht i hi;rw[Z0k] at this;cases this
  ·refine h.out t fun j hj=> ?_
   have A9:j≠i:=by
    rintro rfl;have:=ht j hj;rw[Z0k] at this;cases this
   have:=ht j hj
   rwa [upd_ne A9] at this
 ·have e:(fun t=>(a.put (some d) v).tmps.getD t undef)=fun t=>if t=d then v else a.tmps.getD t undef:=funext hg
  rw[e];exact hM
theorem RI.skip(h:RI n Dl S L0 M ℓ a w)(hi:Dl[i]? =some none)(hM:M (upd ℓ i) (fun t=>a.tmps.getD t undef) w'):RI n Dl S L0 M (upd ℓ i) a w':=by
 refine⟨h.defers,h.size,?_,?_,hM⟩
 ·intro j t v' hj hv hl;refine h.vals j t v' hj hv ?_;rw[upd_ne] at hl
  ·exact hl
  ·rintro rfl;rw[hi] at hj;cases hj
 ·intro t ht;refine h.out t fun j hj=> ?_
  have A9:j≠i:=by rintro rfl;rw[hi] at hj;cases hj
  have:=ht j hj
  rwa [upd_ne A9] at this
theorem Z3H{K:Act->World->Prop}(ho:ops[i]? =some o)(hg:o.guard=none)(h:o.wp P a w K Q):wpOp P ops Q i K a w:=by
 unfold wpOp;simp only[ho,Region.wanted,hg,if_true];exact .inl h
theorem RI.det(h:RI n Dl S L0 M ℓ a w)(ho:ops[i]? =some o)(hg:o.guard=none){d:Tmp}(hd:o.dst=some d)(hn:(Dl.filterMap id).Nodup)(hi:Dl[i]? =some (some d))(A4:d<n){v:Value}(hS:∀v',S[i]? =some (some v')->v=v')
 (Af:(execOp a.eval o).run P w= .ok (.value v) w')(hM:M (upd ℓ i) (fun t=>if t=d then v else a.tmps.getD t undef) w'):wpOp P ops Q i (fun a' w'=>RI n Dl S L0 M (upd ℓ i) a' w') a w:=by
 refine Z3H ho hg ?_;unfold Oper.wp;rw[Af,Oper.upon_value,hd];exact h.put hn hi A4 hS hM
theorem RI.v(h:RI n Dl S L0 M ℓ a w){A:List Nat}(hp:∀k∈A,ℓ k=true)(i t:Nat){v:Value}(h1:Dl[i]? =some (some t):=by rfl)(h2:S[i]? =some (some v):=by rfl)(h3:i∈A:=by decide):a.tmps.getD t undef=v:=h.vals i t v h1 h2 (hp i h3)
theorem RI.dt(h:RI n Dl S L0 M ℓ a w)(ho:ops[i]? =some o:=by rfl)(hg:o.guard=none:=by rfl){d:Tmp}(hd:o.dst=some d:=by rfl)(hn:(Dl.filterMap id).Nodup:=by decide)(hi:Dl[i]? =some (some d):=by rfl)(A4:d<n:=by decide){v:Value}(hS:S[i]? =some (some v):=by rfl)
 (r:(execOp a.eval o).run P w= .ok (.value v) w')(m:M (upd ℓ i) (fun t=>if t=d then v else a.tmps.getD t undef) w'):wpOp P ops Q i (fun a' w'=>RI n Dl S L0 M (upd ℓ i) a' w') a w:=
 h.det ho hg hd hn hi A4 (fun v' hv=>YT (YT (hS.symm.trans hv))) r m
theorem RI.eff(h:RI n Dl S L0 M ℓ a w)(ho:ops[i]? =some o)(hg:o.guard=none)(hd:o.dst=none)(hi:Dl[i]? =some none)
 (Af:(execOp a.eval o).run P w= .ok .skip w')(hM:M (upd ℓ i) (fun t=>a.tmps.getD t undef) w'):wpOp P ops Q i (fun a' w'=>RI n Dl S L0 M (upd ℓ i) a' w') a w:=by
 refine Z3H ho hg ?_;unfold Oper.wp;rw[Af,Oper.upon_skip,hd];exact h.skip hi hM
theorem RI.call(h:RI n Dl S L0 M ℓ a w)(ho:ops[i]? =some o)(hg:o.guard=none){d:Tmp}(hd:o.dst=some d)(hn:(Dl.filterMap id).Nodup)(hi:Dl[i]? =some (some d))(A4:d<n){f:FuncId}{args:Array Value}
 (Af:(execOp a.eval o).run P w= .ok (.enter f args) w)
 (hc:Calls P f args w fun e w'=>∃v,e= .returned v/\(∀v',S[i]? =some (some v')->v=v')/\M (upd ℓ i) (fun t=>if t=d then v else a.tmps.getD t undef) w'):wpOp P ops Q i (fun a' w'=>RI n Dl S L0 M (upd ℓ i) a' w') a w:=by
 refine Z3H ho hg ?_;unfold Oper.wp;rw[Af,Oper.upon_enter,hd];refine hc.mono ?_;rintro e w'' ⟨v,rfl,hS,hM⟩;exact h.put hn hi A4 hS hM
theorem Zel{arr:Array Value}{n:Nat}(h:arr.size=n):arr=((List.range n).map fun t=>arr.getD t undef).toArray:=by
 apply Array.ext
 ·simp[h]
 ·intro i h1 h2;simp[Array.getD_eq_getD_getElem?,YN h1]
theorem Z1z{a:Act}{n:Nat}(hd:a.defers=[])(h:a.tmps.size=n):a={tmps:=((List.range n).map fun t=>a.tmps.getD t undef).toArray,defers:=[]}:=by
 cases a;simp only at hd h;subst hd;rw[<-Zel h]
structure Bx where
 al:Nat
 t:Tmp
 st:Nat
 z:Array Value
 fin:Array Value
 ty:TypeId
def Bxs(w1:World)(B:List Bx)(ℓ:Nat->Bool)(x:Tmp->Value)(w:World):Prop:=
 Ext w1 w/\(∀e∈B,ℓ e.al=true->∃b,x e.t= .pointer (some ⟨b,0,none⟩)/\w1.heap.size<=b/\w.heap[b]? =some (.cells (if ℓ e.st then e.fin else e.z) e.ty))/\
 (∀e∈B,∀e'∈B,e.t≠e'.t->ℓ e.al=true->ℓ e'.al=true->x e.t≠x e'.t)/\∀e∈B,ℓ e.st=true->ℓ e.al=true
variable {w1:World} {B:List Bx} {x:Tmp->Value}
theorem Bxs.start(w1:World)(B:List Bx)(x:Tmp->Value):Bxs w1 B (fun _=>false) x w1.drew:=
 ⟨(Ext.rfl' w1).drew,fun _ _ h=>by(cases h),fun _ _ _ _ _ h=>by(cases h),fun _ _ h=>by(cases h)⟩
def farB(B:List Bx)(i:Nat)(d:Tmp):Bool:=B.all fun e=>e.al !=i&&e.st !=i&&e.t !=d
theorem Bxs.keep(h:Bxs w1 B ℓ x w)(e:Ext w w'){d:Tmp}{v:Value}(hf:farB B i d=true):Bxs w1 B (upd ℓ i) (fun t=>if t=d then v else x t) w':=by
 obtain⟨h1,h2,h3,h4⟩:=h
 have hb:∀e∈B,e.al≠i/\e.st≠i/\e.t≠d:=fun e he=>by
  have:=YL.1 hf e he;simp at this;exact⟨this.1.1,this.1.2,this.2⟩
 refine⟨h1.trans e,?_,?_,fun c hc hl=>by obtain⟨n1,n2,_⟩:=hb c hc;rw[upd_ne n2] at hl;rw[upd_ne n1];exact h4 c hc hl⟩
 ·intro c hc hl;obtain⟨n1,n2,n3⟩:=hb c hc;rw[upd_ne n1] at hl;obtain⟨b,B6,Ao,Br⟩:=h2 c hc hl;refine⟨b,by simp only;rw[if_neg n3];exact B6,Ao,?_⟩;rw[upd_ne n2];exact e.get Br
 ·intro c hc c' hc' A9 hl hl';obtain⟨n1,_,n3⟩:=hb c hc;obtain⟨n1',_,n3'⟩:=hb c' hc';rw[upd_ne n1] at hl;rw[upd_ne n1'] at hl';simp only;rw[if_neg n3,if_neg n3'];exact h3 c hc c' hc' A9 hl hl'
theorem Bxs.k(h:Bxs w1 B ℓ x w){d:Tmp}{v:Value}(hf:farB B i d=true:=by rfl):Bxs w1 B (upd ℓ i) (fun t=>if t=d then v else x t) w:=h.keep (Ext.rfl' _) hf
def Zem(B:List Bx)(i:Nat)(d:Tmp):Bool:=B.all fun e=>(e.al==i)==(e.t==d)&&e.st !=i
theorem Bxs.make(h:Bxs w1 B ℓ x w){c:Bx}(hc:c∈B)(hi:c.al=i)(V6:ℓ i=false)(hf:Zem B i c.t=true)(E7:∀e∈B,e.al=i->e.z=c.z/\e.ty=c.ty/\e.st=c.st):
 Bxs w1 B (upd ℓ i) (fun t=>if t=c.t then .pointer (some ⟨w.heap.size,0,none⟩) else x t) (w.alloc (.cells c.z c.ty)):=by
 obtain⟨h1,h2,h3,h4⟩:=h
 have hb:∀e∈B,((e.al=i)↔(e.t=c.t))/\e.st≠i:=fun e he=>by
  have:=YL.1 hf e he;simp at this;refine⟨?_,this.2⟩;have h:=this.1;constructor
  ·intro ha;simpa[ha] using h
  ·intro ha;simpa[ha] using h
 have Ac:ℓ c.st=false:=by
  cases hb':ℓ c.st
  ·rfl
  ·have:=h4 c hc hb';rw[hi,V6] at this;cases this
 refine⟨h1.alloc _,?_,?_,fun e he hl=>by
  obtain⟨_,n2⟩:=hb e he;rw[upd_ne n2] at hl;have:=h4 e he hl;by_cases ha:e.al=i
  ·rw[ha];exact Z0k _ _
  ·rw[upd_ne ha];exact this⟩
 ·intro e he hl;obtain⟨n1,n2⟩:=hb e he;by_cases ha:e.al=i
  ·obtain⟨z1,z2,z3⟩:=E7 e he ha;refine⟨w.heap.size,by simp only;rw[if_pos (n1.1 ha)],h1.size,?_⟩;rw[upd_ne n2,z3,Ac,Z3,if_pos rfl,z1,z2];rfl
  ·rw[upd_ne ha] at hl;obtain⟨b,B6,Ao,Br⟩:=h2 e he hl;refine⟨b,by simp only;rw[if_neg (fun e2=>ha (n1.2 e2))];exact B6,Ao,?_⟩;rw[upd_ne n2];exact((Ext.rfl' w).alloc _).get Br
 ·have key:∀e∈B,e.al≠i->ℓ e.al=true->x e.t≠.pointer (some ⟨w.heap.size,0,none⟩):=by
   intro e he ha hl hx;obtain⟨b,B6,_,Br⟩:=h2 e he hl;rw[hx] at B6;simp at B6;have:=(YF.1 Br).1;omega
  intro e he e' he' A9 hl hl';obtain⟨n1,_⟩:=hb e he;obtain⟨n1',_⟩:=hb e' he';simp only;by_cases ha:e.al=i
  ·have ha':e'.al≠i:=fun h=>A9 ((n1.1 ha).trans (n1'.1 h).symm)
   rw[upd_ne ha'] at hl';rw[if_pos (n1.1 ha),if_neg (fun h=>ha' (n1'.2 h))];exact fun h=>key e' he' ha' hl' h.symm
  ·rw[upd_ne ha] at hl;rw[if_neg (fun h=>ha (n1.2 h))];by_cases ha':e'.al=i
   ·rw[if_pos (n1'.1 ha')];exact key e he ha hl
   ·rw[upd_ne ha'] at hl';rw[if_neg (fun h=>ha' (n1'.2 h))];exact h3 e he e' he' A9 hl hl'
theorem Z2z{w:World}{b:Nat}{u v u' v':Value}{t:TypeId}(h:w.heap[b]? =some (.cells #[u,v] t)):
 (((w.setCell ⟨b,0,none⟩ u').setCell ⟨b,1,none⟩ v').heap[b]? =some (.cells #[u',v'] t))/\(∀k,k≠b->((w.setCell ⟨b,0,none⟩ u').setCell ⟨b,1,none⟩ v').heap[k]? =w.heap[k]?)/\w.heap.size<=((w.setCell ⟨b,0,none⟩ u').setCell ⟨b,1,none⟩ v').heap.size/\((w.setCell ⟨b,0,none⟩ u').setCell ⟨b,1,none⟩ v').tape=w.tape/\((w.setCell ⟨b,0,none⟩ u').setCell ⟨b,1,none⟩ v').os=w.os/\((w.setCell ⟨b,0,none⟩ u').setCell ⟨b,1,none⟩ v').output=w.output:=
 ⟨Go.Proofs.Tryq.set_pair h u' v',fun k hk=>(Go.Proofs.Tryq.set_ne (w:=w.setCell _ _) hk _).trans (Go.Proofs.Tryq.set_ne hk _),by
   have hA:=Go.Conc.aside_setCell w ⟨b,0,none⟩ u';have hB:=Go.Conc.aside_setCell (w.setCell ⟨b,0,none⟩ u') ⟨b,1,none⟩ v';rw[hB.size,hA.size];exact⟨Nat.le_refl _,hB.tape.trans hA.tape,hB.os.trans hA.os,hB.output.trans hA.output⟩⟩
def fillB(B:List Bx)(i:Nat)(d:Tmp):Bool:=B.all fun e=>e.al !=i&&((e.st==i)==(e.t==d))
theorem Bxs.fill(h:Bxs w1 B ℓ x w){c:Bx}(hc:c∈B)(hi:c.st=i)(Km:ℓ c.al=true)(hf:fillB B i c.t=true)(E7:∀e∈B,e.st=i->e.al=c.al/\e.fin=c.fin/\e.ty=c.ty){b:Nat}(hx:x c.t= .pointer (some ⟨b,0,none⟩))
 (hs:w.heap.size<=w'.heap.size)(ho:∀k,k≠b->w'.heap[k]? =w.heap[k]?)(ht:w'.tape=w.tape)(hos:w'.os=w.os)(Hk:w'.output=w.output)(hb:w'.heap[b]? =some (.cells c.fin c.ty)):
 Bxs w1 B (upd ℓ i) x w':=by
 obtain⟨h1,h2,h3,h4⟩:=h
 have hB:∀e∈B,e.al≠i/\((e.st=i)↔(e.t=c.t)):=fun e he=>by
  have:=YL.1 hf e he;simp at this;refine⟨this.1,?_⟩;have h:=this.2;constructor
  ·intro ha;simpa[ha] using h
  ·intro ha;simpa[ha] using h
 obtain⟨b',B6,Ao,Br⟩:=h2 c hc Km;rw[hx] at B6;simp at B6;subst B6
 refine⟨⟨Nat.le_trans h1.size hs,fun k hk=>(ho k (by omega)).trans (h1.old k hk),ht.trans h1.tape,hos.trans h1.os,Hk.trans h1.output⟩,?_,?_,fun e he hl=>by
  obtain⟨n1,_⟩:=hB e he;rw[upd_ne n1];by_cases Mb:e.st=i
  ·rw[(E7 e he Mb).1];exact Km
  ·rw[upd_ne Mb] at hl;exact h4 e he hl⟩
 ·intro e he hl;obtain⟨n1,n2⟩:=hB e he;rw[upd_ne n1] at hl;by_cases Mb:e.st=i
  ·obtain⟨y1,y2,y3⟩:=E7 e he Mb;refine⟨b,by rw[n2.1 Mb];exact hx,Ao,?_⟩;rw[Mb,Z0k,hb,y2,y3];rfl
  ·rw[upd_ne Mb];obtain⟨b2,c1,c2,c3⟩:=h2 e he hl;refine⟨b2,c1,c2,?_⟩;have A9:b2≠b:=by
    rintro rfl;have:=h3 e he c hc (fun h=>Mb (n2.2 h)) hl Km;rw[c1,hx] at this;exact this rfl
   rw[ho b2 A9];exact c3
 ·intro e he e' he' A9 hl hl';rw[upd_ne (hB e he).1] at hl;rw[upd_ne (hB e' he').1] at hl';exact h3 e he e' he' A9 hl hl'
end Go.Nk
namespace Go.Nk
open Go Go.Region
theorem AllIx.arr{p:Nat->Oper->Prop}{ops:Array Oper}(h:AllIx p 0 ops.toList):∀i o,ops[i]? =some o->p i o:=by
 intro i o ho;have:=h.get i o (by rw[Array.getElem?_toList];exact ho);rw[Nat.zero_add] at this;exact this
theorem RI.at_out{n:Nat}{Dl:List (Option Tmp)}{S:List (Option Value)}{L0:Tmp->Value}{M:(Nat->Bool)->(Tmp->Value)->World->Prop}{ℓ:Nat->Bool}{a:Act}{w:World}(h:RI n Dl S L0 M ℓ a w)(t:Tmp)(ht:Dl.contains (some t)=false):a.tmps.getD t undef=L0 t:=
 h.out t fun i hi=>by
  have:=YQ hi;rw[<-List.contains_iff_mem] at this;rw[this] at ht;cases ht
end Go.Nk
end
namespace Go.Proofs.Tryq
set_option maxRecDepth 100000
set_option maxHeartbeats 4000000
open Go Go.Nk Go.RowKit
def Z2Q(N:Int)(p q:Int×Int):Int:=if p.2 - q.1<=N/\q.2 - p.1<=N then 1 else if N<max p.1 q.1 - min p.2 q.2 then 2 else 0
def Z1m(a b c:Int)(x y:Sf)(k:Nat):Int:=Z2Q (alw a b c k) (spA x k) (spA y k)
theorem Z0j{p:Int×Int}(h:ZF p=true):0<=p.1/\p.1<=p.2/\p.2<=9999:=by simpa[ZF] using h
theorem Z4Y(a b c m N:Int)(bs off n cap u f g o:Nat)(xa xb ya yb:Int)(i j:Nat)(w:World)(hu:u<3)(D5:bs<w.heap.size)(hi:i<n)(hj:j<n)(hn:n<=20)
 (g0:w.cell? ⟨0,u*2,none⟩=some (.func (.func f) #[] #[]))(g1:w.cell? ⟨0,u*2+1,none⟩=some (.func (.func g) #[] #[]))
 (hf:∀(b off:Nat)(w:World),Calls prog f #[.pointer (some ⟨b,off,none⟩)] w fun e w'=>e= .returned (.pointer (some ⟨b,off+o,none⟩))/\w'=w)
 (hg:∀w,Calls prog g #[.agg #[.int .i64 a,.int .i64 b,.int .i64 c,.int .i64 m]] w fun e w'=>e= .returned (.int .i64 N)/\Ext w w')
 (Ei:∀args w,(callFunc f args).run prog w= .ok (.enter f args) w)(hcg:∀args w,(callFunc g args).run prog w= .ok (.enter g args) w)
 (xl:w.cell? ⟨bs,off+i*7+o,none⟩=some (.int .i64 xa))(xh:w.cell? ⟨bs,off+i*7+o+1,none⟩=some (.int .i64 xb))(yl:w.cell? ⟨bs,off+j*7+o,none⟩=some (.int .i64 ya))(yh:w.cell? ⟨bs,off+j*7+o+1,none⟩=some (.int .i64 yb))
 (hN:0<=N/\N<=9999)(x1:0<=xa)(x2:xa<=xb)(x3:xb<=9999)(y1:0<=ya)(y2:ya<=yb)(y3:yb<=9999):
 Calls prog 143 #[.agg #[.int .i64 a,.int .i64 b,.int .i64 c,.int .i64 m,.slice (some ⟨bs,off,none⟩) n cap],.int .i64 i,.int .i64 j,.int .i64 u] w fun e w'=>e= .returned (.int .i64 (Z2Q N (xa,xb) (ya,yb)))/\Ext w w':=by
 have V6:0<w.heap.size:=by omega
 have Ly:∀(v:World)(o:Obj)(off':Nat),0<v.heap.size->(v.alloc o).cell? ⟨0,off',none⟩=v.cell? ⟨0,off',none⟩:=fun v o off' h=>World.cell?_alloc_lt _ _ _ h
 obtain⟨n1,n2⟩:=hN;have D9:(i:Int)<(n:Int):=by omega
 have G8:(j:Int)<(n:Int):=by omega
 have hu2:(u:Int)<3:=by omega
 have H:Hid (Z2Q N (xa,xb) (ya,yb)=Z2Q N (xa,xb) (ya,yb)):=rfl;generalize hr:Z2Q N (xa,xb) (ya,yb)=r at⊢;rw[hr] at H;replace H:Hid (r=Z2Q N (xa,xb) (ya,yb)):=hr.symm;clear hr;go_enter func143,ntmps143;go_wp2;have As:Ext w _:=((Ext.rfl' w).alloc (.cells #[.int .i64 a,.int .i64 b,.int .i64 c,.int .i64 m,.slice (some ⟨bs,off,none⟩) n cap] 120)).alloc (.cells #[.func (.func f) #[] #[],.func (.func g) #[] #[]] 169);have K2:((w.alloc (.cells #[.int .i64 a,.int .i64 b,.int .i64 c,.int .i64 m,.slice (some ⟨bs,off,none⟩) n cap] 120)).alloc (.cells #[.func (.func f) #[] #[],.func (.func g) #[] #[]] 169)).heap[w.heap.size]? =some (.cells #[.int .i64 a,.int .i64 b,.int .i64 c,.int .i64 m,.slice (some ⟨bs,off,none⟩) n cap] 120):=by
  simp only[Z3,Z2];rw[if_neg (by omega),if_pos trivial]
 have B6:((w.alloc (.cells #[.int .i64 a,.int .i64 b,.int .i64 c,.int .i64 m,.slice (some ⟨bs,off,none⟩) n cap] 120)).alloc (.cells #[.func (.func f) #[] #[],.func (.func g) #[] #[]] 169)).heap[w.heap.size+1]? =some (.cells #[.func (.func f) #[] #[],.func (.func g) #[] #[]] 169):=by
  simp only[Z3,Z2];rw[if_pos trivial]
 clear Ly g0 g1;replace xl:=As.cellS xl;replace xh:=As.cellS xh;replace yl:=As.cellS yl;replace yh:=As.cellS yh;generalize World.alloc _ (.cells #[.func (.func f) #[] #[],.func (.func g) #[] #[]] 169)=w1 at As K2 B6 xl xh yl yh⊢;have q0:=Z0 K2 0;have q1:=Z0 K2 1;have q2:=Z0 K2 2;have q3:=Z0 K2 3;have q4:=Z0 K2 4;have p0:=Z0 B6 0;have p1:=Z0 B6 1;simp only[YC,YA,YB] at q0 q1 q2 q3 q4 p0 p1;have I0:=Z5 B6;refine Z03 (by kernel_rfl) (by kernel_rfl) (RI 73 [some 16,some 17,some 18,some 19,some 20,some 21,some 22,some 23,some 24,some 25,some 26,some 27,some 28,some 29,some 30,some 31,some 32,some 33,some 34,some 35,some 36,some 37,some 38,some 39,some 40,some 41,some 10,some 11,none,none,some 12] [some (.pointer (some ⟨w.heap.size+1,0,none⟩)),some (.func (.func f) #[] #[]),some (.pointer (some ⟨w.heap.size,0,none⟩)),some (.pointer (some ⟨w.heap.size,4,none⟩)),some (.slice (some ⟨bs,off,none⟩) n cap),some (.int .i64 i),some (.pointer (some ⟨bs,off+i*7,none⟩)),some (.pointer (some ⟨bs,off+i*7+o,none⟩)),some (.pointer (some ⟨bs,off+i*7+o,none⟩)),some (.agg #[.int .i64 xa,.int .i64 xb]),some (.pointer (some ⟨w.heap.size+1,0,none⟩)),some (.func (.func f) #[] #[]),some (.pointer (some ⟨w.heap.size,0,none⟩)),some (.pointer (some ⟨w.heap.size,4,none⟩)),some (.slice (some ⟨bs,off,none⟩) n cap),some (.int .i64 j),some (.pointer (some ⟨bs,off+j*7,none⟩)),some (.pointer (some ⟨bs,off+j*7+o,none⟩)),some (.pointer (some ⟨bs,off+j*7+o,none⟩)),some (.agg #[.int .i64 ya,.int .i64 yb]),some (.pointer (some ⟨w.heap.size+1,1,none⟩)),some (.func (.func g) #[] #[]),some (.pointer (some ⟨w.heap.size,0,none⟩)),some (.pointer (some ⟨w.heap.size,0,none⟩)),some (.agg #[.int .i64 a,.int .i64 b,.int .i64 c,.int .i64 m]),some (.int .i64 N),none,none,none,none,some (.int .i64 N)] _ (Bxs w1 [⟨26,10,28,#[.int .i64 0,.int .i64 0],#[.int .i64 xa,.int .i64 xb],48⟩,⟨27,11,29,#[.int .i64 0,.int .i64 0],#[.int .i64 ya,.int .i64 yb],48⟩])) (RI.start rfl rfl (Bxs.start w1 _ _)) (AllIx.arr ⟨?_,?_,?_,?_,?_,?_,?_,?_,?_,?_,?_,?_,?_,?_,?_,?_,?_,?_,?_,?_,?_,?_,?_,?_,?_,?_,?_,?_,?_,?_,?_,trivial⟩) ?_
 ·intro ℓ aq W hl hp h;have e9:aq.tmps.getD 9 undef= .pointer (some ⟨w.heap.size+1,0,none⟩):=h.at_out 9 rfl;exact h.dt (r:=by simp[go_sem,execOp,Act.eval,e9]) (m:=h.mem.k)
 ·intro ℓ aq W hl hp h;have e16:=h.v hp 0 16;have c0:=h.mem.1.cellS p0;exact h.dt (r:=by simp[go_sem,execOp,Act.eval,e16,c0]) (m:=h.mem.k)
 ·intro ℓ aq W hl hp h;have e4:aq.tmps.getD 4 undef= .pointer (some ⟨w.heap.size,0,none⟩):=h.at_out 4 rfl;exact h.dt (r:=by simp[go_sem,execOp,Act.eval,e4]) (m:=h.mem.k)
 ·intro ℓ aq W hl hp h;have e18:=h.v hp 2 18;exact h.dt (r:=by simp[go_sem,execOp,Act.eval,e18]) (m:=h.mem.k)
 ·intro ℓ aq W hl hp h;have e19:=h.v hp 3 19;have c0:=h.mem.1.cellS q4;exact h.dt (r:=by simp[go_sem,execOp,Act.eval,e19,c0]) (m:=h.mem.k)
 ·intro ℓ aq W hl hp h;have e1:aq.tmps.getD 1 undef= .int .i64 i:=h.at_out 1 rfl;exact h.dt (r:=by simp[go_sem,execOp,Act.eval,e1]) (m:=h.mem.k)
 ·intro ℓ aq W hl hp h;have e20:=h.v hp 4 20;have e21:=h.v hp 5 21;exact h.dt (r:=by simp[go_sem,execOp,Act.eval,e20,e21,Nat.not_le.2 hi]) (m:=h.mem.k)
 ·intro ℓ aq W hl hp h;have e17:=h.v hp 1 17;have e22:=h.v hp 6 22;refine h.call rfl rfl rfl (by decide) rfl (by decide) (f:=f) (args:= #[.pointer (some ⟨bs,off+i*7,none⟩)]) (by simp[go_sem,execOp,Act.eval,e17,e22,Ei]) ?_;refine(hf _ _ _).mono ?_;rintro e W' ⟨rfl,hE⟩;subst hE;exact⟨.pointer (some ⟨bs,off+i*7+o,none⟩),rfl,(fun v' hv=>YT (YT hv)),h.mem.keep (Ext.rfl' _) rfl⟩
 ·intro ℓ aq W hl hp h;have e23:=h.v hp 7 23;exact h.dt (r:=by simp[go_sem,execOp,Act.eval,e23]) (m:=h.mem.k)
 ·intro ℓ aq W hl hp h;have e24:=h.v hp 8 24;have c0:=h.mem.1.cellS xl;have c1:=h.mem.1.cellS xh;exact h.dt (r:=by simp[go_sem,execOp,Act.eval,e24,c0,c1]) (m:=h.mem.k)
 ·intro ℓ aq W hl hp h;have e9:aq.tmps.getD 9 undef= .pointer (some ⟨w.heap.size+1,0,none⟩):=h.at_out 9 rfl;exact h.dt (r:=by simp[go_sem,execOp,Act.eval,e9]) (m:=h.mem.k)
 ·intro ℓ aq W hl hp h;have e26:=h.v hp 10 26;have c0:=h.mem.1.cellS p0;exact h.dt (r:=by simp[go_sem,execOp,Act.eval,e26,c0]) (m:=h.mem.k)
 ·intro ℓ aq W hl hp h;have e4:aq.tmps.getD 4 undef= .pointer (some ⟨w.heap.size,0,none⟩):=h.at_out 4 rfl;exact h.dt (r:=by simp[go_sem,execOp,Act.eval,e4]) (m:=h.mem.k)
 ·intro ℓ aq W hl hp h;have e28:=h.v hp 12 28;exact h.dt (r:=by simp[go_sem,execOp,Act.eval,e28]) (m:=h.mem.k)
 ·intro ℓ aq W hl hp h;have e29:=h.v hp 13 29;have c0:=h.mem.1.cellS q4;exact h.dt (r:=by simp[go_sem,execOp,Act.eval,e29,c0]) (m:=h.mem.k)
 ·intro ℓ aq W hl hp h;have e2:aq.tmps.getD 2 undef= .int .i64 j:=h.at_out 2 rfl;exact h.dt (r:=by simp[go_sem,execOp,Act.eval,e2]) (m:=h.mem.k)
 ·intro ℓ aq W hl hp h;have e30:=h.v hp 14 30;have e31:=h.v hp 15 31;exact h.dt (r:=by simp[go_sem,execOp,Act.eval,e30,e31,Nat.not_le.2 hj]) (m:=h.mem.k)
 ·intro ℓ aq W hl hp h;have e27:=h.v hp 11 27;have e32:=h.v hp 16 32;refine h.call rfl rfl rfl (by decide) rfl (by decide) (f:=f) (args:= #[.pointer (some ⟨bs,off+j*7,none⟩)]) (by simp[go_sem,execOp,Act.eval,e27,e32,Ei]) ?_;refine(hf _ _ _).mono ?_;rintro e W' ⟨rfl,hE⟩;subst hE;exact⟨.pointer (some ⟨bs,off+j*7+o,none⟩),rfl,(fun v' hv=>YT (YT hv)),h.mem.keep (Ext.rfl' _) rfl⟩
 ·intro ℓ aq W hl hp h;have e33:=h.v hp 17 33;exact h.dt (r:=by simp[go_sem,execOp,Act.eval,e33]) (m:=h.mem.k)
 ·intro ℓ aq W hl hp h;have e34:=h.v hp 18 34;have c0:=h.mem.1.cellS yl;have c1:=h.mem.1.cellS yh;exact h.dt (r:=by simp[go_sem,execOp,Act.eval,e34,c0,c1]) (m:=h.mem.k)
 ·intro ℓ aq W hl hp h;have e9:aq.tmps.getD 9 undef= .pointer (some ⟨w.heap.size+1,0,none⟩):=h.at_out 9 rfl;exact h.dt (r:=by simp[go_sem,execOp,Act.eval,e9]) (m:=h.mem.k)
 ·intro ℓ aq W hl hp h;have e36:=h.v hp 20 36;have c0:=h.mem.1.cellS p1;exact h.dt (r:=by simp[go_sem,execOp,Act.eval,e36,c0]) (m:=h.mem.k)
 ·intro ℓ aq W hl hp h;have e4:aq.tmps.getD 4 undef= .pointer (some ⟨w.heap.size,0,none⟩):=h.at_out 4 rfl;exact h.dt (r:=by simp[go_sem,execOp,Act.eval,e4]) (m:=h.mem.k)
 ·intro ℓ aq W hl hp h;have e38:=h.v hp 22 38;exact h.dt (r:=by simp[go_sem,execOp,Act.eval,e38]) (m:=h.mem.k)
 ·intro ℓ aq W hl hp h;have e39:=h.v hp 23 39;have c0:=h.mem.1.cellS q0;have c1:=h.mem.1.cellS q1;have c2:=h.mem.1.cellS q2;have c3:=h.mem.1.cellS q3;exact h.dt (r:=by simp[go_sem,execOp,Act.eval,e39,c0,c1,c2,c3]) (m:=h.mem.k)
 ·intro ℓ aq W hl hp h;have e37:=h.v hp 21 37;have e40:=h.v hp 24 40;refine h.call rfl rfl rfl (by decide) rfl (by decide) (f:=g) (args:= #[.agg #[.int .i64 a,.int .i64 b,.int .i64 c,.int .i64 m]]) (by simp[go_sem,execOp,Act.eval,e37,e40,hcg]) ?_;refine(hg _).mono ?_;rintro e W' ⟨rfl,hE⟩;exact⟨.int .i64 N,rfl,(fun v' hv=>YT (YT hv)),h.mem.keep hE rfl⟩
 ·intro ℓ aq W hl hp h;exact h.det rfl rfl rfl (by decide) rfl (by decide) (fun v' hv=>by simp at hv) (by simp[go_sem,execOp,Act.eval]) (h.mem.make (c:=⟨26,10,28,#[.int .i64 0,.int .i64 0],#[.int .i64 xa,.int .i64 xb],48⟩) (by simp) rfl hl rfl (by intro e he hs;simp only[List.mem_cons,List.not_mem_nil,or_false] at he;rcases he with rfl|rfl<;>first|exact⟨rfl,rfl,rfl⟩|(simp at hs)))
 ·intro ℓ aq W hl hp h;exact h.det rfl rfl rfl (by decide) rfl (by decide) (fun v' hv=>by simp at hv) (by simp[go_sem,execOp,Act.eval]) (h.mem.make (c:=⟨27,11,29,#[.int .i64 0,.int .i64 0],#[.int .i64 ya,.int .i64 yb],48⟩) (by simp) rfl hl rfl (by intro e he hs;simp only[List.mem_cons,List.not_mem_nil,or_false] at he;rcases he with rfl|rfl<;>first|exact⟨rfl,rfl,rfl⟩|(simp at hs)))
 ·intro ℓ aq W hl hp h;have e25:=h.v hp 9 25;obtain⟨b9,x9,l9,m9⟩:=h.mem.2.1 ⟨26,10,28,#[.int .i64 0,.int .i64 0],#[.int .i64 xa,.int .i64 xb],48⟩ (by simp) (hp 26 (by decide));dsimp only at x9 m9;rw[hl] at m9;replace m9:W.heap[b9]? =some (.cells #[.int .i64 0,.int .i64 0] 48):=m9;have f9:=Z2z (u':= .int .i64 xa) (v':= .int .i64 xb) m9;have g9:=Zc m9;exact h.eff rfl rfl rfl rfl (by simp[go_sem,execOp,Act.eval,x9,g9.1,g9.2.1,g9.2.2.1,g9.2.2.2,e25]) (h.mem.fill (c:=⟨26,10,28,#[.int .i64 0,.int .i64 0],#[.int .i64 xa,.int .i64 xb],48⟩) (by simp) rfl (hp 26 (by decide)) rfl (by intro e he hs;simp only[List.mem_cons,List.not_mem_nil,or_false] at he;rcases he with rfl|rfl<;>first|exact⟨rfl,rfl,rfl⟩|(simp at hs)) x9 f9.2.2.1 f9.2.1 f9.2.2.2.1 f9.2.2.2.2.1 f9.2.2.2.2.2 f9.1)
 ·intro ℓ aq W hl hp h;have e35:=h.v hp 19 35;obtain⟨b9,x9,l9,m9⟩:=h.mem.2.1 ⟨27,11,29,#[.int .i64 0,.int .i64 0],#[.int .i64 ya,.int .i64 yb],48⟩ (by simp) (hp 27 (by decide));dsimp only at x9 m9;rw[hl] at m9;replace m9:W.heap[b9]? =some (.cells #[.int .i64 0,.int .i64 0] 48):=m9;have f9:=Z2z (u':= .int .i64 ya) (v':= .int .i64 yb) m9;have g9:=Zc m9;exact h.eff rfl rfl rfl rfl (by simp[go_sem,execOp,Act.eval,x9,g9.1,g9.2.1,g9.2.2.1,g9.2.2.2,e35]) (h.mem.fill (c:=⟨27,11,29,#[.int .i64 0,.int .i64 0],#[.int .i64 ya,.int .i64 yb],48⟩) (by simp) rfl (hp 27 (by decide)) rfl (by intro e he hs;simp only[List.mem_cons,List.not_mem_nil,or_false] at he;rcases he with rfl|rfl<;>first|exact⟨rfl,rfl,rfl⟩|(simp at hs)) x9 f9.2.2.1 f9.2.1 f9.2.2.2.1 f9.2.2.2.2.1 f9.2.2.2.2.2 f9.1)
 ·intro ℓ aq W hl hp h;have e41:=h.v hp 25 41;exact h.dt (r:=by simp[go_sem,execOp,Act.eval,e41]) (m:=h.mem.k)
 ·intro ℓ aq W Ah h;obtain⟨b0,x0,l0,m0⟩:=h.mem.2.1 ⟨26,10,28,#[.int .i64 0,.int .i64 0],#[.int .i64 xa,.int .i64 xb],48⟩ (by simp) (Ah 26 (by decide));dsimp only at x0 m0;rw[Ah 28 (by decide)] at m0;replace m0:W.heap[b0]? =some (.cells #[.int .i64 xa,.int .i64 xb] 48):=m0;obtain⟨b1,x1,l1,m1⟩:=h.mem.2.1 ⟨27,11,29,#[.int .i64 0,.int .i64 0],#[.int .i64 ya,.int .i64 yb],48⟩ (by simp) (Ah 27 (by decide));dsimp only at x1 m1;rw[Ah 29 (by decide)] at m1;replace m1:W.heap[b1]? =some (.cells #[.int .i64 ya,.int .i64 yb] 48):=m1;have Ba:=h.mem.1;have ea:=Z1z h.defers h.size;simp only[List.range,List.range.loop,List.map] at ea;rw[ea];clear ea;rw[(show aq.tmps.getD 1 undef= .int .i64 i from h.at_out 1 rfl),(show aq.tmps.getD 2 undef= .int .i64 j from h.at_out 2 rfl),(show aq.tmps.getD 4 undef= .pointer (some ⟨w.heap.size,0,none⟩) from h.at_out 4 rfl),(show aq.tmps.getD 9 undef= .pointer (some ⟨w.heap.size+1,0,none⟩) from h.at_out 9 rfl),(show aq.tmps.getD 12 undef= .int .i64 N from h.vals 30 12 _ rfl rfl (Ah 30 (by decide))),x0,x1];iterate 66 generalize aq.tmps.getD _ undef=u
  clear h Ah;have A8:=As.trans Ba;have g0:=Zc m0;have g00:=g0.1;have g01:=g0.2.1;have g1:=Zc m1;have g10:=g1.1;have g11:=g1.2.1;clear g0 g1;go_wp2
  all_goals
   go_ret;refine⟨ZK ?_,A8⟩;have HH:=H.out;simp only[Z2Q] at HH;rw[HH]
   (split<;>try split)
   all_goals first|rfl|(exfalso;simp at*;omega)
theorem Zae(a b c m:Int)(bs off n cap:Nat)(x y:Sf)(i j:Nat)(w:World)(hM:Meas w)(D5:bs<w.heap.size)(hi:i<n)(hj:j<n)(hn:n<=20)
 (hx:ShaftAt w bs (off+i*7) x)(hy:ShaftAt w bs (off+j*7) y)(hN:0<=a/\a<=9999)(ox:ZF (spA x 0)=true)(oy:ZF (spA y 0)=true):
 Calls prog 143 #[.agg #[.int .i64 a,.int .i64 b,.int .i64 c,.int .i64 m,.slice (some ⟨bs,off,none⟩) n cap],.int .i64 i,.int .i64 j,.int .i64 0] w fun e w'=>e= .returned (.int .i64 (Z1m a b c x y 0))/\Ext w w':=
 Z4Y a b c m a bs off n cap 0 211 212 1 x.a0 x.a1 y.a0 y.a1 i j w (by omega) D5 hi hj hn (hM 0 (by omega)) (hM 1 (by omega)) Z7o (Z7r a b c m) call211 call212 hx.k1 hx.k2 hy.k1 hy.k2 hN (Z0j ox).1 (Z0j ox).2.1 (Z0j ox).2.2 (Z0j oy).1 (Z0j oy).2.1 (Z0j oy).2.2
theorem Zaf(a b c m:Int)(bs off n cap:Nat)(x y:Sf)(i j:Nat)(w:World)(hM:Meas w)(D5:bs<w.heap.size)(hi:i<n)(hj:j<n)(hn:n<=20)
 (hx:ShaftAt w bs (off+i*7) x)(hy:ShaftAt w bs (off+j*7) y)(hN:0<=b/\b<=9999)(ox:ZF (spA x 1)=true)(oy:ZF (spA y 1)=true):
 Calls prog 143 #[.agg #[.int .i64 a,.int .i64 b,.int .i64 c,.int .i64 m,.slice (some ⟨bs,off,none⟩) n cap],.int .i64 i,.int .i64 j,.int .i64 1] w fun e w'=>e= .returned (.int .i64 (Z1m a b c x y 1))/\Ext w w':=
 Z4Y a b c m b bs off n cap 1 213 214 3 x.b0 x.b1 y.b0 y.b1 i j w (by omega) D5 hi hj hn (hM 2 (by omega)) (hM 3 (by omega)) Z7p (Z7s a b c m) call213 call214 hx.k3 hx.k4 hy.k3 hy.k4 hN (Z0j ox).1 (Z0j ox).2.1 (Z0j ox).2.2 (Z0j oy).1 (Z0j oy).2.1 (Z0j oy).2.2
theorem Zag(a b c m:Int)(bs off n cap:Nat)(x y:Sf)(i j:Nat)(w:World)(hM:Meas w)(D5:bs<w.heap.size)(hi:i<n)(hj:j<n)(hn:n<=20)
 (hx:ShaftAt w bs (off+i*7) x)(hy:ShaftAt w bs (off+j*7) y)(hN:0<=c/\c<=9999)(ox:ZF (spA x 2)=true)(oy:ZF (spA y 2)=true):
 Calls prog 143 #[.agg #[.int .i64 a,.int .i64 b,.int .i64 c,.int .i64 m,.slice (some ⟨bs,off,none⟩) n cap],.int .i64 i,.int .i64 j,.int .i64 2] w fun e w'=>e= .returned (.int .i64 (Z1m a b c x y 2))/\Ext w w':=
 Z4Y a b c m c bs off n cap 2 215 216 5 x.c0 x.c1 y.c0 y.c1 i j w (by omega) D5 hi hj hn (hM 4 (by omega)) (hM 5 (by omega)) Z7q (Z7t a b c m) call215 call216 hx.k5 hx.k6 hy.k5 hy.k6 hN (Z0j ox).1 (Z0j ox).2.1 (Z0j ox).2.2 (Z0j oy).1 (Z0j oy).2.1 (Z0j oy).2.2
end Go.Proofs.Tryq
