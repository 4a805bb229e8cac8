import Derived.Test.YthahddndgbpooaaGreatDoorNkA
import Derived.Test.YthahddndgbpooaaGreatDoorNk20
import Derived.Deep.RegionHeld3
import Derived.LaidOnce
import Derived.Lay
import Derived.SevenTiedAt
import Derived.Test.YthahddndgbpooaaGreatDoorCards
import Derived.Test.YthahddndgbpooaaGreatDoorTie
set_option linter.all false
set_option maxRecDepth 100000
set_option maxHeartbeats 4000000
open Go
variable {a:Act}{ops:Array Oper}{fn:Func}{f:FuncId}{b i n:Nat}{ℓ:Nat->Bool}{o:Oper}{P:Program}{d:Tmp}{t:TypeId}{u u' v':Value}{W w w' w1:World}
namespace Go.Proofs.Tryq
section
open Go Go.Nk Go.RowKit Go.ChangeShapes Go.WideShapes Go.ChangeAt Go.Conc
attribute [local instance] theBan
theorem own:ownKnob Tryz.prog.godebug=none:=by kernel_rfl
theorem laidOut:laidOutB Tryz.prog=true:=by kernel_rfl
noncomputable def w00(os:Os):World:=
 let w0:=World.holding Tryz.prog os ⟨#[],#[],[]⟩
 {w0 with heap:=(w0.heap.modify 0 fun
   | .cells _ t frozen=> .cells #[.iface (((Tryz.prog.cutTypes.find? (·.1== "internal/reflectlite.rtype")).map (·.2)).getD 0) (.agg #[typeHandle Tryz.prog 91])] t frozen
   |o=>o).modify 2 fun
   | .cells _ t frozen=> .cells #[.func (.func 279) #[] #[],.func (.func 280) #[] #[],.func (.func 281) #[] #[],.func (.func 282) #[] #[],.func (.func 283) #[] #[],.func (.func 284) #[] #[]] t frozen
   |o=>o}
def laidP:List (String×DataW Unit):=laidL.filter λx=>x.2.handleName?.isNone
noncomputable def ZqA(os:Os):World:=(w00 os).layVars Tryz.prog laidP
theorem ZpZ(os:Os):laidMet Tryz.prog laidP (ZqA os):=by
 have e1:(laidP.filter λx=>(laidP.map (·.1)).contains x.1)=laidP:=List.filter_eq_self.2 λx hx=>VH.2 (VD.2 ⟨x,hx,rfl⟩)
 have e2:(laidP.filter λx=> !(laidP.map (·.1)).contains x.1)=[]:=List.filter_eq_nil_iff.2 λx hx=>by rw[VH.2 (VD.2 ⟨x,hx,rfl⟩)];simp
 exact laidMet_layVars (w0:=w00 os) (laidP.map (·.1)) [] (by rw[e1];rfl) (by rw[e1];kernel_rfl) (by rw[e1];kernel_rfl) (by rw[e2];exact LaidIn.none)
theorem Z7C(os:Os)(args:Array Value):laidMetH Tryz.prog laidL ((ZqA os).forCall (λ_ _=>0) ⟨#[],args,[]⟩).memory:=
 laidMetH_of_parts3 (fuel:=8) ((ZpZ os).of_heap (by simp[World.memory,World.forCall,Input.heap])) (by kernel_rfl) (by kernel_rfl)
theorem Z3F(os:Os)(args:Array Value):((ZqA os).forCall (λ_ _=>0) ⟨#[],args,[]⟩).Shaped Tryz.prog:=World.shaped_of_ZipB (by kernel_rfl) (by kernel_rfl)
theorem rows4:((List.range 12).all λg=>(((begin Tryz.prog (λ_ _=>0) default).world.heap[g]?).bind Obj.row?).isSome)=true:=by kernel_rfl
theorem Z8v(h:W.ShapedOpen Tryz.prog):∀g,g<12->Z1s W g=true:=by
 intro g hg;have h1:=YL.1 rows4 g (YU.2 hg);obtain⟨⟨zero,t⟩,hz⟩:=Option.isSome_iff_exists.1 h1;obtain⟨cs,hc,_⟩:=h.1 g zero t (by rw[globals4];exact hg) hz;exact Z9A.2 ⟨_,_,_,hc⟩
theorem Z4e{H:Type}{enc:TypeId×Value->H}{os:Os}{s:ChangeSpec}{ts:List TypeId}(started:os.Started)(hfn:Tryz.prog.funcs[f]? =some fn)
 (S8:fn.params.toList=ts)(hn:ts.length=n)(hv:s.vars=[])(I4:fn.resultTypes= #[4])(hs:∀ds:List (DataW H),ds.length=n->s.fn H ds={results:=[.lit (.bool true)],args:=ds})
 (S9:(ts.all λt=>Tryz.prog.readableRec t&&decide (t<Tryz.prog.types.size))=true)
 (witness:∃(w:World)(tape:Tape)(i:Input),w.os=os/\(w.forCall tape i).Shaped Tryz.prog/\i.vars=[]/\Input.okWide Tryz.prog (w.forCall tape i) .any w.heap.size f i/\
   ((s.pre enc Tryz.prog fn [] false (w.forCall tape i).memory i.args/\laidMetH Tryz.prog laidL (w.forCall tape i).memory)/\sizedMet enc Tryz.prog fn (OpenSpec.ofChange s) false (w.forCall tape i).memory i.args)/\({}:Assume).holds Tryz.prog (lone (Frame.enter Tryz.prog f i.args .normal) [] (w.forCall tape i)))
 (run:∀(W:World)(base:Nat)(args:Array Value)(ds:List (DataW H))(p:List MemPlace),(∀(j:Nat) t v,fn.params[j]? =some t->args[j]? =some v->Value.okWide Tryz.prog W .any base t v)->DataW.TrodAll enc Tryz.prog W 0 (λ_=>true) true ts args.toList ds p->
   laidMetH Tryz.prog laidL W->(∀g,g<12->Z1s W g=true)->12<=W.heap.size->W.ShapedOpen Tryz.prog->∃N last o w' t',runNT Tryz.prog (N+1) (Go.Conc.solo (G (Frame.enter Tryz.prog f args .normal) []) W) #[]=(.ended o w',t')/\runN Tryz.prog N (Go.Conc.solo (G (Frame.enter Tryz.prog f args .normal) []) W)= .next last/\step Tryz.prog last= .ended o w'/\
    Conc.Good Tryz.prog (λv w'=>v= .bool true/\Below W.heap.size W w') last o w' t'):
 ReturnsInLeavingWide {} Tryz.checked os f .any (λw args=>(s.pre enc Tryz.prog fn [] false w args/\laidMetH Tryz.prog laidL w)/\sizedMet enc Tryz.prog fn (OpenSpec.ofChange s) false w args) (s.post enc Tryz.prog fn false true false false):=by
 refine Z3E (C:=Tryz.checked) own started hfn witness ?_;intro W base args ds gs before Bz H9 hW hL;have hW':=hW;obtain⟨p,q,Ha,hV,rfl,_,_⟩:=hW;rw[hv] at hV;obtain⟨rfl,rfl⟩:=trodVars_none hV;have hA:DataW.TrodAll enc Tryz.prog W 0 (λ_=>true) true ts args.toList ds p:=by rw[<-S8];exact Ha
 have Af:=Z8v Bz;have h4:12<=W.heap.size:=by
  obtain⟨_,_,_,h⟩:=Z9A.1 (Af 11 (by omega));exact(YF.1 h).1
 obtain⟨M,last,o,w',t',h1,h2,h3,h5⟩:=run W base args ds p H9 hA hL Af h4 Bz;refine⟨M,last,o,w',t',h1,h2,h3,h5.mono λv hp=> ?_⟩;obtain⟨rfl,hb⟩:=hp;have A3:∀x∈p++[],x.block<W.heap.size:=λx hx=>hW'.lt x hx
 simp only[UQ] at A3;have Xl:ds.length=n:=by
  rw[<-hn];have key:∀{ts:List TypeId}{vs:List Value}{ds:List (DataW H)}{p:List MemPlace},DataW.TrodAll enc Tryz.prog W 0 (λ_=>true) true ts vs ds p->ds.length=ts.length:=by
   intro ts
   induction ts with
   |nil=>intro vs ds p h;cases vs<;>cases ds<;>first|rfl|exact h.elim
   |cons t ts ih=>
    intro vs ds p h;cases vs<;>cases ds<;>first|exact h.elim|skip
    obtain⟨_,_,_,h2,_⟩:=h;simp[ih h2]
  exact key hA
 refine⟨ds,[],p++[],[],p,[],hW',?_,?_,?_,hb.frame _,λh=>by cases h⟩
 ·rw[UQ,hs ds Xl,I4];exact trodAll_mk1 (shut_bool under4 true)
 ·rw[UQ,hs ds Xl];have:=Z4X laidOut hb S9 hA A3;rw[<-S8] at this;exact this
 ·rw[UQ,hs ds Xl,hv];rfl
theorem Zac(Lk:Looks){p:Pinned}{s:OpenSpec}{c:OpenClaim}(kinds:List LaidKind)(tests:Bool)(har:Bool×String)(lk:Bool)
 (hc:c.holds p s)(hw:c.wfByText s=true)(Xm:c.laidByTextAt Lk p kinds tests)
 (Ai:c.start= .entering)(hnb:c.noBlocks=false/\c.again=false)(hm:p.checked.prog.mainIs=some (har.1,har.2.toList))(hn:(!har.1&&har.2.isEmpty&& !lk)=false)
 (hl:∀f fn,p.checked.prog.funcNamed c.func=some f->p.checked.prog.funcs[f]? =some fn->lk=p.checked.prog.looks []/\∀(j:Nat) t,fn.params[j]? =some t->p.checked.prog.wantsStandIn t=false)
 (hg:true=c.goesBy p.checked.prog):
 Claim7.holds p (.plain s) {stood:={row:=c,standIns:=[],harness:=har,looks:=lk},kinds:=[],alts:=[],goes:=true,laidByText:=true,laidKinds:=kinds,laidTests:=tests,laidLooks:=Lk}:=by
 have h6:∀r:OpenClaim,Claim7.isSixth {stood:={row:=r,standIns:=[],harness:=har,looks:=lk},kinds:=[]}=false:=λr=>by simpa[Claim7.isSixth] using hn
 exact⟨Claim7.tied_new_at Lk kinds tests (Claim7.new_of_sixth hc har lk Ai hnb hm (h6 c) hl) hw,(λD hD=>by cases hD),Xm,(λh=>by cases h),hg⟩
end
section
open Go Go.Nk Go.RowKit
theorem ZbP(a b c m:Int)(base:Option Addr)(n cap:Nat)(L:List Sf)(w:World)(A1:L.length=n)(hM:Meas w)(hS:RawA w base L)(s:Nat)(hb:w.heap[s]? =some (.cells #[a,b,c,m,.slice base n cap] 26)):
 Calls prog 100 #[.pointer (some ⟨s,0,none⟩)] w λe w'=>e= .returned (.int .i64 (Zp a b c m L))/\Ext w w':=by
 have B3:=Z24 a b c m base n cap L w A1 hM hS;have q0:=Z0 hb 0;have q1:=Z0 hb 1;have q2:=Z0 hb 2;have q3:=Z0 hb 3;have q4:=Z0 hb 4;simp only[YC,YA,YB] at q0 q1 q2 q3 q4;go_enter fk Tryz.func100,Tryz.ntmps100;go_wp2_with (first|(go_at_call 36;refine B3.mono ?_;rintro e w2 ⟨rfl,A4⟩));go_ret;exact⟨rfl,A4⟩
theorem ZbQ(a b c m:Int)(base:Option Addr)(n cap:Nat)(bl:Option Addr)(k cl:Nat)(l:List Int)(w:World)(hn:n<=20)(hk:l.length=k)(Az:k<=100)(hl:RawI w bl l)(s t:Nat)
 (hs:w.heap[s]? =some (.cells #[.func (.func 99) #[.agg #[a,b,c,m,.slice base n cap]] #[]] 176))(ht:w.heap[t]? =some (.cells #[.slice bl k cl] 57)):
 Calls prog 101 #[.pointer (some ⟨s,0,none⟩),.pointer (some ⟨t,0,none⟩)] w λe w'=>e= .returned (.int .i64 (Zq n l))/\Ext w w':=by
 have B3:=Z9y a b c m base n cap bl k cl l w hn hk Az hl;have q0:=Z0 hs 0;have q1:=Z0 ht 0;simp only[YC,YA,YB] at q0 q1;go_enter fk Tryz.func101,Tryz.ntmps101;go_wp2_with (first|(go_at_call 99;refine B3.mono ?_;rintro e w2 ⟨rfl,A4⟩));go_ret;exact⟨rfl,A4⟩
def Zo(a b c m:Int)(L:List Sf)(l:List Int):Int:=firstV [Zp a b c m L,Zq L.length l]
theorem Z3c(a b c m:Int)(base:Option Addr)(n cap:Nat)(L:List Sf)(bl:Option Addr)(k cl:Nat)(l:List Int)(w:World)(A1:L.length=n)(hn:n<=20)(hk:l.length=k)(Az:k<=100)(hM:Meas w)(hS:RawA w base L)(hl:RawI w bl l):
 Calls prog 55 #[.agg #[a,b,c,m,.slice base n cap],.slice bl k cl] w λe w'=>e= .returned (.tuple #[.agg #[a,b,c,m,.slice base n cap],.int .i64 (Zo a b c m L l)])/\Ext w w':=by
 have Ab:Ext w (((((w.alloc (.cells #[a,b,c,m,.slice base n cap] 26)).alloc (.cells #[.slice bl k cl] 57)).alloc (.cells #[.int .i64 0,.int .i64 0,.int .i64 0,.int .i64 0,.slice none 0 0] 117)).alloc (.cells #[a,b,c,m,.slice base n cap] 117)).alloc (.cells #[.func (.func 99) #[.agg #[a,b,c,m,.slice base n cap]] #[]] 176)):=((((((Ext.rfl' w).alloc _).alloc _).alloc _).alloc _).alloc _);have h0:(((((w.alloc (.cells #[a,b,c,m,.slice base n cap] 26)).alloc (.cells #[.slice bl k cl] 57)).alloc (.cells #[.int .i64 0,.int .i64 0,.int .i64 0,.int .i64 0,.slice none 0 0] 117)).alloc (.cells #[a,b,c,m,.slice base n cap] 117)).alloc (.cells #[.func (.func 99) #[.agg #[a,b,c,m,.slice base n cap]] #[]] 176)).heap[w.heap.size]? =some (.cells #[a,b,c,m,.slice base n cap] 26):=by
  simp only[Z3,Z2];rw[XA (by omega),XA (by omega),XA (by omega),XA (by omega),YZ trivial]
 have h1:(((((w.alloc (.cells #[a,b,c,m,.slice base n cap] 26)).alloc (.cells #[.slice bl k cl] 57)).alloc (.cells #[.int .i64 0,.int .i64 0,.int .i64 0,.int .i64 0,.slice none 0 0] 117)).alloc (.cells #[a,b,c,m,.slice base n cap] 117)).alloc (.cells #[.func (.func 99) #[.agg #[a,b,c,m,.slice base n cap]] #[]] 176)).heap[w.heap.size+1]? =some (.cells #[.slice bl k cl] 57):=by
  simp only[Z3,Z2];rw[XA (by omega),XA (by omega),XA (by omega),YZ trivial]
 have h2:(((((w.alloc (.cells #[a,b,c,m,.slice base n cap] 26)).alloc (.cells #[.slice bl k cl] 57)).alloc (.cells #[.int .i64 0,.int .i64 0,.int .i64 0,.int .i64 0,.slice none 0 0] 117)).alloc (.cells #[a,b,c,m,.slice base n cap] 117)).alloc (.cells #[.func (.func 99) #[.agg #[a,b,c,m,.slice base n cap]] #[]] 176)).heap[w.heap.size+1+1]? =some (.cells #[.int .i64 0,.int .i64 0,.int .i64 0,.int .i64 0,.slice none 0 0] 117):=by
  simp only[Z3,Z2];rw[XA (by omega),XA (by omega),YZ trivial]
 have h3:(((((w.alloc (.cells #[a,b,c,m,.slice base n cap] 26)).alloc (.cells #[.slice bl k cl] 57)).alloc (.cells #[.int .i64 0,.int .i64 0,.int .i64 0,.int .i64 0,.slice none 0 0] 117)).alloc (.cells #[a,b,c,m,.slice base n cap] 117)).alloc (.cells #[.func (.func 99) #[.agg #[a,b,c,m,.slice base n cap]] #[]] 176)).heap[w.heap.size+1+1+1]? =some (.cells #[a,b,c,m,.slice base n cap] 117):=by
  simp only[Z3,Z2];rw[XA (by omega),YZ trivial]
 have h4:(((((w.alloc (.cells #[a,b,c,m,.slice base n cap] 26)).alloc (.cells #[.slice bl k cl] 57)).alloc (.cells #[.int .i64 0,.int .i64 0,.int .i64 0,.int .i64 0,.slice none 0 0] 117)).alloc (.cells #[a,b,c,m,.slice base n cap] 117)).alloc (.cells #[.func (.func 99) #[.agg #[a,b,c,m,.slice base n cap]] #[]] 176)).heap[w.heap.size+1+1+1+1]? =some (.cells #[.func (.func 99) #[.agg #[a,b,c,m,.slice base n cap]] #[]] 176):=by
  simp only[Z3,Z2];rw[YZ trivial]
 have Ev:∀w1,Ext w w1->w1.heap[w.heap.size]? =some (.cells #[a,b,c,m,.slice base n cap] 26)->w1.heap[w.heap.size+1]? =some (.cells #[.slice bl k cl] 57)->w1.heap[w.heap.size+1+1+1+1]? =some (.cells #[.func (.func 99) #[.agg #[a,b,c,m,.slice base n cap]] #[]] 176)->∀(W:World)(g:Nat),Ext w1 W->W.heap[g]? =some (.cells #[.func (.func 100) #[] #[.pointer (some ⟨w.heap.size,0,none⟩)],.func (.func 101) #[] #[.pointer (some ⟨w.heap.size+1+1+1+1,0,none⟩),.pointer (some ⟨w.heap.size+1,0,none⟩)]] 129)->
  Calls prog 61 #[.slice (some ⟨g,0,none⟩) 2 2] W λe w'=>e= .returned (.int .i64 (Zo a b c m L l))/\Ext W w':=by
  intro w1 Ab h0 h1 h4 W g Bf hf;rw[show Zo a b c m L l=firstV [Zp a b c m L,Zq n l] by rw[Zo,A1]];refine Z1S g 2 2 (λi=>if i=0 then 100 else 101) (λi=> #[]) (λi=>if i=0 then #[.pointer (some ⟨w.heap.size,0,none⟩)] else #[.pointer (some ⟨w.heap.size+1+1+1+1,0,none⟩),.pointer (some ⟨w.heap.size+1,0,none⟩)]) [Zp a b c m L,Zq n l] rfl (by omega) W ?_ ?_ ?_
  ·intro i hi;rw[Z0 hf];obtain rfl|rfl:i=0\/i=1:=by omega
   ·rfl
   ·rfl
  ·intro i hi args w';obtain rfl|rfl:i=0\/i=1:=by omega
   ·simp[go_sem]
   ·simp[go_sem]
  ·intro i x hx w' hE';have Ah:=Bf.trans hE'
   match i,hx with
   |0,hx=>
    obtain rfl:=YT hx;exact ZbP a b c m base n cap L w' A1 (hM.ext (Ab.trans Ah)) (hS.ext (Ab.trans Ah)) _ (Ah.get h0)
   |1,hx=>
    obtain rfl:=YT hx;exact ZbQ a b c m base n cap bl k cl l w' hn hk Az (hl.ext (Ab.trans Ah)) _ _ (Ah.get h4) (Ah.get h1)
 generalize Zo a b c m L l=f at Ev⊢;go_enter fk Tryz.func55,Tryz.ntmps55;go_wp2;generalize World.alloc _ (.cells #[.func (.func 99) #[.agg #[a,b,c,m,.slice base n cap]] #[]] 176)=w1 at Ab h0 h1 h2 h3 h4⊢;have D8:=Ev w1 Ab h0 h1 h4;clear Ev;have q0:=Z0 h3 0;have q1:=Z0 h3 1;have q2:=Z0 h3 2;have q3:=Z0 h3 3;have q4:=Z0 h3 4;simp only[YC,YA,YB] at q0 q1 q2 q3 q4;have z0:=Z8 h2 0;have z1:=Z8 h2 1;have z2:=Z8 h2 2;have z3:=Z8 h2 3;have z4:=Z8 h2 4;have y0:=Z0 h2 0;have y1:=Z0 h2 1;have y2:=Z0 h2 2;have y3:=Z0 h2 3;have y4:=Z0 h2 4;simp only[YC,YA,YB] at y0 y1 y2 y3 y4;have A9:¬w.heap.size+1+1=w.heap.size+1+1+1:=by omega
 go_region_held3 (λw'=>w'.cell? ⟨w.heap.size+1+1+1,0,none⟩=some (.int .i64 a)/\w'.cell? ⟨w.heap.size+1+1+1,1,none⟩=some (.int .i64 b)/\w'.cell? ⟨w.heap.size+1+1+1,2,none⟩=some (.int .i64 c)/\w'.cell? ⟨w.heap.size+1+1+1,3,none⟩=some (.int .i64 m)/\w'.cell? ⟨w.heap.size+1+1+1,4,none⟩=some (.slice base n cap)) (go_keep) (first
  |(go_at_call 61;refine(D8 _ _ (by(repeat (with_reducible first|assumption|exact Ext.rfl' _|apply Ext.alloc|apply Ext.drew))) (by exact(Z3 _ _ _).trans (YZ rfl))).mono ?_;rintro e w2 ⟨rfl,A4⟩
    have Ah:Ext w1 w2:=Ext.trans (by(repeat (with_reducible first|assumption|exact Ext.rfl' _|apply Ext.alloc|apply Ext.drew))) A4;have g2:=Ah.get h2;have z0:=Z8 g2 0;have z1:=Z8 g2 1;have z2:=Z8 g2 2;have z3:=Z8 g2 3;have z4:=Z8 g2 4;have y0:=Z0 g2 0;have y1:=Z0 g2 1;have y2:=Z0 g2 2;have y3:=Z0 g2 3;have y4:=Z0 g2 4;simp only[YC,YA,YB] at y0 y1 y2 y3 y4;have p0:=Ah.cellS q0;have p1:=Ah.cellS q1;have p2:=Ah.cellS q2;have p3:=Ah.cellS q3;have p4:=Ah.cellS q4))
 all_goals
  go_wp2;have hw:w.heap.size<=w.heap.size+1+1:=by omega
  have C2:=Zb (Zb (Zb (Zb (Zb g2 (i:=0) (.int .i64 a)) (i:=1) (.int .i64 b)) (i:=2) (.int .i64 c)) (i:=3) (.int .i64 m)) (i:=4) (.slice base n cap);have s0:=Z0 C2 0;have s1:=Z0 C2 1;have s2:=Z0 C2 2;have s3:=Z0 C2 3;have s4:=Z0 C2 4;simp at s0 s1 s2 s3 s4;refine VE (v:= .tuple #[.agg #[a,b,c,m,.slice base n cap],f]) ((Z01 rfl _ _ _).trans ?_) rfl ⟨rfl,(((((Ab.trans Ah).setCell _ _ hw).setCell _ _ hw).setCell _ _ hw).setCell _ _ hw).setCell _ _ hw⟩;simp[go_sem,s0,s1,s2,s3,s4]
end
end Go.Proofs.Tryq
section
namespace Go.Nk
open Go Go.Region
open Go.Proofs.Tryq (Ext Z3 Z2)
variable {Q:Exit->Act->World->Prop}
theorem Z03{id:Nat}(hm:P.follows .mixedOrders=true)(he:Zdr ops=true)(I:(Nat->Bool)->Act->World->Prop)(h0:I (λ_=>false) a w.drew)
 (step:∀i o,ops[i]? =some o->∀ℓ a w,ℓ i=false->(∀k∈ahead o,ℓ k=true)->I ℓ a w->wpOp P ops Q i (λa' w'=>I (upd ℓ i) a' w') a w)
 (fin:∀ℓ a w,(∀i,i<ops.size->ℓ i=true)->I ℓ a w->Q .normal a w):(Code.region id ops true).wp P Q a w:=by
 refine wp_region_any hm (Zad he I step fin ops.size _ a _ (by simp) ?_ ?_)
 ·have:=List.countP_le_length (p:=λi=> !(Array.replicate ops.size false).getD i false) (l:=List.range ops.size);simpa using this
 ·have e:(λj=>(Array.replicate ops.size false).getD j false)=λ_=>false:=by
   funext j;simp only[Array.getD_eq_getD_getElem?,Array.getElem?_replicate];split<;>rfl
  rw[e];exact h0
def AllIx{α:Type}(p:Nat->α->Prop):Nat->List α->Prop
 |_,[]=>True
 |k,x::l=>p k x/\AllIx p (k+1) l
theorem AllIx.get{α:Type}{p:Nat->α->Prop}:∀{l:List α}{k:Nat},AllIx p k l->∀i x,l[i]? =some x->p (k+i) x
 |[],_,_,i,x,h=>by simp at h
 |y::l,k,⟨h1,h2⟩,i,x,h=>by
  cases i with
  |zero=>simp at h;subst h;exact h1
  |succ i=>
   have:=h2.get i x (by simpa using h);rw[show k+(i+1)=k+1+i by omega];exact this
theorem Zds{v:Value}(h:d<a.tmps.size)(t:Tmp):(a.put (some d) v).tmps.getD t undef=if t=d then v else a.tmps.getD t undef:=by
 have e:(a.put (some d) v).tmps=a.tmps.setIfInBounds d v:=rfl;rw[e];simp only[Array.getD_eq_getD_getElem?,Array.getElem?_setIfInBounds];by_cases hd:d=t
 ·subst hd;simp[h]
 ·rw[XA hd,XA (λe=>hd e.symm)]
theorem Z7x(a:Act)(d:Option Tmp)(v:Value):(a.put d v).tmps.size=a.tmps.size:=by
 cases d with
 |none=>rfl
 |some d=>simp[Act.put]
theorem put_defers(a:Act)(d:Option Tmp)(v:Value):(a.put d v).defers=a.defers:=by
 cases d<;>rfl
structure RI(n:Nat)(Dl:List (Option Tmp))(S:List (Option Value))(L0:Tmp->Value)(M:(Nat->Bool)->(Tmp->Value)->World->Prop)(ℓ:Nat->Bool)(a:Act)(w:World):Prop where
 defers:a.defers=[]
 size:a.tmps.size=n
 vals:∀i t v,Dl[i]? =some (some t)->S[i]? =some (some v)->ℓ i=true->a.tmps.getD t undef=v
 out:∀t,(∀i,Dl[i]? =some (some t)->ℓ i=false)->a.tmps.getD t undef=L0 t
 mem:M ℓ (λt=>a.tmps.getD t undef) w
variable {Dl:List (Option Tmp)}{S:List (Option Value)}{L0:Tmp->Value}{M:(Nat->Bool)->(Tmp->Value)->World->Prop}
theorem RI.start(hd:a.defers=[])(hs:a.tmps.size=n)(hM:M (λ_=>false) (λt=>a.tmps.getD t undef) w):RI n Dl S (λt=>a.tmps.getD t undef) M (λ_=>false) a w:=
 ⟨hd,hs,λ_ _ _ _ _ h=>(by cases h),λ_ _=>rfl,hM⟩
theorem apart_of:∀{Dl:List (Option Tmp)},(Dl.filterMap id).Nodup->∀{i j:Nat}{t:Tmp},Dl[i]? =some (some t)->Dl[j]? =some (some t)->i=j
 |[],_,i,j,t,h,_=>by simp at h
 |x::l,hn,i,j,t,h1,h2=>by
  cases x with
  |none=>
   have hn':(l.filterMap id).Nodup:=hn;cases i with
   |zero=>simp at h1
   |succ i=>
    cases j with
    |zero=>simp at h2
    |succ j=>rw[apart_of hn' (i:=i) (j:=j) (t:=t) (by simpa using h1) (by simpa using h2)]
  |some x=>
   have hn':(x::l.filterMap id).Nodup:=hn;rw[List.nodup_cons] at hn';have Ca:∀{i:Nat},l[i]? =some (some x)->x∈l.filterMap id:=fun{i} h=>List.mem_filterMap.2 ⟨some x,YQ h,rfl⟩
   cases i with
   |zero=>
    simp at h1;subst h1;cases j with
    |zero=>rfl
    |succ j=>exact absurd (Ca (i:=j) (by simpa using h2)) hn'.1
   |succ i=>
    cases j with
    |zero=>
     simp at h2;subst h2;exact absurd (Ca (i:=i) (by simpa using h1)) hn'.1
    |succ j=>rw[apart_of hn'.2 (i:=i) (j:=j) (t:=t) (by simpa using h1) (by simpa using h2)]
theorem RI.put(h:RI n Dl S L0 M ℓ a w){d:Tmp}(hn:(Dl.filterMap id).Nodup)(hi:Dl[i]? =some (some d))(A3:d<n){v:Value}(hS:∀v',S[i]? =some (some v')->v=v')
 (hM:M (upd ℓ i) (λt=>if t=d then v else a.tmps.getD t undef) w'):RI n Dl S L0 M (upd ℓ i) (a.put (some d) v) w':=by
 have hg:=Zds (a:=a) (v:=v) (by rw[h.size];exact A3);refine⟨by rw[put_defers];exact h.defers,by rw[Z7x];exact h.size,?_,?_,?_⟩
 ·intro j t v' hj hv hl;rw[hg];split
  ·rename_i e;subst e;have:=apart_of hn hi hj;subst this;exact hS v' hv
  ·rename_i e;refine h.vals j t v' hj hv ?_;rw[upd_ne] at hl
   ·exact hl
   ·rintro rfl;rw[hi] at hj;simp at hj;exact e hj.symm
 ·intro t ht;rw[hg];split
  ·rename_i e;subst e;have:=ht i hi;rw[Z0k] at this;cases this
  ·refine h.out t λj hj=> ?_
   have A9:j≠i:=by
    rintro rfl;have:=ht j hj;rw[Z0k] at this;cases this
   have:=ht j hj
   rwa [upd_ne A9] at this
 ·have e:(λt=>(a.put (some d) v).tmps.getD t undef)=λt=>if t=d then v else a.tmps.getD t undef:=funext hg
  rw[e];exact hM
theorem RI.skip(h:RI n Dl S L0 M ℓ a w)(hi:Dl[i]? =some none)(hM:M (upd ℓ i) (λt=>a.tmps.getD t undef) w'):RI n Dl S L0 M (upd ℓ i) a w':=by
 refine⟨h.defers,h.size,?_,?_,hM⟩
 ·intro j t v' hj hv hl;refine h.vals j t v' hj hv ?_;rw[upd_ne] at hl
  ·exact hl
  ·rintro rfl;rw[hi] at hj;cases hj
 ·intro t ht;refine h.out t λj hj=> ?_
  have A9:j≠i:=by rintro rfl;rw[hi] at hj;cases hj
  have:=ht j hj
  rwa [upd_ne A9] at this
theorem Z3H{K:Act->World->Prop}(ho:ops[i]? =some o)(hg:o.guard=none)(h:o.wp P a w K Q):wpOp P ops Q i K a w:=by
 unfold wpOp;simp only[ho,Region.wanted,hg,XQ];exact .inl h
theorem RI.det(h:RI n Dl S L0 M ℓ a w)(ho:ops[i]? =some o)(hg:o.guard=none){d:Tmp}(hd:o.dst=some d)(hn:(Dl.filterMap id).Nodup)(hi:Dl[i]? =some (some d))(A3:d<n){v:Value}(hS:∀v',S[i]? =some (some v')->v=v')
 (Aj:(execOp a.eval o).run P w= .ok (.value v) w')(hM:M (upd ℓ i) (λt=>if t=d then v else a.tmps.getD t undef) w'):wpOp P ops Q i (λa' w'=>RI n Dl S L0 M (upd ℓ i) a' w') a w:=by
 refine Z3H ho hg ?_;unfold Oper.wp;rw[Aj,QZ,hd];exact h.put hn hi A3 hS hM
theorem RI.v(h:RI n Dl S L0 M ℓ a w){A:List Nat}(hp:∀k∈A,ℓ k=true)(i t:Nat){v:Value}(h1:Dl[i]? =some (some t):=by rfl)(h2:S[i]? =some (some v):=by rfl)(h3:i∈A:=by decide):a.tmps.getD t undef=v:=h.vals i t v h1 h2 (hp i h3)
theorem RI.dt(h:RI n Dl S L0 M ℓ a w)(ho:ops[i]? =some o:=by rfl)(hg:o.guard=none:=by rfl){d:Tmp}(hd:o.dst=some d:=by rfl)(hn:(Dl.filterMap id).Nodup:=by decide)(hi:Dl[i]? =some (some d):=by rfl)(A3:d<n:=by decide){v:Value}(hS:S[i]? =some (some v):=by rfl)
 (r:(execOp a.eval o).run P w= .ok (.value v) w')(m:M (upd ℓ i) (λt=>if t=d then v else a.tmps.getD t undef) w'):wpOp P ops Q i (λa' w'=>RI n Dl S L0 M (upd ℓ i) a' w') a w:=
 h.det ho hg hd hn hi A3 (λv' hv=>YT (YT (hS.symm.trans hv))) r m
theorem RI.eff(h:RI n Dl S L0 M ℓ a w)(ho:ops[i]? =some o)(hg:o.guard=none)(hd:o.dst=none)(hi:Dl[i]? =some none)
 (Aj:(execOp a.eval o).run P w= .ok .skip w')(hM:M (upd ℓ i) (λt=>a.tmps.getD t undef) w'):wpOp P ops Q i (λa' w'=>RI n Dl S L0 M (upd ℓ i) a' w') a w:=by
 refine Z3H ho hg ?_;unfold Oper.wp;rw[Aj,Oper.upon_skip,hd];exact h.skip hi hM
theorem RI.call(h:RI n Dl S L0 M ℓ a w)(ho:ops[i]? =some o)(hg:o.guard=none){d:Tmp}(hd:o.dst=some d)(hn:(Dl.filterMap id).Nodup)(hi:Dl[i]? =some (some d))(A3:d<n){f:FuncId}{args:Array Value}
 (Aj:(execOp a.eval o).run P w= .ok (.enter f args) w)
 (hc:Calls P f args w λe w'=>∃v,e= .returned v/\(∀v',S[i]? =some (some v')->v=v')/\M (upd ℓ i) (λt=>if t=d then v else a.tmps.getD t undef) w'):wpOp P ops Q i (λa' w'=>RI n Dl S L0 M (upd ℓ i) a' w') a w:=by
 refine Z3H ho hg ?_;unfold Oper.wp;rw[Aj,Oper.upon_enter,hd];refine hc.mono ?_;rintro e w'' ⟨v,rfl,hS,hM⟩;exact h.put hn hi A3 hS hM
theorem Zel{arr:Array Value}(h:arr.size=n):arr=((List.range n).map λt=>arr.getD t undef).toArray:=by
 apply QQ
 ·simp[h]
 ·intro i h1 h2;simp[Array.getD_eq_getD_getElem?,YN h1]
theorem Z1z(hd:a.defers=[])(h:a.tmps.size=n):a={tmps:=((List.range n).map λt=>a.tmps.getD t undef).toArray,defers:=[]}:=by
 cases a;simp only at hd h;subst hd;rw[<-Zel h]
structure Bx where
 al:Nat
 t:Tmp
 st:Nat
 z:Array Value
 fin:Array Value
 ty:TypeId
def Bxs(w1:World)(B:List Bx)(ℓ:Nat->Bool)(x:Tmp->Value)(w:World):Prop:=
 Ext w1 w/\(∀e∈B,ℓ e.al=true->∃b,x e.t= .pointer (some ⟨b,0,none⟩)/\w1.heap.size<=b/\w.heap[b]? =some (.cells (if ℓ e.st then e.fin else e.z) e.ty))/\
 (∀e∈B,∀e'∈B,e.t≠e'.t->ℓ e.al=true->ℓ e'.al=true->x e.t≠x e'.t)/\∀e∈B,ℓ e.st=true->ℓ e.al=true
variable {B:List Bx}{x:Tmp->Value}
theorem Bxs.start(w1:World)(B:List Bx)(x:Tmp->Value):Bxs w1 B (λ_=>false) x w1.drew:=
 ⟨(Ext.rfl' w1).drew,λ_ _ h=>by(cases h),λ_ _ _ _ _ h=>by(cases h),λ_ _ h=>by(cases h)⟩
def farB(B:List Bx)(i:Nat)(d:Tmp):Bool:=B.all λe=>e.al !=i&&e.st !=i&&e.t !=d
theorem Bxs.keep(h:Bxs w1 B ℓ x w)(e:Ext w w'){d:Tmp}{v:Value}(hf:farB B i d=true):Bxs w1 B (upd ℓ i) (λt=>if t=d then v else x t) w':=by
 obtain⟨h1,h2,h3,h4⟩:=h
 have hb:∀e∈B,e.al≠i/\e.st≠i/\e.t≠d:=λe he=>by
  have:=YL.1 hf e he;simp at this;exact⟨this.1.1,this.1.2,this.2⟩
 refine⟨h1.trans e,?_,?_,λc hc hl=>by obtain⟨n1,n2,_⟩:=hb c hc;rw[upd_ne n2] at hl;rw[upd_ne n1];exact h4 c hc hl⟩
 ·intro c hc hl;obtain⟨n1,n2,n3⟩:=hb c hc;rw[upd_ne n1] at hl;obtain⟨b,B9,As,C2⟩:=h2 c hc hl;refine⟨b,by simp only;rw[XA n3];exact B9,As,?_⟩;rw[upd_ne n2];exact e.get C2
 ·intro c hc c' hc' A9 hl hl';obtain⟨n1,_,n3⟩:=hb c hc;obtain⟨n1',_,n3'⟩:=hb c' hc';rw[upd_ne n1] at hl;rw[upd_ne n1'] at hl';simp only;rw[XA n3,XA n3'];exact h3 c hc c' hc' A9 hl hl'
theorem Bxs.k(h:Bxs w1 B ℓ x w){d:Tmp}{v:Value}(hf:farB B i d=true:=by rfl):Bxs w1 B (upd ℓ i) (λt=>if t=d then v else x t) w:=h.keep (Ext.rfl' _) hf
def Zem(B:List Bx)(i:Nat)(d:Tmp):Bool:=B.all λe=>(e.al==i)==(e.t==d)&&e.st !=i
theorem Bxs.make(h:Bxs w1 B ℓ x w){c:Bx}(hc:c∈B)(hi:c.al=i)(Q5:ℓ i=false)(hf:Zem B i c.t=true)(G7:∀e∈B,e.al=i->e.z=c.z/\e.ty=c.ty/\e.st=c.st):
 Bxs w1 B (upd ℓ i) (λt=>if t=c.t then .pointer (some ⟨w.heap.size,0,none⟩) else x t) (w.alloc (.cells c.z c.ty)):=by
 obtain⟨h1,h2,h3,h4⟩:=h
 have hb:∀e∈B,((e.al=i)↔(e.t=c.t))/\e.st≠i:=λe he=>by
  have:=YL.1 hf e he;simp at this;refine⟨?_,this.2⟩;have h:=this.1;constructor
  ·intro ha;simpa[ha] using h
  ·intro ha;simpa[ha] using h
 have Ai:ℓ c.st=false:=by
  cases hb':ℓ c.st
  ·rfl
  ·have:=h4 c hc hb';rw[hi,Q5] at this;cases this
 refine⟨h1.alloc _,?_,?_,λe he hl=>by
  obtain⟨_,n2⟩:=hb e he;rw[upd_ne n2] at hl;have:=h4 e he hl;by_cases ha:e.al=i
  ·rw[ha];exact Z0k _ _
  ·rw[upd_ne ha];exact this⟩
 ·intro e he hl;obtain⟨n1,n2⟩:=hb e he;by_cases ha:e.al=i
  ·obtain⟨z1,z2,z3⟩:=G7 e he ha;refine⟨w.heap.size,by simp only;rw[YZ (n1.1 ha)],h1.size,?_⟩;rw[upd_ne n2,z3,Ai,Z3,YZ rfl,z1,z2];rfl
  ·rw[upd_ne ha] at hl;obtain⟨b,B9,As,C2⟩:=h2 e he hl;refine⟨b,by simp only;rw[XA (λe2=>ha (n1.2 e2))];exact B9,As,?_⟩;rw[upd_ne n2];exact((Ext.rfl' w).alloc _).get C2
 ·have key:∀e∈B,e.al≠i->ℓ e.al=true->x e.t≠.pointer (some ⟨w.heap.size,0,none⟩):=by
   intro e he ha hl hx;obtain⟨b,B9,_,C2⟩:=h2 e he hl;rw[hx] at B9;simp at B9;have:=(YF.1 C2).1;omega
  intro e he e' he' A9 hl hl';obtain⟨n1,_⟩:=hb e he;obtain⟨n1',_⟩:=hb e' he';simp only;by_cases ha:e.al=i
  ·have ha':e'.al≠i:=λh=>A9 ((n1.1 ha).trans (n1'.1 h).symm)
   rw[upd_ne ha'] at hl';rw[YZ (n1.1 ha),XA (λh=>ha' (n1'.2 h))];exact λh=>key e' he' ha' hl' h.symm
  ·rw[upd_ne ha] at hl;rw[XA (λh=>ha (n1.2 h))];by_cases ha':e'.al=i
   ·rw[YZ (n1'.1 ha')];exact key e he ha hl
   ·rw[upd_ne ha'] at hl';rw[XA (λh=>ha' (n1'.2 h))];exact h3 e he e' he' A9 hl hl'
theorem Z2z{v:Value}(h:w.heap[b]? =some (.cells #[u,v] t)):
 (((w.setCell ⟨b,0,none⟩ u').setCell ⟨b,1,none⟩ v').heap[b]? =some (.cells #[u',v'] t))/\(∀k,k≠b->((w.setCell ⟨b,0,none⟩ u').setCell ⟨b,1,none⟩ v').heap[k]? =w.heap[k]?)/\w.heap.size<=((w.setCell ⟨b,0,none⟩ u').setCell ⟨b,1,none⟩ v').heap.size/\((w.setCell ⟨b,0,none⟩ u').setCell ⟨b,1,none⟩ v').tape=w.tape/\((w.setCell ⟨b,0,none⟩ u').setCell ⟨b,1,none⟩ v').os=w.os/\((w.setCell ⟨b,0,none⟩ u').setCell ⟨b,1,none⟩ v').output=w.output:=
 ⟨Go.Proofs.Tryq.set_pair h u' v',λk hk=>(Go.Proofs.Tryq.set_ne (w:=w.setCell _ _) hk _).trans (Go.Proofs.Tryq.set_ne hk _),by
   have hA:=VI w ⟨b,0,none⟩ u';have hB:=VI (w.setCell ⟨b,0,none⟩ u') ⟨b,1,none⟩ v';rw[hB.size,hA.size];exact⟨XB _,hB.tape.trans hA.tape,hB.os.trans hA.os,hB.output.trans hA.output⟩⟩
def fillB(B:List Bx)(i:Nat)(d:Tmp):Bool:=B.all λe=>e.al !=i&&((e.st==i)==(e.t==d))
theorem Bxs.fill(h:Bxs w1 B ℓ x w){c:Bx}(hc:c∈B)(hi:c.st=i)(Lf:ℓ c.al=true)(hf:fillB B i c.t=true)(G7:∀e∈B,e.st=i->e.al=c.al/\e.fin=c.fin/\e.ty=c.ty){b:Nat}(hx:x c.t= .pointer (some ⟨b,0,none⟩))
 (hs:w.heap.size<=w'.heap.size)(ho:∀k,k≠b->w'.heap[k]? =w.heap[k]?)(ht:w'.tape=w.tape)(hos:w'.os=w.os)(I7:w'.output=w.output)(hb:w'.heap[b]? =some (.cells c.fin c.ty)):
 Bxs w1 B (upd ℓ i) x w':=by
 obtain⟨h1,h2,h3,h4⟩:=h
 have hB:∀e∈B,e.al≠i/\((e.st=i)↔(e.t=c.t)):=λe he=>by
  have:=YL.1 hf e he;simp at this;refine⟨this.1,?_⟩;have h:=this.2;constructor
  ·intro ha;simpa[ha] using h
  ·intro ha;simpa[ha] using h
 obtain⟨b',B9,As,C2⟩:=h2 c hc Lf;rw[hx] at B9;simp at B9;subst B9
 refine⟨⟨XD h1.size hs,λk hk=>(ho k (by omega)).trans (h1.old k hk),ht.trans h1.tape,hos.trans h1.os,I7.trans h1.output⟩,?_,?_,λe he hl=>by
  obtain⟨n1,_⟩:=hB e he;rw[upd_ne n1];by_cases Mk:e.st=i
  ·rw[(G7 e he Mk).1];exact Lf
  ·rw[upd_ne Mk] at hl;exact h4 e he hl⟩
 ·intro e he hl;obtain⟨n1,n2⟩:=hB e he;rw[upd_ne n1] at hl;by_cases Mk:e.st=i
  ·obtain⟨y1,y2,y3⟩:=G7 e he Mk;refine⟨b,by rw[n2.1 Mk];exact hx,As,?_⟩;rw[Mk,Z0k,hb,y2,y3];rfl
  ·rw[upd_ne Mk];obtain⟨b2,c1,c2,c3⟩:=h2 e he hl;refine⟨b2,c1,c2,?_⟩;have A9:b2≠b:=by
    rintro rfl;have:=h3 e he c hc (λh=>Mk (n2.2 h)) hl Lf;rw[c1,hx] at this;exact this rfl
   rw[ho b2 A9];exact c3
 ·intro e he e' he' A9 hl hl';rw[upd_ne (hB e he).1] at hl;rw[upd_ne (hB e' he').1] at hl';exact h3 e he e' he' A9 hl hl'
end Go.Nk
namespace Go.Nk
open Go Go.Region
theorem AllIx.arr{p:Nat->Oper->Prop}(h:AllIx p 0 ops.toList):∀i o,ops[i]? =some o->p i o:=by
 intro i o ho;have:=h.get i o (by rw[Array.getElem?_toList];exact ho);rw[UA] at this;exact this
theorem RI.at_out{Dl:List (Option Tmp)}{S:List (Option Value)}{L0:Tmp->Value}{M:(Nat->Bool)->(Tmp->Value)->World->Prop}(h:RI n Dl S L0 M ℓ a w)(t:Tmp)(ht:Dl.contains (some t)=false):a.tmps.getD t undef=L0 t:=
 h.out t λi hi=>by
  have:=YQ hi;rw[<-VH] at this;rw[this] at ht;cases ht
end Go.Nk
end
namespace Go.Proofs.Tryq
open Go Go.Nk Go.RowKit
def Z2Q(N:Int)(p q:Int×Int):Int:=if p.2 - q.1<=N/\q.2 - p.1<=N then 1 else if N<max p.1 q.1 - min p.2 q.2 then 2 else 0
def Z1m(a b c:Int)(x y:Sf)(k:Nat):Int:=Z2Q (alw a b c k) (spA x k) (spA y k)
theorem Z0j{p:Int×Int}(h:ZF p=true):0<=p.1/\p.1<=p.2/\p.2<=9999:=by simpa[ZF] using h
theorem Z4Y(a b c m N:Int)(bs off n cap u f g o:Nat)(xa xb ya yb:Int)(i j:Nat)(w:World)(hu:u<3)(Dx:bs<w.heap.size)(hi:i<n)(hj:j<n)(hn:n<=20)
 (g0:w.cell? ⟨2,u*2,none⟩=some (.func (.func f) #[] #[]))(g1:w.cell? ⟨2,u*2+1,none⟩=some (.func (.func g) #[] #[]))
 (hf:∀(b off:Nat)(w:World),Calls prog f #[.pointer (some ⟨b,off,none⟩)] w λe w'=>e= .returned (.pointer (some ⟨b,off+o,none⟩))/\w'=w)
 (hg:∀w,Calls prog g #[.agg #[a,b,c,m]] w λe w'=>e= .returned (.int .i64 N)/\Ext w w')
 (G6:∀args w,(callFunc f args).run prog w= .ok (.enter f args) w)(hcg:∀args w,(callFunc g args).run prog w= .ok (.enter g args) w)
 (xl:w.cell? ⟨bs,off+i*7+o,none⟩=some (.int .i64 xa))(xh:w.cell? ⟨bs,off+i*7+o+1,none⟩=some (.int .i64 xb))(yl:w.cell? ⟨bs,off+j*7+o,none⟩=some (.int .i64 ya))(yh:w.cell? ⟨bs,off+j*7+o+1,none⟩=some (.int .i64 yb))
 (hN:0<=N/\N<=9999)(x1:0<=xa)(x2:xa<=xb)(x3:xb<=9999)(y1:0<=ya)(y2:ya<=yb)(y3:yb<=9999):
 Calls prog 104 #[.agg #[a,b,c,m,.slice (some ⟨bs,off,none⟩) n cap],i,j,u] w λe w'=>e= .returned (.int .i64 (Z2Q N (xa,xb) (ya,yb)))/\Ext w w':=by
 have Q5:2<w.heap.size:=by
  unfold World.cell? at g0;split at g0
  ·rename_i hh;exact Z5 hh
  ·cases g0
 have Md:∀(v:World)(o:Obj)(off':Nat),2<v.heap.size->(v.alloc o).cell? ⟨2,off',none⟩=v.cell? ⟨2,off',none⟩:=λv o off' h=>World.cell?_alloc_lt _ _ _ h
 obtain⟨n1,n2⟩:=hN;have Fw:(i:Int)<(n:Int):=by omega
 have Lh:(j:Int)<(n:Int):=by omega
 have hu2:(u:Int)<3:=by omega
 have H:Hid (Z2Q N (xa,xb) (ya,yb)=Z2Q N (xa,xb) (ya,yb)):=rfl;generalize hr:Z2Q N (xa,xb) (ya,yb)=r at⊢;rw[hr] at H;replace H:Hid (r=Z2Q N (xa,xb) (ya,yb)):=hr.symm;clear hr;go_enter fk Tryz.func104,Tryz.ntmps104;go_wp2;have Ab:Ext w _:=((Ext.rfl' w).alloc (.cells #[a,b,c,m,.slice (some ⟨bs,off,none⟩) n cap] 117)).alloc (.cells #[.func (.func f) #[] #[],.func (.func g) #[] #[]] 196);have I2:((w.alloc (.cells #[a,b,c,m,.slice (some ⟨bs,off,none⟩) n cap] 117)).alloc (.cells #[.func (.func f) #[] #[],.func (.func g) #[] #[]] 196)).heap[w.heap.size]? =some (.cells #[a,b,c,m,.slice (some ⟨bs,off,none⟩) n cap] 117):=by
  simp only[Z3,Z2];rw[XA (by omega),YZ trivial]
 have B9:((w.alloc (.cells #[a,b,c,m,.slice (some ⟨bs,off,none⟩) n cap] 117)).alloc (.cells #[.func (.func f) #[] #[],.func (.func g) #[] #[]] 196)).heap[w.heap.size+1]? =some (.cells #[.func (.func f) #[] #[],.func (.func g) #[] #[]] 196):=by
  simp only[Z3,Z2];rw[YZ trivial]
 clear Md g0 g1;replace xl:=Ab.cellS xl;replace xh:=Ab.cellS xh;replace yl:=Ab.cellS yl;replace yh:=Ab.cellS yh;generalize World.alloc _ (.cells #[.func (.func f) #[] #[],.func (.func g) #[] #[]] 196)=w1 at Ab I2 B9 xl xh yl yh⊢;have q0:=Z0 I2 0;have q1:=Z0 I2 1;have q2:=Z0 I2 2;have q3:=Z0 I2 3;have q4:=Z0 I2 4;have p0:=Z0 B9 0;have p1:=Z0 B9 1;simp only[YC,YA,YB] at q0 q1 q2 q3 q4 p0 p1;have Gv:=Z5 B9;refine Z03 (by kernel_rfl) (by kernel_rfl) (RI 73 [some 16,some 17,some 18,some 19,some 20,some 21,some 22,some 23,some 24,some 25,some 26,some 27,some 28,some 29,some 30,some 31,some 32,some 33,some 34,some 35,some 36,some 37,some 38,some 39,some 40,some 41,some 10,some 11,none,none,some 12] [some (.pointer (some ⟨w.heap.size+1,0,none⟩)),some (.func (.func f) #[] #[]),some (.pointer (some ⟨w.heap.size,0,none⟩)),some (.pointer (some ⟨w.heap.size,4,none⟩)),some (.slice (some ⟨bs,off,none⟩) n cap),some (.int .i64 i),some (.pointer (some ⟨bs,off+i*7,none⟩)),some (.pointer (some ⟨bs,off+i*7+o,none⟩)),some (.pointer (some ⟨bs,off+i*7+o,none⟩)),some (.agg #[xa,xb]),some (.pointer (some ⟨w.heap.size+1,0,none⟩)),some (.func (.func f) #[] #[]),some (.pointer (some ⟨w.heap.size,0,none⟩)),some (.pointer (some ⟨w.heap.size,4,none⟩)),some (.slice (some ⟨bs,off,none⟩) n cap),some (.int .i64 j),some (.pointer (some ⟨bs,off+j*7,none⟩)),some (.pointer (some ⟨bs,off+j*7+o,none⟩)),some (.pointer (some ⟨bs,off+j*7+o,none⟩)),some (.agg #[ya,yb]),some (.pointer (some ⟨w.heap.size+1,1,none⟩)),some (.func (.func g) #[] #[]),some (.pointer (some ⟨w.heap.size,0,none⟩)),some (.pointer (some ⟨w.heap.size,0,none⟩)),some (.agg #[a,b,c,m]),some (.int .i64 N),none,none,none,none,some (.int .i64 N)] _ (Bxs w1 [⟨26,10,28,#[.int .i64 0,.int .i64 0],#[xa,xb],49⟩,⟨27,11,29,#[.int .i64 0,.int .i64 0],#[ya,yb],49⟩])) (RI.start rfl rfl (Bxs.start w1 _ _)) (AllIx.arr ⟨?_,?_,?_,?_,?_,?_,?_,?_,?_,?_,?_,?_,?_,?_,?_,?_,?_,?_,?_,?_,?_,?_,?_,?_,?_,?_,?_,?_,?_,?_,?_,trivial⟩) ?_
 ·intro ℓ aq W hl hp h;have e9:aq.tmps.getD 9 undef= .pointer (some ⟨w.heap.size+1,0,none⟩):=h.at_out 9 rfl;exact h.dt (r:=by simp[go_sem,execOp,Act.eval,e9]) (m:=h.mem.k)
 ·intro ℓ aq W hl hp h;have e16:=h.v hp 0 16;have c0:=h.mem.1.cellS p0;exact h.dt (r:=by simp[go_sem,execOp,Act.eval,e16,c0]) (m:=h.mem.k)
 ·intro ℓ aq W hl hp h;have e4:aq.tmps.getD 4 undef= .pointer (some ⟨w.heap.size,0,none⟩):=h.at_out 4 rfl;exact h.dt (r:=by simp[go_sem,execOp,Act.eval,e4]) (m:=h.mem.k)
 ·intro ℓ aq W hl hp h;have e18:=h.v hp 2 18;exact h.dt (r:=by simp[go_sem,execOp,Act.eval,e18]) (m:=h.mem.k)
 ·intro ℓ aq W hl hp h;have e19:=h.v hp 3 19;have c0:=h.mem.1.cellS q4;exact h.dt (r:=by simp[go_sem,execOp,Act.eval,e19,c0]) (m:=h.mem.k)
 ·intro ℓ aq W hl hp h;have e1:aq.tmps.getD 1 undef= .int .i64 i:=h.at_out 1 rfl;exact h.dt (r:=by simp[go_sem,execOp,Act.eval,e1]) (m:=h.mem.k)
 ·intro ℓ aq W hl hp h;have e20:=h.v hp 4 20;have e21:=h.v hp 5 21;exact h.dt (r:=by simp[go_sem,execOp,Act.eval,e20,e21,Nat.not_le.2 hi]) (m:=h.mem.k)
 ·intro ℓ aq W hl hp h;have e17:=h.v hp 1 17;have e22:=h.v hp 6 22;refine h.call rfl rfl rfl (by decide) rfl (by decide) (f:=f) (args:= #[.pointer (some ⟨bs,off+i*7,none⟩)]) (by simp[go_sem,execOp,Act.eval,e17,e22,G6]) ?_;refine(hf _ _ _).mono ?_;rintro e W' ⟨rfl,hE⟩;subst hE;exact⟨.pointer (some ⟨bs,off+i*7+o,none⟩),rfl,(λv' hv=>YT (YT hv)),h.mem.keep (Ext.rfl' _) rfl⟩
 ·intro ℓ aq W hl hp h;have e23:=h.v hp 7 23;exact h.dt (r:=by simp[go_sem,execOp,Act.eval,e23]) (m:=h.mem.k)
 ·intro ℓ aq W hl hp h;have e24:=h.v hp 8 24;have c0:=h.mem.1.cellS xl;have c1:=h.mem.1.cellS xh;exact h.dt (r:=by simp[go_sem,execOp,Act.eval,e24,c0,c1]) (m:=h.mem.k)
 ·intro ℓ aq W hl hp h;have e9:aq.tmps.getD 9 undef= .pointer (some ⟨w.heap.size+1,0,none⟩):=h.at_out 9 rfl;exact h.dt (r:=by simp[go_sem,execOp,Act.eval,e9]) (m:=h.mem.k)
 ·intro ℓ aq W hl hp h;have e26:=h.v hp 10 26;have c0:=h.mem.1.cellS p0;exact h.dt (r:=by simp[go_sem,execOp,Act.eval,e26,c0]) (m:=h.mem.k)
 ·intro ℓ aq W hl hp h;have e4:aq.tmps.getD 4 undef= .pointer (some ⟨w.heap.size,0,none⟩):=h.at_out 4 rfl;exact h.dt (r:=by simp[go_sem,execOp,Act.eval,e4]) (m:=h.mem.k)
 ·intro ℓ aq W hl hp h;have e28:=h.v hp 12 28;exact h.dt (r:=by simp[go_sem,execOp,Act.eval,e28]) (m:=h.mem.k)
 ·intro ℓ aq W hl hp h;have e29:=h.v hp 13 29;have c0:=h.mem.1.cellS q4;exact h.dt (r:=by simp[go_sem,execOp,Act.eval,e29,c0]) (m:=h.mem.k)
 ·intro ℓ aq W hl hp h;have e2:aq.tmps.getD 2 undef= .int .i64 j:=h.at_out 2 rfl;exact h.dt (r:=by simp[go_sem,execOp,Act.eval,e2]) (m:=h.mem.k)
 ·intro ℓ aq W hl hp h;have e30:=h.v hp 14 30;have e31:=h.v hp 15 31;exact h.dt (r:=by simp[go_sem,execOp,Act.eval,e30,e31,Nat.not_le.2 hj]) (m:=h.mem.k)
 ·intro ℓ aq W hl hp h;have e27:=h.v hp 11 27;have e32:=h.v hp 16 32;refine h.call rfl rfl rfl (by decide) rfl (by decide) (f:=f) (args:= #[.pointer (some ⟨bs,off+j*7,none⟩)]) (by simp[go_sem,execOp,Act.eval,e27,e32,G6]) ?_;refine(hf _ _ _).mono ?_;rintro e W' ⟨rfl,hE⟩;subst hE;exact⟨.pointer (some ⟨bs,off+j*7+o,none⟩),rfl,(λv' hv=>YT (YT hv)),h.mem.keep (Ext.rfl' _) rfl⟩
 ·intro ℓ aq W hl hp h;have e33:=h.v hp 17 33;exact h.dt (r:=by simp[go_sem,execOp,Act.eval,e33]) (m:=h.mem.k)
 ·intro ℓ aq W hl hp h;have e34:=h.v hp 18 34;have c0:=h.mem.1.cellS yl;have c1:=h.mem.1.cellS yh;exact h.dt (r:=by simp[go_sem,execOp,Act.eval,e34,c0,c1]) (m:=h.mem.k)
 ·intro ℓ aq W hl hp h;have e9:aq.tmps.getD 9 undef= .pointer (some ⟨w.heap.size+1,0,none⟩):=h.at_out 9 rfl;exact h.dt (r:=by simp[go_sem,execOp,Act.eval,e9]) (m:=h.mem.k)
 ·intro ℓ aq W hl hp h;have e36:=h.v hp 20 36;have c0:=h.mem.1.cellS p1;exact h.dt (r:=by simp[go_sem,execOp,Act.eval,e36,c0]) (m:=h.mem.k)
 ·intro ℓ aq W hl hp h;have e4:aq.tmps.getD 4 undef= .pointer (some ⟨w.heap.size,0,none⟩):=h.at_out 4 rfl;exact h.dt (r:=by simp[go_sem,execOp,Act.eval,e4]) (m:=h.mem.k)
 ·intro ℓ aq W hl hp h;have e38:=h.v hp 22 38;exact h.dt (r:=by simp[go_sem,execOp,Act.eval,e38]) (m:=h.mem.k)
 ·intro ℓ aq W hl hp h;have e39:=h.v hp 23 39;have c0:=h.mem.1.cellS q0;have c1:=h.mem.1.cellS q1;have c2:=h.mem.1.cellS q2;have c3:=h.mem.1.cellS q3;exact h.dt (r:=by simp[go_sem,execOp,Act.eval,e39,c0,c1,c2,c3]) (m:=h.mem.k)
 ·intro ℓ aq W hl hp h;have e37:=h.v hp 21 37;have e40:=h.v hp 24 40;refine h.call rfl rfl rfl (by decide) rfl (by decide) (f:=g) (args:= #[.agg #[a,b,c,m]]) (by simp[go_sem,execOp,Act.eval,e37,e40,hcg]) ?_;refine(hg _).mono ?_;rintro e W' ⟨rfl,hE⟩;exact⟨.int .i64 N,rfl,(λv' hv=>YT (YT hv)),h.mem.keep hE rfl⟩
 ·intro ℓ aq W hl hp h;exact h.det rfl rfl rfl (by decide) rfl (by decide) (λv' hv=>by simp at hv) (by simp[go_sem,execOp,Act.eval]) (h.mem.make (c:=⟨26,10,28,#[.int .i64 0,.int .i64 0],#[xa,xb],49⟩) (by simp) rfl hl rfl (by intro e he hs;simp only[XE,XL,VO] at he;rcases he with rfl|rfl<;>first|exact⟨rfl,rfl,rfl⟩|(simp at hs)))
 ·intro ℓ aq W hl hp h;exact h.det rfl rfl rfl (by decide) rfl (by decide) (λv' hv=>by simp at hv) (by simp[go_sem,execOp,Act.eval]) (h.mem.make (c:=⟨27,11,29,#[.int .i64 0,.int .i64 0],#[ya,yb],49⟩) (by simp) rfl hl rfl (by intro e he hs;simp only[XE,XL,VO] at he;rcases he with rfl|rfl<;>first|exact⟨rfl,rfl,rfl⟩|(simp at hs)))
 ·intro ℓ aq W hl hp h;have e25:=h.v hp 9 25;obtain⟨b9,x9,l9,m9⟩:=h.mem.2.1 ⟨26,10,28,#[.int .i64 0,.int .i64 0],#[xa,xb],49⟩ (by simp) (hp 26 (by decide));dsimp only at x9 m9;rw[hl] at m9;replace m9:W.heap[b9]? =some (.cells #[.int .i64 0,.int .i64 0] 49):=m9;have f9:=Z2z (u':= .int .i64 xa) (v':= .int .i64 xb) m9;have g9:=Zc m9;exact h.eff rfl rfl rfl rfl (by simp[go_sem,execOp,Act.eval,x9,g9.1,g9.2.1,g9.2.2.1,g9.2.2.2,e25]) (h.mem.fill (c:=⟨26,10,28,#[.int .i64 0,.int .i64 0],#[xa,xb],49⟩) (by simp) rfl (hp 26 (by decide)) rfl (by intro e he hs;simp only[XE,XL,VO] at he;rcases he with rfl|rfl<;>first|exact⟨rfl,rfl,rfl⟩|(simp at hs)) x9 f9.2.2.1 f9.2.1 f9.2.2.2.1 f9.2.2.2.2.1 f9.2.2.2.2.2 f9.1)
 ·intro ℓ aq W hl hp h;have e35:=h.v hp 19 35;obtain⟨b9,x9,l9,m9⟩:=h.mem.2.1 ⟨27,11,29,#[.int .i64 0,.int .i64 0],#[ya,yb],49⟩ (by simp) (hp 27 (by decide));dsimp only at x9 m9;rw[hl] at m9;replace m9:W.heap[b9]? =some (.cells #[.int .i64 0,.int .i64 0] 49):=m9;have f9:=Z2z (u':= .int .i64 ya) (v':= .int .i64 yb) m9;have g9:=Zc m9;exact h.eff rfl rfl rfl rfl (by simp[go_sem,execOp,Act.eval,x9,g9.1,g9.2.1,g9.2.2.1,g9.2.2.2,e35]) (h.mem.fill (c:=⟨27,11,29,#[.int .i64 0,.int .i64 0],#[ya,yb],49⟩) (by simp) rfl (hp 27 (by decide)) rfl (by intro e he hs;simp only[XE,XL,VO] at he;rcases he with rfl|rfl<;>first|exact⟨rfl,rfl,rfl⟩|(simp at hs)) x9 f9.2.2.1 f9.2.1 f9.2.2.2.1 f9.2.2.2.2.1 f9.2.2.2.2.2 f9.1)
 ·intro ℓ aq W hl hp h;have e41:=h.v hp 25 41;exact h.dt (r:=by simp[go_sem,execOp,Act.eval,e41]) (m:=h.mem.k)
 ·intro ℓ aq W Aq h;obtain⟨b0,x0,l0,m0⟩:=h.mem.2.1 ⟨26,10,28,#[.int .i64 0,.int .i64 0],#[xa,xb],49⟩ (by simp) (Aq 26 (by decide));dsimp only at x0 m0;rw[Aq 28 (by decide)] at m0;replace m0:W.heap[b0]? =some (.cells #[xa,xb] 49):=m0;obtain⟨b1,x1,l1,m1⟩:=h.mem.2.1 ⟨27,11,29,#[.int .i64 0,.int .i64 0],#[ya,yb],49⟩ (by simp) (Aq 27 (by decide));dsimp only at x1 m1;rw[Aq 29 (by decide)] at m1;replace m1:W.heap[b1]? =some (.cells #[ya,yb] 49):=m1;have Bf:=h.mem.1;have ea:=Z1z h.defers h.size;simp only[List.range,List.range.loop,List.map] at ea;rw[ea];clear ea;rw[(show aq.tmps.getD 1 undef= .int .i64 i from h.at_out 1 rfl),(show aq.tmps.getD 2 undef= .int .i64 j from h.at_out 2 rfl),(show aq.tmps.getD 4 undef= .pointer (some ⟨w.heap.size,0,none⟩) from h.at_out 4 rfl),(show aq.tmps.getD 9 undef= .pointer (some ⟨w.heap.size+1,0,none⟩) from h.at_out 9 rfl),(show aq.tmps.getD 12 undef= .int .i64 N from h.vals 30 12 _ rfl rfl (Aq 30 (by decide))),x0,x1];iterate 66 generalize aq.tmps.getD _ undef=u
  clear h Aq;have A4:=Ab.trans Bf;have g0:=Zc m0;have g00:=g0.1;have g01:=g0.2.1;have g1:=Zc m1;have g10:=g1.1;have g11:=g1.2.1;clear g0 g1;go_wp2
  all_goals
   go_ret;refine⟨ZK ?_,A4⟩;have HH:=H.out;simp only[Z2Q] at HH;rw[HH]
   (split<;>try split)
   all_goals first|rfl|(exfalso;simp at*;omega)
theorem Zae(a b c m:Int)(bs off n cap:Nat)(x y:Sf)(i j:Nat)(w:World)(hM:Meas w)(Dx:bs<w.heap.size)(hi:i<n)(hj:j<n)(hn:n<=20)
 (hx:ShaftAt w bs (off+i*7) x)(hy:ShaftAt w bs (off+j*7) y)(hN:0<=a/\a<=9999)(ox:ZF (spA x 0)=true)(oy:ZF (spA y 0)=true):
 Calls prog 104 #[.agg #[a,b,c,m,.slice (some ⟨bs,off,none⟩) n cap],i,j,.int .i64 0] w λe w'=>e= .returned (.int .i64 (Z1m a b c x y 0))/\Ext w w':=
 Z4Y a b c m a bs off n cap 0 279 280 1 x.a0 x.a1 y.a0 y.a1 i j w (by omega) Dx hi hj hn (hM 0 (by omega)) (hM 1 (by omega)) Z7o (Z7r a b c m) (Zrr 279) (Zrr 280) hx.k1 hx.k2 hy.k1 hy.k2 hN (Z0j ox).1 (Z0j ox).2.1 (Z0j ox).2.2 (Z0j oy).1 (Z0j oy).2.1 (Z0j oy).2.2
theorem Zaf(a b c m:Int)(bs off n cap:Nat)(x y:Sf)(i j:Nat)(w:World)(hM:Meas w)(Dx:bs<w.heap.size)(hi:i<n)(hj:j<n)(hn:n<=20)
 (hx:ShaftAt w bs (off+i*7) x)(hy:ShaftAt w bs (off+j*7) y)(hN:0<=b/\b<=9999)(ox:ZF (spA x 1)=true)(oy:ZF (spA y 1)=true):
 Calls prog 104 #[.agg #[a,b,c,m,.slice (some ⟨bs,off,none⟩) n cap],i,j,.int .i64 1] w λe w'=>e= .returned (.int .i64 (Z1m a b c x y 1))/\Ext w w':=
 Z4Y a b c m b bs off n cap 1 281 282 3 x.b0 x.b1 y.b0 y.b1 i j w (by omega) Dx hi hj hn (hM 2 (by omega)) (hM 3 (by omega)) Z7p (Z7s a b c m) (Zrr 281) (Zrr 282) hx.k3 hx.k4 hy.k3 hy.k4 hN (Z0j ox).1 (Z0j ox).2.1 (Z0j ox).2.2 (Z0j oy).1 (Z0j oy).2.1 (Z0j oy).2.2
theorem Zag(a b c m:Int)(bs off n cap:Nat)(x y:Sf)(i j:Nat)(w:World)(hM:Meas w)(Dx:bs<w.heap.size)(hi:i<n)(hj:j<n)(hn:n<=20)
 (hx:ShaftAt w bs (off+i*7) x)(hy:ShaftAt w bs (off+j*7) y)(hN:0<=c/\c<=9999)(ox:ZF (spA x 2)=true)(oy:ZF (spA y 2)=true):
 Calls prog 104 #[.agg #[a,b,c,m,.slice (some ⟨bs,off,none⟩) n cap],i,j,.int .i64 2] w λe w'=>e= .returned (.int .i64 (Z1m a b c x y 2))/\Ext w w':=
 Z4Y a b c m c bs off n cap 2 283 284 5 x.c0 x.c1 y.c0 y.c1 i j w (by omega) Dx hi hj hn (hM 4 (by omega)) (hM 5 (by omega)) Z7q (Z7t a b c m) (Zrr 283) (Zrr 284) hx.k5 hx.k6 hy.k5 hy.k6 hN (Z0j ox).1 (Z0j ox).2.1 (Z0j ox).2.2 (Z0j oy).1 (Z0j oy).2.1 (Z0j oy).2.2
end Go.Proofs.Tryq
