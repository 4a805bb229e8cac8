import Derived.Test.YtedkbdkbbnemlaaGreatDoorNk19
import Derived.Deep.RegionHeld3
import Derived.LaidOnce
import Derived.SevenTiedAt
import Derived.Test.YtedkbdkbbnemlaaGreatDoorCards
import Derived.Test.YtedkbdkbbnemlaaGreatDoorTie
set_option linter.all false
namespace Go.Proofs.Tryq
set_option maxRecDepth 100000
open Go Go.Nk Go.RowKit Go.ChangeShapes Go.WideShapes Go.ChangeAt Go.Conc Go.Deep
attribute [local instance] theBan
theorem Zaa{α:Type}{p:Nat->α->Prop}:∀(n:Nat),(∀i,i<n->∃x,p i x)->∃L:List α,L.length=n/\∀(i:Nat)(x:α),L[i]? =some x->p i x:=by
 intro n
 induction n with
 |zero=>exact fun _=>⟨[],rfl,fun i x h=>by simp at h⟩
 |succ n ih=>
  intro h;obtain⟨L,h1,h2⟩:=ih fun i hi=>h i (by omega)
  obtain⟨x,hx⟩:=h n (by omega);refine⟨L++[x],by simp[h1],fun i y hy=> ?_⟩;rw[List.getElem?_append] at hy;split at hy
  ·exact h2 i y hy
  ·rename_i A3;have:i=n:=by
    have:=(List.getElem?_eq_some_iff.1 hy).1;simp at this;omega
   subst this;rw[h1,Nat.sub_self] at hy;cases hy;exact hx
section
variable {H:Type} {enc:TypeId×Value->H} {W:World} {b0:Nat}
theorem Zct(b off i:Nat):(⟨b,off,none⟩:Addr).add i=⟨b,off+i,none⟩:=by
 unfold Addr.add;split
 ·rename_i h;rw[h];rfl
 ·rfl
theorem Z5V{u e c:Nat}{v:Value}{k:Nat}{x:DataW H×List MemPlace}(hu:Tryz.prog.underlying u=some (.slice e))(hc:Tryz.prog.cellsOf e=c)(Cn:0<c)(hv:∃u,Cell.okWide Tryz.prog W .any b0 u v)(h:DataW.trod enc Tryz.prog W 0 (fun _=>true) true k u [v]=some x):
 ∃(base:Option Addr)(n cap:Nat),v= .slice base n cap/\n<=cap/\cap<=maxLen/\VRel id (Nk.Live (Zx W)) v v/\
  ∀i,i<n->∃b off,base=some ⟨b,off,none⟩/\b<W.heap.size/\∃cs:List Value,cs.length=c/\(∀j,j<c->W.cell? ⟨b,off+i*c+j,none⟩=cs[j]?)/\∃m y,DataW.trod enc Tryz.prog W 0 (fun _=>true) true m e cs=some y:=by
 rcases open_slice hu h with⟨h1,_⟩|⟨a,len,cap,m,q,D,Pl,h1,_,hl,hm,On,_,Tt⟩
 ·simp only[List.cons.injEq,and_true] at h1;subst h1;exact⟨none,0,0,rfl,Nat.le_refl _,by decide,.nilSlice _ _,fun i hi=>by omega⟩
 ·simp only[List.cons.injEq,and_true] at h1;subst h1;obtain⟨u',hv⟩:=hv;have Am:=Z8u hv;refine⟨some a,len,cap,rfl,hl,hm,.slice (ρ:=id) _ _ (Z8g.1 Am),fun i hi=> ?_⟩;simp only[if_true] at On;obtain⟨cs,h2,h3⟩:=Tt i (by omega);rw[hc] at h2;obtain⟨_,h4,h5⟩:=World.cells?_some h2;obtain⟨b,off,spot⟩:=a;have Gn:spot=none:=by
   obtain⟨cs0,k2,_⟩:=Tt 0 (by omega);rw[hc] at k2;obtain⟨_,k4,k5⟩:=World.cells?_some k2;have k6:=k5 0 Cn;rw[List.getElem?_eq_getElem (by omega)] at k6;simpa[Addr.add] using World.cell?_spot k6
  subst Gn;have A3:b<W.heap.size:=by
   obtain⟨_,_,_,h⟩:=Z9A.1 Am;exact(Array.getElem?_eq_some_iff.1 h).1
  exact⟨b,off,rfl,A3,cs,h4,fun j hj=>by have:=h5 j hj;rwa [Zct,Zct] at this,q,_,h3⟩
theorem under24:Tryz.prog.underlying 24=some (.slice 51):=by kernel_rfl
theorem under9:Tryz.prog.underlying 9=some .string:=by kernel_rfl
theorem under4:Tryz.prog.underlying 4=some .bool:=by kernel_rfl
theorem cells51:Tryz.prog.cellsOf 51=7:=by kernel_rfl
theorem cells26:Tryz.prog.cellsOf 26=5:=by kernel_rfl
theorem Z6L{v:Value}{k:Nat}{x:DataW H×List MemPlace}(hv:∃u,Cell.okWide Tryz.prog W .any b0 u v)(h:DataW.trod enc Tryz.prog W 0 (fun _=>true) true k 24 [v]=some x):
 ∃(base:Option Addr)(n cap:Nat)(L:List Sf),v= .slice base n cap/\L.length=n/\n<=cap/\cap<=maxLen/\VRel id (Nk.Live (Zx W)) v v/\RawA W base L:=by
 obtain⟨base,n,cap,e,hn,hm,hr,Tt⟩:=Z5V under24 cells51 (by decide) hv h;have key:∀i,i<n->∃x:Sf,∃b off,base=some ⟨b,off,none⟩/\b<W.heap.size/\ShaftAt W b (off+i*7) x/\x.nm.size<=maxLen:=by
  intro i hi;obtain⟨b,off,h1,h2,cs,h3,h4,h5⟩:=Tt i hi;have Af:cs.length<=Tryz.prog.cellsOf 51:=by rw[cells51];omega
  obtain⟨s,e0,hs⟩:=Z6d (n:=3) (o:=0) (u:=9) Af h5 (by kernel_rfl) under9;obtain⟨x1,e1,_⟩:=Z0z (n:=3) (o:=1) (u:=3) Af h5 (by kernel_rfl) under3;obtain⟨x2,e2,_⟩:=Z0z (n:=3) (o:=2) (u:=3) Af h5 (by kernel_rfl) under3;obtain⟨x3,e3,_⟩:=Z0z (n:=3) (o:=3) (u:=3) Af h5 (by kernel_rfl) under3;obtain⟨x4,e4,_⟩:=Z0z (n:=3) (o:=4) (u:=3) Af h5 (by kernel_rfl) under3;obtain⟨x5,e5,_⟩:=Z0z (n:=3) (o:=5) (u:=3) Af h5 (by kernel_rfl) under3;obtain⟨x6,e6,_⟩:=Z0z (n:=3) (o:=6) (u:=3) Af h5 (by kernel_rfl) under3;exact⟨⟨s,x1,x2,x3,x4,x5,x6⟩,b,off,h1,h2,⟨(h4 0 (by omega)).trans e0,(h4 1 (by omega)).trans e1,(h4 2 (by omega)).trans e2,(h4 3 (by omega)).trans e3,(h4 4 (by omega)).trans e4,(h4 5 (by omega)).trans e5,(h4 6 (by omega)).trans e6⟩,hs⟩
 obtain⟨L,Ca,Vq⟩:=Zaa n key;exact⟨base,n,cap,L,e,Ca,hn,hm,hr,Vq⟩
theorem arr5{cs:Array Value}{a b c d e:Value}(hs:cs.size=5)(h0:cs.toList[0]? =some a)(h1:cs.toList[1]? =some b)(h2:cs.toList[2]? =some c)(h3:cs.toList[3]? =some d)(h4:cs.toList[4]? =some e):cs= #[a,b,c,d,e]:=by
 obtain⟨l⟩:=cs
 match l,hs with
 |[_,_,_,_,_],_=>simp at h0 h1 h2 h3 h4;subst h0 h1 h2 h3 h4;rfl
theorem Z4c{v:Value}{d:DataW H}{p:List MemPlace}(hv:Value.okWide Tryz.prog W .any b0 26 v)(h:DataW.Trod enc Tryz.prog W 0 (fun _=>true) true 26 v d p):
 ∃(a b c m:Int)(base:Option Addr)(n cap:Nat)(L:List Sf),v= .agg #[.int .i64 a,.int .i64 b,.int .i64 c,.int .i64 m,.slice base n cap]/\L.length=n/\n<=cap/\cap<=maxLen/\VRel id (Nk.Live (Zx W)) v v/\RawA W base L/\
  ((Lit.int .i64 a).wf=true/\(Lit.int .i64 b).wf=true/\(Lit.int .i64 c).wf=true/\(Lit.int .i64 m).wf=true):=by
 obtain⟨cs,rfl,hs,hx⟩:=ZiU hv (by kernel_rfl);obtain⟨fuel,hf⟩:=h;have hf:DataW.trod enc Tryz.prog W 0 (fun _=>true) true fuel 26 cs.toList=some (d,p):=hf;rw[cells26] at hs;have Af:cs.toList.length<=Tryz.prog.cellsOf 26:=by rw[cells26];simp[hs]
 obtain⟨x0,e0,w0⟩:=Z0z (n:=2) (o:=0) (u:=3) Af ⟨_,_,hf⟩ (by kernel_rfl) under3;obtain⟨x1,e1,w1⟩:=Z0z (n:=2) (o:=1) (u:=3) Af ⟨_,_,hf⟩ (by kernel_rfl) under3;obtain⟨x2,e2,w2⟩:=Z0z (n:=2) (o:=2) (u:=3) Af ⟨_,_,hf⟩ (by kernel_rfl) under3;obtain⟨x3,e3,w3⟩:=Z0z (n:=2) (o:=3) (u:=3) Af ⟨_,_,hf⟩ (by kernel_rfl) under3;obtain⟨sv,m,y,e4,h4⟩:=Z7R (n:=2) (o:=4) (u:=24) Af ⟨_,_,hf⟩ (by kernel_rfl) under24;obtain⟨base,n,cap,L,rfl,hL,hn,hm,hr,hR⟩:=Z6L (hx 4 sv (by simpa using e4)) h4;have Vu:=arr5 hs e0 e1 e2 e3 e4;subst Vu
 have hA:AR id (Nk.Live (Zx W)) #[.int .i64 x0,.int .i64 x1,.int .i64 x2,.int .i64 x3,.slice base n cap] #[.int .i64 x0,.int .i64 x1,.int .i64 x2,.int .i64 x3,.slice base n cap]:=
  ((((AR.nil.push (.int _ _)).push (.int _ _)).push (.int _ _)).push (.int _ _)).push hr
 exact⟨x0,x1,x2,x3,base,n,cap,L,rfl,hL,hn,hm,.agg hA.1 hA.2,hR,w0,w1,w2,w3⟩
end
end Go.Proofs.Tryq
namespace Go.Proofs.Tryq
set_option maxRecDepth 100000
open Go Go.Nk Go.RowKit Go.ChangeShapes Go.WideShapes Go.ChangeAt Go.Conc
attribute [local instance] theBan
theorem own:ownKnob Tryz.prog.godebug=none:=by kernel_rfl
theorem laidOut:laidOutB Tryz.prog=true:=by kernel_rfl
theorem Z7C(os:Os)(args:Array Value):laidMetH Tryz.prog laidL ((World.doorLaid Tryz.prog 400 os).forCall (fun _ _=>0) ⟨#[],args,[]⟩).memory:=
 laidMetH_of_parts3 (fuel:=8) (laidMet_of_run' 8 (by kernel_rfl) (by kernel_rfl)) (by kernel_rfl) (by kernel_rfl)
theorem Z3F(os:Os)(args:Array Value):((World.doorLaid Tryz.prog 400 os).forCall (fun _ _=>0) ⟨#[],args,[]⟩).Shaped Tryz.prog:=World.shaped_of_RefB (by kernel_rfl) (by kernel_rfl)
theorem rows4:((List.range 4).all fun g=>(((begin Tryz.prog (fun _ _=>0) default).world.heap[g]?).bind Obj.row?).isSome)=true:=by kernel_rfl
theorem Z8v{W:World}(h:W.ShapedOpen Tryz.prog):∀g,g<4->Z1s W g=true:=by
 intro g hg;have h1:=List.all_eq_true.1 rows4 g (List.mem_range.2 hg);obtain⟨⟨zero,t⟩,hz⟩:=Option.isSome_iff_exists.1 h1;obtain⟨cs,hc,_⟩:=h.1 g zero t (by rw[globals4];exact hg) hz;exact Z9A.2 ⟨_,_,_,hc⟩
theorem Z4e{H:Type}{enc:TypeId×Value->H}{os:Os}{f:FuncId}{fn:Func}{tr:Tmp}{s:ChangeSpec}{ts:List TypeId}{n:Nat}(started:os.Started)(hk:f∈keptList)(hfn:Tryz.prog.funcs[f]? =some fn)(D7:fs[f]? =Tryz.prog.funcs[f]?)(Da:Zej f=true)(hr:fn.results= #[.tmp tr])(hi:Tryz.prog.inits.idxOf? f=none)
 (hts:fn.params.toList=ts)(hn:ts.length=n)(hv:s.vars=[])(H2:fn.resultTypes= #[4])(hs:∀ds:List (DataW H),ds.length=n->s.fn H ds={results:=[.lit (.bool true)],args:=ds})
 (Qx:(ts.all fun t=>Tryz.prog.readableRec t&&decide (t<Tryz.prog.types.size))=true)
 (witness:∃(w:World)(tape:Tape)(i:Input),w.os=os/\(w.forCall tape i).Shaped Tryz.prog/\i.vars=[]/\Input.okWide Tryz.prog (w.forCall tape i) .any w.heap.size f i/\
   ((s.pre enc Tryz.prog fn [] false (w.forCall tape i).memory i.args/\laidMetH Tryz.prog laidL (w.forCall tape i).memory)/\sizedMet enc Tryz.prog fn (OpenSpec.ofChange s) false (w.forCall tape i).memory i.args)/\({}:Assume).holds Tryz.prog (lone (Frame.enter Tryz.prog f i.args .normal) [] (w.forCall tape i)))
 (walk:∀(W:World)(base:Nat)(args:Array Value)(ds:List (DataW H))(p:List MemPlace),(∀(j:Nat) t v,fn.params[j]? =some t->args[j]? =some v->Value.okWide Tryz.prog W .any base t v)->DataW.TrodAll enc Tryz.prog W 0 (fun _=>true) true ts args.toList ds p->
   Meas (Zx W)->Most (Zx W)->Deb (Zx W)->AR id (Nk.Live (Zx W)) args args/\∀t,Calls prog f args (retape t (Zx W)) fun e _=>e= .returned (.bool true)):
 ReturnsInLeavingWide {} Tryz.checked os f .any (fun w args=>(s.pre enc Tryz.prog fn [] false w args/\laidMetH Tryz.prog laidL w)/\sizedMet enc Tryz.prog fn (OpenSpec.ofChange s) false w args) (s.post enc Tryz.prog fn false true false false):=by
 refine Z3E (C:=Tryz.checked) own started hfn witness ?_;intro W base args ds gs before Bf Ev hW hL;have hW':=hW;obtain⟨p,q,G6,hV,rfl,_,_⟩:=hW;rw[hv] at hV;obtain⟨rfl,rfl⟩:=trodVars_none hV;have hA:DataW.TrodAll enc Tryz.prog W 0 (fun _=>true) true ts args.toList ds p:=by rw[<-hts];exact G6
 obtain⟨har,Dq⟩:=walk W base args ds p Ev hA (Za5 (Z5D hL)) (Za6 (Z5C hL)) (ZbN (Z6y hL));have Am:=Z8v Bf;have h4:4<=W.heap.size:=by
  obtain⟨_,_,_,h⟩:=Z9A.1 (Am 3 (by omega));exact(Array.getElem?_eq_some_iff.1 h).1
 obtain⟨M,last,o,w',t',h1,h2,h3,h5⟩:=ZbO hk hfn D7 Da hr hi Am h4 har Dq;refine⟨M,last,o,w',t',h1,h2,h3,h5.mono fun v hp=> ?_⟩;obtain⟨rfl,hb⟩:=hp;have A3:∀x∈p++[],x.block<W.heap.size:=fun x hx=>hW'.lt x hx
 simp only[List.append_nil] at A3;have Vv:ds.length=n:=by
  rw[<-hn];have key:∀{ts:List TypeId}{vs:List Value}{ds:List (DataW H)}{p:List MemPlace},DataW.TrodAll enc Tryz.prog W 0 (fun _=>true) true ts vs ds p->ds.length=ts.length:=by
   intro ts
   induction ts with
   |nil=>intro vs ds p h;cases vs<;>cases ds<;>first|rfl|exact h.elim
   |cons t ts ih=>
    intro vs ds p h;cases vs<;>cases ds<;>first|exact h.elim|skip
    obtain⟨_,_,_,h2,_⟩:=h;simp[ih h2]
  exact key hA
 refine⟨ds,[],p++[],[],p,[],hW',?_,?_,?_,hb.frame _,fun h=>by cases h⟩
 ·rw[List.append_nil,hs ds Vv,H2];exact trodAll_mk1 (shut_bool under4 true)
 ·rw[List.append_nil,hs ds Vv];have:=Z4X laidOut hb Qx hA A3;rw[<-hts] at this;exact this
 ·rw[List.append_nil,hs ds Vv,hv];rfl
theorem Zac(Lk:Looks){p:Pinned}{s:OpenSpec}{c:OpenClaim}(kinds:List LaidKind)(tests:Bool)(har:Bool×String)(lk:Bool)
 (hc:c.holds p s)(hw:c.wfByText s=true)(Vw:c.laidByTextAt Lk p kinds tests)
 (Ac:c.start= .entering)(hnb:c.noBlocks=false/\c.again=false)(hm:p.checked.prog.mainIs=some (har.1,har.2.toList))(hn:(!har.1&&har.2.isEmpty&& !lk)=false)
 (hl:∀f fn,p.checked.prog.funcNamed c.func=some f->p.checked.prog.funcs[f]? =some fn->lk=p.checked.prog.looks []/\∀(j:Nat) t,fn.params[j]? =some t->p.checked.prog.wantsStandIn t=false)
 (hg:true=c.goesBy p.checked.prog):
 Claim7.holds p (.plain s) {stood:={row:=c,standIns:=[],harness:=har,looks:=lk},kinds:=[],alts:=[],goes:=true,laidByText:=true,laidKinds:=kinds,laidTests:=tests,laidLooks:=Lk}:=by
 have h6:∀r:OpenClaim,Claim7.isSixth {stood:={row:=r,standIns:=[],harness:=har,looks:=lk},kinds:=[]}=false:=fun r=>by simpa[Claim7.isSixth] using hn
 exact⟨Claim7.tied_new_at Lk kinds tests (Claim7.new_of_sixth hc har lk Ac hnb hm (h6 c) hl) hw,(fun D hD=>by cases hD),Vw,(fun h=>by cases h),hg⟩
end Go.Proofs.Tryq
section
namespace Go.Nk
open Go Go.Region Go.Proofs.Tryq
section
variable {P:Program} {ops:Array Oper} {R:Exit->Act->World->Prop} {t:Nat} {l:List Nat}
def Ziq(ops:Array Oper):List Nat->List Nat->Bool
 |[],l=>(Region.ready .any ops (mark ops.size l)).isEmpty&&decide (l.length=ops.size)
 |k::ks,l=>(Region.ready .any ops (mark ops.size l)==[k])&&decide (k<ops.size)&&decide (l.length<ops.size)&&Ziq ops ks (k::l)
variable {i d:Nat} {pre:List Nat} {obj:Obj}
def Zic(ops:Array Oper):Nat->Nat->Nat->Bool
 |0,_,_=>false
 |f+1,i,j=>match ops[j]? with|some o=>(Zi7 o).any fun m=>m==i||Zic ops f i m|none=>false
def Closed(ops:Array Oper)(listed:Array Bool):Prop:=∀j o,ops[j]? =some o->listed.getD j false=true->∀m∈Zi7 o,listed.getD m false=true
theorem Zi9{listed:Array Bool}(hc:Closed ops listed):∀(f i j:Nat)(o:Oper),ops[j]? =some o->(∀m∈Zi7 o,listed.getD m false=true)->Zic ops f i j=true->listed.getD i false=true
 |0,_,_,_,_,_,h=>by cases h
 |f+1,i,j,o,ho,hm,h=>by
  rw[Zic,ho] at h;obtain⟨m,Dm,Kx⟩:=List.any_eq_true.1 h;have h1:=hm m Dm;simp only[Bool.or_eq_true,beq_iff_eq] at Kx;rcases Kx with rfl|Kx
  ·exact h1
  ·cases hom:ops[m]? with
   |none=>cases f<;>simp[Zic,hom] at Kx
   |some om=>exact Zi9 hc f i m om hom (hc m om hom h1) Kx
theorem Zii{l:Array Bool}{i j:Nat}(h:l.getD i false=true):(l.setIfInBounds j true).getD i false=true:=by
 simp only[Array.getD_eq_getD_getElem?,Array.getElem?_setIfInBounds] at*;split
 ·split
  ·rfl
  ·rename_i h1 h2;subst h1;rw[Array.getElem?_eq_none (by omega)] at h;exact h
 ·exact h
theorem Closed.set{listed:Array Bool}(hc:Closed ops listed){j:Nat}(hj:j∈Region.ready .any ops listed):Closed ops (listed.setIfInBounds j true):=by
 intro k o ho hk m hm;by_cases e:k=j
 ·subst e;obtain⟨_,o',ho',Ah⟩:=Go.mem_ready.1 hj;rw[ho] at ho';injection ho' with e;subst e;obtain⟨e,he,hb,rfl⟩:=Zf2 hm;exact Zii (Ah e he hb)
 ·have:listed.getD k false=true:=by
   simp only[Array.getD_eq_getD_getElem?,Array.getElem?_setIfInBounds] at*;rw[if_neg (fun h=>e h.symm)] at hk;exact hk
  exact Zii (hc k o ho this m hm)
def Zf9(ops:Array Oper)(t i:Nat):Bool:=(List.range ops.size).all fun j=>decide (j<t)||Zic ops ops.size i j
theorem ZeJ{listed:Array Bool}{i j:Nat}(hc:Closed ops listed)(hs:Zf9 ops t i=true)(hi:i∈Region.ready .any ops listed)(hj:j∈Region.ready .any ops listed):j<t:=by
 rcases Nat.lt_or_ge j t with h|h
 ·exact h
 ·obtain⟨_,oj,Bo,Ah⟩:=Go.mem_ready.1 hj;have h1:=List.all_eq_true.1 hs j (List.mem_range.2 (Array.getElem?_eq_some_iff.1 Bo).1);simp only[Bool.or_eq_true,decide_eq_true_eq] at h1;rcases h1 with h1|h1
  ·omega
  ·have h3:=Zi9 hc _ i j oj Bo (fun m hm=>by obtain⟨e,he,hb,rfl⟩:=Zf2 hm;exact Ah e he hb) h1;have h4:=(Go.mem_ready.1 hi).1;rcases Nat.lt_or_ge i listed.size with h'|h'
   ·simp[h'] at h3 h4;rw[h3] at h4;cases h4
   ·simp[Array.getElem?_eq_none h'] at h3
theorem Zih{i:Nat}{oi:Oper}{v:Value}(hi:ops[i]? =some oi)(C9:∀(j:Nat)(o:Oper) cs b,ops[j]? =some o->o.op≠.select cs b)(Ac:Zf9 ops t i=true)(hit:i<t):
 ∀(n:Nat)(listed:Array Bool)(a:Act)(w:World),Closed ops listed->
  (∀j oj,ops[j]? =some oj->j≠i->listed.getD j true=false->(∀e∈oj.after,Region.binds .any e=true->e.on≠i)->oi.apart ops oj=true)->
  i∈Region.ready .any ops listed->YE P ops w oi v a->anyE P ops R t n (listed.setIfInBounds i true) (a.put oi.dst v) w->anyE P ops R t (n+1) listed a w:=by
 intro n
 induction n with
 |zero=>
  intro listed a w _ _ hr hy H W hW;refine⟨fun h=>(by rw[h] at hr;cases hr),fun j hj=> ?_⟩;by_cases Al:j=i
  ·subst Al;exact⟨fun _=>hy.wpOp hi hW fun W' hW'=>⟨hW',H.ext (hW.trans hW')⟩,fun h=>by omega⟩
  ·have:=Go.ready_mono hj Al;rw[H.1] at this;cases this
 |succ n ih=>
  intro listed a w hc C6 hr hy H W hW;refine⟨fun h=>(by rw[h] at hr;cases hr),fun j hj=> ?_⟩;by_cases Al:j=i
  ·subst Al;exact⟨fun _=>hy.wpOp hi hW fun W' hW'=>⟨hW',H.ext (hW.trans hW')⟩,fun h=>by omega⟩
  ·obtain⟨D0,oj,Bo,Ah⟩:=Go.mem_ready.1 hj;have Cb:=C6 j oj Bo Al D0 (ZeW (j:=j) (Go.mem_ready.1 hr).1 Ah)
   have D1:∀k ok,ops[k]? =some ok->k≠i->(listed.setIfInBounds j true).getD k true=false->
    (∀e∈ok.after,Region.binds .any e=true->e.on≠i)->oi.apart ops ok=true:=fun k ok hk F9 Gz Dz=>by
    refine C6 k ok hk F9 ?_ Dz;by_cases Gd:j=k
    ·subst Gd;exact D0
    ·rw[getD_set_ne true Gd] at Gz;exact Gz
   refine⟨fun Oi=> ?_,fun Oi=> ?_⟩
   ·have h1:=((H W hW).2 j (Go.ready_mono hj Al)).1 Oi;refine wpOp_mono (fun a' w' h3=> ?_) (ZeV Bo Cb (fun cs b=>C9 j oj cs b Bo) h1);obtain⟨⟨u,d,rfl⟩,h4,h5⟩:=h3;refine⟨h4,ih (listed.setIfInBounds j true) _ w' (hc.set hj) D1 (Go.ready_mono hr (Ne.symm Al)) (YE.kept Cb (fun cs b=>C9 i oi cs b hi) (hy.ext (hW.trans h4))) ?_⟩;rw[Array.setIfInBounds_comm _ _ Al];exact h5
   ·have:=ZeJ hc Ac hr hj;omega
def Zik(ops:Array Oper)(l:List Nat):Bool:=(List.range ops.size).all fun j=> !(mark ops.size l).getD j false||match ops[j]? with|some o=>(Zi7 o).all fun m=>(mark ops.size l).getD m false|none=>true
theorem Zid(h:Zik ops l=true):Closed ops (mark ops.size l):=by
 intro j o ho hj m hm;have h1:=List.all_eq_true.1 h j (List.mem_range.2 (Array.getElem?_eq_some_iff.1 ho).1);rw[hj,ho] at h1;simp only[Bool.not_true,Bool.false_or] at h1;exact List.all_eq_true.1 h1 m hm
def Zil(ops:Array Oper)(t:Nat)(l:List Nat)(k:Nat):Bool:=decide (k<t)&&decide (l.length<ops.size)&&(Region.ready .any ops (mark ops.size l)).contains k&&Region.free .any ops (mark ops.size l) k&&Zf9 ops t k&&Zik ops l
theorem Zim{k:Nat}{o:Oper}{v:Value}{a:Act}{w:World}(hs:okT ops t=true)(hi:ops[k]? =some o)(hf:Zil ops t l k=true)(hy:YE P ops w o v a)(h:LX P ops R t (k::l) (a.put o.dst v) w):LX P ops R t l a w:=by
 unfold okT at hs;unfold Zil at hf;simp only[Bool.and_eq_true,decide_eq_true_eq] at hf;obtain⟨⟨⟨⟨⟨h1,h2⟩,h3⟩,h4⟩,h5⟩,h6⟩:=hf;unfold LX at*;rw[show ops.size - l.length=(ops.size - (k::l).length)+1 by simp only[List.length_cons];omega];exact Zih hi (Region.noSelect_spec hs) h5 h1 _ _ a w (Zid h6) (Region.free_spec hi h4) (by simpa using h3) hy h
def Zij(ops:Array Oper)(t:Nat):List Nat->List Nat->Bool
 |[],_=>true
 |k::ks,l=>Zil ops t l k&&(match ops[k]? with|some o=>ZeC o|none=>false)&&Zij ops t ks (k::l)
theorem Zio{w:World}(X:List Nat->Act->Prop)(E2:∀l k o v a,ops[k]? =some o->Zil ops t l k=true->YE P ops w o v a->X (k::l) (a.put o.dst v)->X l a):∀(ks l:List Nat)(a:Act),Zij ops t ks l=true->wpQuiet P ops (fun w'=>∃p:Gr,w'=gr w p.d p.os) (X (doneL ks l)) (ZeD ops.toList ks) a->X l a:=by
 intro ks
 induction ks with
 |nil=>intro l a _ h;exact h
 |cons k ks ih=>
  intro l a hp h;simp only[Zij,Bool.and_eq_true] at hp;obtain⟨⟨hf,ho⟩,hp⟩:=hp;cases hi:ops[k]? with
  |none=>rw[hi] at ho;cases ho
  |some o=>
   rw[hi] at ho;rw[ZeD,show ops.toList[k]? =some o by rw[Array.getElem?_toList];exact hi] at h;have hq:qOp P ops (fun w'=>∃p:Gr,w'=gr w p.d p.os) k (wpQuiet P ops (fun w'=>∃p:Gr,w'=gr w p.d p.os) (X (doneL (k::ks) l)) (ZeD ops.toList ks)) a:=by
    unfold qOp;simp only[hi];exact h
   obtain⟨v,hy,hK⟩:=yieldsIn_of_qOp hi hq;exact E2 l k o v a hi hf (hy.imp (fun h=>⟨h.1,fun W hW=>Zis ho (h.2 W (Zfi hW))⟩) id) (ih _ _ hp hK)
theorem Zin{o:List Oper}(ks:List Nat){a:Act}{w:World}(hs:okT o.toArray t=true)(hp:Zij o.toArray t ks l=true)(h:wpQuiet P o.toArray (fun w'=>∃p:Gr,w'=gr w p.d p.os) (fun a'=>LX P o.toArray R t (doneL ks l) a' w) (ZeD o ks) a):LX P o.toArray R t l a w:=
 Zio (X:=fun l a=>LX P o.toArray R t l a w) (fun _ _ _ _ _ hi hf hy h=>Zim hs hi hf hy h) ks l a hp h
def Zip(a:Act):List (Nat×Value)->Act
 |[]=>a
 |(d,v)::L=>Zip (a.put (some d) v) L
theorem Zia{c:Code}{a:Act}{w:World}{T:Type}(L:T->List (Nat×Value))(F:T->World->Prop)(h:c.wp P (fun e a' w'=>e= .normal/\∃x,a'=Zip a (L x)/\F x w') a w)(k:∀x w',F x w'->R .normal (Zip a (L x)) w'):c.wp P R a w:=
 Go.wp_mono h fun e a' w' ⟨he,x,ha,hF⟩=>by subst he ha;exact k x w' hF
end
end Go.Nk
namespace Go.Proofs.Tryq
open Go Go.Nk Go.RowKit
def ZjW(w:World)(b:Nat)(v0 v1 v2 v3 v4:Value):World:=((((w.setCell ⟨b,0,none⟩ v0).setCell ⟨b,1,none⟩ v1).setCell ⟨b,2,none⟩ v2).setCell ⟨b,3,none⟩ v3).setCell ⟨b,4,none⟩ v4
theorem ZiD{w:World}{b:Nat}{a0 a1 a2 a3 a4:Value}{t:TypeId}(h:w.heap[b]? =some (.cells #[a0,a1,a2,a3,a4] t))(v0 v1 v2 v3 v4:Value):(ZjW w b v0 v1 v2 v3 v4).heap[b]? =some (.cells #[v0,v1,v2,v3,v4] t):=
 Zb (Zb (Zb (Zb (Zb h v0) v1) v2) v3) v4
theorem ZiG(w:World){b c:Nat}(h:c≠b)(v0 v1 v2 v3 v4:Value):(ZjW w b v0 v1 v2 v3 v4).heap[c]? =w.heap[c]? :=
 (((((set_ne (a:=⟨b,4,none⟩) h v4).trans (set_ne (a:=⟨b,3,none⟩) h v3)).trans (set_ne (a:=⟨b,2,none⟩) h v2)).trans (set_ne (a:=⟨b,1,none⟩) h v1)).trans (set_ne (a:=⟨b,0,none⟩) h v0))
theorem ZiE{w0 w:World}(e:Ext w0 w){b:Nat}(h:w0.heap.size<=b)(v0 v1 v2 v3 v4:Value):Ext w0 (ZjW w b v0 v1 v2 v3 v4):=
 ((((e.setCell ⟨b,0,none⟩ v0 h).setCell ⟨b,1,none⟩ v1 h).setCell ⟨b,2,none⟩ v2 h).setCell ⟨b,3,none⟩ v3 h).setCell ⟨b,4,none⟩ v4 h
theorem ZiJ{w:World}{b:Nat}{c:Array Value}{t:TypeId}(h:w.heap[b]? =some (.cells c t)):
 w.frozen? ⟨b,0,none⟩=false/\w.frozen? ⟨b,1,none⟩=false/\w.frozen? ⟨b,2,none⟩=false/\w.frozen? ⟨b,3,none⟩=false/\w.frozen? ⟨b,4,none⟩=false:=
 ⟨Z8 h 0,Z8 h 1,Z8 h 2,Z8 h 3,Z8 h 4⟩
end Go.Proofs.Tryq
end
section
namespace Go.Nk
open Go Go.Region Go.Proofs.Tryq
structure Pre(E:World->World->Prop):Prop where
 rfl':∀w,E w w
 trans:∀{a b c},E a b->E b c->E a c
 drew:∀w,E w w.drew
structure GrE(E:World->World->Prop)(w:World) where
 W:World
 h:E w W
structure ExtX(X:Nat->Prop)(w w':World):Prop where
 size:w.heap.size<=w'.heap.size
 old:∀b,b<w.heap.size->¬X b->w'.heap[b]? =w.heap[b]?
 tape:w'.tape=w.tape
 os:w'.os=w.os
 output:w'.output=w.output
theorem ExtX.pre(X:Nat->Prop):Pre (ExtX X):=
 ⟨fun w=>⟨Nat.le_refl _,fun _ _ _=>rfl,rfl,rfl,rfl⟩,fun h h'=>⟨Nat.le_trans h.size h'.size,fun b hb hx=>(h'.old b (Nat.lt_of_lt_of_le hb h.size) hx).trans (h.old b hb hx),h'.tape.trans h.tape,h'.os.trans h.os,h'.output.trans h.output⟩,fun w=>⟨Nat.le_refl _,fun _ _ _=>rfl,rfl,rfl,rfl⟩⟩
theorem Ext.toX{w w':World}(h:Ext w w')(X:Nat->Prop):ExtX X w w':=⟨h.size,fun b hb _=>h.old b hb,h.tape,h.os,h.output⟩
theorem ExtX.cellS{X:Nat->Prop}{w w':World}(h:ExtX X w w'){a:Addr}{v:Value}(hx:¬X a.block)(hc:w.cell? a=some v):w'.cell? a=some v:=by
 have A3:a.block<w.heap.size:=by
  unfold World.cell? at hc;split at hc
  ·rename_i hh;exact(Array.getElem?_eq_some_iff.1 hh).1
  ·cases hc
 simp only[World.cell?,h.old _ A3 hx] at*;exact hc
instance (X:Nat->Prop)(w:World):Nonempty (GrE (ExtX X) w):=⟨⟨w,(ExtX.pre X).rfl' w⟩⟩
theorem GrE.cell{X:Nat->Prop}{w:World}{a:Addr}{v:Value}(hx:¬X a.block)(hc:w.cell? a=some v)(p:GrE (ExtX X) w):p.W.cell? a=some v:=p.h.cellS hx hc
section
variable {P:Program} {ops:Array Oper} {R:Exit->Act->World->Prop} {E:World->World->Prop}
def ZhT(P:Program)(ops:Array Oper)(R:Exit->Act->World->Prop)(E:World->World->Prop):Nat->Array Bool->Act->World->Prop
 |0,listed,a,w=>Region.ready .any ops listed=[]/\R .normal a w
 |n+1,listed,a,w=>(Region.ready .any ops listed=[]->R .normal a w)/\∀i∈Region.ready .any ops listed,
   wpOp P ops FQ i (fun a' W'=>E w W'/\ZhT P ops R E n (listed.setIfInBounds i true) a' W') a w
theorem wpAny_of_X:∀(n:Nat)(l:Array Bool)(a:Act)(w:World),ZhT P ops R E n l a w->wpAny P .any ops R n l a w
 |0,_,_,w,h=>h
 |n+1,_,_,w,h=>⟨h.1,fun i hi=>Zf8 noFQ (fun a' w' h'=>wpAny_of_X n _ a' w' h'.2) (h.2 i hi)⟩
def YVX(P:Program)(o:Oper)(a:Act)(W:World)(v:Value):Prop:=match (execOp a.eval o).run P W with
 | .ok (.value u) W'=>u=v/\W'=W
 | .ok .skip W'=>v=undef/\W'=W
 |_=>False
def YX(P:Program)(ops:Array Oper)(E:World->World->Prop)(w:World)(o:Oper)(v:Value)(a:Act):Prop:=
 (Region.wanted o (yielded ops a.tmps)=true/\∀W,E w W->YVX P o a W v)\/(Region.wanted o (yielded ops a.tmps)=false/\v=undef)
theorem YX.ext(hE:Pre E){w W:World}{o:Oper}{v:Value}{a:Act}(h:YX P ops E w o v a)(e:E w W):YX P ops E W o v a:=
 h.imp (fun h=>⟨h.1,fun W' h'=>h.2 W' (hE.trans e h')⟩) id
theorem YX.kept{w:World}{oi oj:Oper}{v u:Value}{a:Act}{d:List Deferred}(Cb:oi.apart ops oj=true)(V6:∀cs b,oi.op≠.select cs b)(hy:YX P ops E w oi v a):YX P ops E w oi v ({a with defers:=d}.put oj.dst u):=by
 obtain⟨h1,h2,h3⟩:=Oper.apart_spec Cb;have e1:execOp ({a with defers:=d}.put oj.dst u).eval oi=execOp a.eval oi:=execOp_put oi V6 _ oj.dst u h3;have e2:=wanted_put oi ({a with defers:=d}:Act) oj.dst u h3;unfold YX YVX at*;rw[e1,e2];exact hy
theorem YX.wpOp(hE:Pre E){i:Nat}{o:Oper}{v:Value}{a:Act}{w:World}(hi:ops[i]? =some o)(hy:YX P ops E w o v a){K:Act->World->Prop}{R:Exit->Act->World->Prop}(h:K (a.put o.dst v) w):wpOp P ops R i K a w:=by
 unfold Go.wpOp;simp only[hi];rcases hy with⟨hw,hv⟩|⟨hw,rfl⟩
 ·simp only[hw,if_true];refine .inl ?_;have h3:=hv w (hE.rfl' w);unfold YVX at h3;unfold Oper.wp;generalize (execOp a.eval o).run P w=r at*;cases r with
  |ok n w'=>
   cases n<;>simp only at h3<;>simp only[Oper.upon]
   case value u=>obtain⟨rfl,rfl⟩:=h3;exact h
   case skip=>obtain⟨rfl,rfl⟩:=h3;exact h
  |halt x w'=>simp only at h3
 ·simp only[hw,Bool.false_eq_true,if_false];exact h
theorem ZhA(hE:Pre E){i:Nat}{oi:Oper}{v:Value}(hi:ops[i]? =some oi)(C9:∀(j:Nat)(o:Oper) cs b,ops[j]? =some o->o.op≠.select cs b):
 ∀(n:Nat)(listed:Array Bool)(a:Act)(w:World),
  (∀j oj,ops[j]? =some oj->j≠i->listed.getD j true=false->(∀e∈oj.after,Region.binds .any e=true->e.on≠i)->oi.apart ops oj=true)->
  i∈Region.ready .any ops listed->YX P ops E w oi v a->ZhT P ops R E n (listed.setIfInBounds i true) (a.put oi.dst v) w->ZhT P ops R E (n+1) listed a w:=by
 intro n
 induction n with
 |zero=>
  intro listed a w _ hr hy H;refine⟨fun h=>(by rw[h] at hr;cases hr),fun j hj=> ?_⟩;by_cases Al:j=i
  ·subst Al;exact hy.wpOp hE hi ⟨hE.rfl' w,H⟩
  ·have:=Go.ready_mono hj Al;rw[H.1] at this;cases this
 |succ n ih=>
  intro listed a w C6 hr hy H;refine⟨fun h=>(by rw[h] at hr;cases hr),fun j hj=> ?_⟩;by_cases Al:j=i
  ·subst Al;exact hy.wpOp hE hi ⟨hE.rfl' w,H⟩
  ·obtain⟨D0,oj,Bo,Ah⟩:=Go.mem_ready.1 hj;have Cb:=C6 j oj Bo Al D0 (ZeW (j:=j) (Go.mem_ready.1 hr).1 Ah)
   have D1:∀k ok,ops[k]? =some ok->k≠i->(listed.setIfInBounds j true).getD k true=false->
    (∀e∈ok.after,Region.binds .any e=true->e.on≠i)->oi.apart ops ok=true:=fun k ok hk F9 Gz Dz=>by
    refine C6 k ok hk F9 ?_ Dz;by_cases Gd:j=k
    ·subst Gd;exact D0
    ·rw[getD_set_ne true Gd] at Gz;exact Gz
   have h1:=H.2 j (Go.ready_mono hj Al);refine wpOp_mono (fun a' w' h3=> ?_) (ZeV Bo Cb (fun cs b=>C9 j oj cs b Bo) h1);obtain⟨⟨u,d,rfl⟩,h4,h5⟩:=h3;refine⟨h4,ih (listed.setIfInBounds j true) _ w' D1 (Go.ready_mono hr (Ne.symm Al)) (YX.kept Cb (fun cs b=>C9 i oi cs b hi) (hy.ext hE h4)) ?_⟩;rw[Array.setIfInBounds_comm _ _ Al];exact h5
def LXE(P:Program)(ops:Array Oper)(R:Exit->Act->World->Prop)(E:World->World->Prop)(l:List Nat)(a:Act)(w:World):Prop:=ZhT P ops R E (ops.size - l.length) (mark ops.size l) a w
variable {l:List Nat}
def ZhQ(ops:Array Oper)(l:List Nat)(k:Nat):Bool:=decide (l.length<ops.size)&&(Region.ready .any ops (mark ops.size l)).contains k&&Region.free .any ops (mark ops.size l) k
theorem ZhR(hE:Pre E){k:Nat}{o:Oper}{v:Value}{a:Act}{w:World}(hs:Region.noSelect ops=true)(hi:ops[k]? =some o)(hf:ZhQ ops l k=true)(hy:YX P ops E w o v a)(h:LXE P ops R E (k::l) (a.put o.dst v) w):LXE P ops R E l a w:=by
 unfold ZhQ at hf;simp only[Bool.and_eq_true,decide_eq_true_eq] at hf;obtain⟨⟨h2,h3⟩,h4⟩:=hf;unfold LXE at*;rw[show ops.size - l.length=(ops.size - (k::l).length)+1 by simp only[List.length_cons];omega];exact ZhA hE hi (Region.noSelect_spec hs) _ _ a w (Region.free_spec hi h4) (by simpa using h3) hy h
theorem Zh4(k:Nat){o:Oper}{a:Act}{w:World}(hi:ops[k]? =some o)(hb:(decide (l.length<ops.size)&&Region.ready .any ops (mark ops.size l)==[k])=true)(hw:Region.wanted o (yielded ops a.tmps)=true)
 (h:o.wp P a w (fun a' W'=>E w W'/\LXE P ops R E (k::l) a' W') FQ):LXE P ops R E l a w:=by
 simp only[Bool.and_eq_true,decide_eq_true_eq,beq_iff_eq] at hb;unfold LXE at*;rw[show ops.size - l.length=(ops.size - (k::l).length)+1 by simp only[List.length_cons];omega];refine⟨fun h0=>(by rw[h0] at hb;cases hb.2),fun i hi'=> ?_⟩;rw[hb.2] at hi';obtain rfl:i=k:=by simpa using hi'
 unfold wpOp;simp only[hi,hw,if_true];exact .inl h
theorem Zir(k j:Nat){o q:Oper}{a:Act}{w:World}(hi:ops[k]? =some o)(hj:ops[j]? =some q)(hb:(decide (l.length<ops.size)&&Region.ready .any ops (mark ops.size l)==[k,j])=true)(hw:Region.wanted o (yielded ops a.tmps)=true)(Ep:Region.wanted q (yielded ops a.tmps)=true)
 (h:o.wp P a w (fun a' W'=>E w W'/\LXE P ops R E (k::l) a' W') FQ)(h2:q.wp P a w (fun a' W'=>E w W'/\LXE P ops R E (j::l) a' W') FQ):LXE P ops R E l a w:=by
 simp only[Bool.and_eq_true,decide_eq_true_eq,beq_iff_eq] at hb;unfold LXE at*;rw[show ops.size - l.length=(ops.size - (k::l).length)+1 by simp only[List.length_cons];omega];refine⟨fun h0=>(by rw[h0] at hb;cases hb.2),fun i hi'=> ?_⟩;rw[hb.2] at hi';rcases List.mem_cons.1 hi' with rfl|hi'
 ·unfold wpOp;simp only[hi,hw,if_true];exact .inl h
 ·obtain rfl:i=j:=by simpa using hi'
  unfold wpOp;simp only[hj,Ep,if_true];exact .inl h2
theorem ZhF{a:Act}{w:World}(hk:(ops.size==l.length&&(Region.ready .any ops (mark ops.size l)).isEmpty)=true)(h:R .normal a w):LXE P ops R E l a w:=by
 rw[Bool.and_eq_true,beq_iff_eq,List.isEmpty_iff] at hk;unfold LXE;rw[show ops.size - l.length=0 by omega];exact⟨hk.2,h⟩
theorem ZhU{o:Oper}(ho:ZeC o=true){a:Act}{C:World->Prop}{W:World}{v:Value}(h3:o.quietAt P a C W v):YVX P o a W v:=by
 unfold Oper.quietAt at h3;unfold YVX;cases hr:(execOp a.eval o).run P W with
 |ok n w'=>
  rw[hr] at h3;cases n<;>simp only[Oper.quietUpon] at h3
  case value u=>exact⟨h3.2,h3.1⟩
  case skip=>exact⟨h3.2,h3.1⟩
  case enter f args=>exact(ZeK ho hr).elim
 |halt x w'=>rw[hr] at h3;simp only[Oper.quietUpon] at h3
def Zhu(ops:Array Oper):List Nat->List Nat->Bool
 |[],_=>true
 |k::ks,l=>ZhQ ops l k&&(match ops[k]? with|some o=>ZeC o|none=>false)&&Zhu ops ks (k::l)
theorem ZhN(hE:Pre E){w:World}(hs:Region.noSelect ops=true):∀(ks l:List Nat)(a:Act),Zhu ops ks l=true->wpQuiet P ops (fun w'=>∃p:GrE E w,w'=p.W) (fun a'=>LXE P ops R E (doneL ks l) a' w) (ZeD ops.toList ks) a->LXE P ops R E l a w:=by
 intro ks
 induction ks with
 |nil=>intro l a _ h;exact h
 |cons k ks ih=>
  intro l a hp h;simp only[Zhu,Bool.and_eq_true] at hp;obtain⟨⟨hf,ho⟩,hp⟩:=hp;cases hi:ops[k]? with
  |none=>rw[hi] at ho;cases ho
  |some o=>
   rw[hi] at ho;rw[ZeD,show ops.toList[k]? =some o by rw[Array.getElem?_toList];exact hi] at h;have hq:qOp P ops (fun w'=>∃p:GrE E w,w'=p.W) k (wpQuiet P ops (fun w'=>∃p:GrE E w,w'=p.W) (fun a'=>LXE P ops R E (doneL (k::ks) l) a' w) (ZeD ops.toList ks)) a:=by
    unfold qOp;simp only[hi];exact h
   obtain⟨v,hy,hK⟩:=yieldsIn_of_qOp hi hq;exact ZhR hE hs hi hf (hy.imp (fun h=>⟨h.1,fun W hW=>ZhU ho (h.2 W ⟨⟨W,hW⟩,rfl⟩)⟩) id) (ih _ _ hp hK)
theorem Zh8(hE:Pre E){o:List Oper}(ks:List Nat){a:Act}{w:World}(hs:Region.noSelect o.toArray=true)(hp:Zhu o.toArray ks l=true)(h:wpQuiet P o.toArray (fun w'=>∃p:GrE E w,w'=p.W) (fun a'=>LXE P o.toArray R E (doneL ks l) a' w) (ZeD o ks) a):LXE P o.toArray R E l a w:=
 ZhN hE hs ks l a hp h
theorem Zhk(E:World->World->Prop){id:Nat}{a:Act}{w:World}(hm:P.follows .mixedOrders=true)(h:LXE P ops R E [] a w.drew):(Code.region id ops true).wp P R a w:=by
 unfold LXE at h;exact wp_region_any hm (wpAny_of_X _ _ _ _ h)
theorem Zie{o:Oper}{a:Act}{W:World}{K:Act->World->Prop}(h:∃W',(execOp a.eval o).run P W= .ok .skip W'/\K (a.put o.dst undef) W'):o.wp P a W K FQ:=by
 obtain⟨W',hr,h⟩:=h;unfold Oper.wp;rw[hr];simp only[Oper.upon];exact h
end
end Go.Nk
namespace Go.Proofs.Tryq
open Go Go.Nk Go.RowKit
theorem Zhv{X:Nat->Prop}{w w':World}{ow:Option Nat}(h:w.grownBy w' ow)(hX:∀k,ow=some k->X k):ExtX X w w':=
 ⟨h.size,fun b hb hn=>h.block b hb (fun e=>hn (hX b e.symm)),h.tape,h.os,h.output⟩
end Go.Proofs.Tryq
end
namespace Go.Proofs.Tryq
set_option maxRecDepth 100000
set_option maxHeartbeats 2000000
open Go Go.Nk Go.RowKit
theorem ZbP(a b c m:Int)(base:Option Addr)(n cap:Nat)(L:List Sf)(w:World)(A2:L.length=n)(hM:Meas w)(hS:RawA w base L)(s:Nat)(hb:w.heap[s]? =some (.cells #[.int .i64 a,.int .i64 b,.int .i64 c,.int .i64 m,.slice base n cap] 26)):
 Calls prog 136 #[.pointer (some ⟨s,0,none⟩)] w fun e w'=>e= .returned (.int .i64 (Zp a b c m L))/\Ext w w':=by
 have C4:=Z24 a b c m base n cap L w A2 hM hS;have q0:=Z0 hb 0;have q1:=Z0 hb 1;have q2:=Z0 hb 2;have q3:=Z0 hb 3;have q4:=Z0 hb 4;simp only[List.getElem?_toArray,List.getElem?_cons_zero,List.getElem?_cons_succ] at q0 q1 q2 q3 q4;go_enter func136,ntmps136;go_wp2_with (first|(go_at_call 25;refine C4.mono ?_;rintro e w2 ⟨rfl,A7⟩));go_ret;exact⟨rfl,A7⟩
theorem ZbQ(a b c m:Int)(base:Option Addr)(n cap:Nat)(bl:Option Addr)(k cl:Nat)(l:List Int)(w:World)(hn:n<=20)(hk:l.length=k)(B1:k<=100)(hl:RawI w bl l)(s t:Nat)
 (hs:w.heap[s]? =some (.cells #[.func (.func 135) #[.agg #[.int .i64 a,.int .i64 b,.int .i64 c,.int .i64 m,.slice base n cap]] #[]] 173))(ht:w.heap[t]? =some (.cells #[.slice bl k cl] 27)):
 Calls prog 137 #[.pointer (some ⟨s,0,none⟩),.pointer (some ⟨t,0,none⟩)] w fun e w'=>e= .returned (.int .i64 (Zq n l))/\Ext w w':=by
 have C4:=Z9y a b c m base n cap bl k cl l w hn hk B1 hl;have q0:=Z0 hs 0;have q1:=Z0 ht 0;simp only[List.getElem?_toArray,List.getElem?_cons_zero,List.getElem?_cons_succ] at q0 q1;go_enter func137,ntmps137;go_wp2_with (first|(go_at_call 135;refine C4.mono ?_;rintro e w2 ⟨rfl,A7⟩));go_ret;exact⟨rfl,A7⟩
def Zo(a b c m:Int)(L:List Sf)(l:List Int):Int:=firstV [Zp a b c m L,Zq L.length l]
theorem Z3c(a b c m:Int)(base:Option Addr)(n cap:Nat)(L:List Sf)(bl:Option Addr)(k cl:Nat)(l:List Int)(w:World)(A2:L.length=n)(hn:n<=20)(hk:l.length=k)(B1:k<=100)(hM:Meas w)(hS:RawA w base L)(hl:RawI w bl l):
 Calls prog 86 #[.agg #[.int .i64 a,.int .i64 b,.int .i64 c,.int .i64 m,.slice base n cap],.slice bl k cl] w fun e w'=>e= .returned (.tuple #[.agg #[.int .i64 a,.int .i64 b,.int .i64 c,.int .i64 m,.slice base n cap],.int .i64 (Zo a b c m L l)])/\Ext w w':=by
 have As:Ext w (((((w.alloc (.cells #[.int .i64 a,.int .i64 b,.int .i64 c,.int .i64 m,.slice base n cap] 26)).alloc (.cells #[.slice bl k cl] 27)).alloc (.cells #[.int .i64 0,.int .i64 0,.int .i64 0,.int .i64 0,.slice none 0 0] 120)).alloc (.cells #[.int .i64 a,.int .i64 b,.int .i64 c,.int .i64 m,.slice base n cap] 120)).alloc (.cells #[.func (.func 135) #[.agg #[.int .i64 a,.int .i64 b,.int .i64 c,.int .i64 m,.slice base n cap]] #[]] 173)):=((((((Ext.rfl' w).alloc _).alloc _).alloc _).alloc _).alloc _);have h0:(((((w.alloc (.cells #[.int .i64 a,.int .i64 b,.int .i64 c,.int .i64 m,.slice base n cap] 26)).alloc (.cells #[.slice bl k cl] 27)).alloc (.cells #[.int .i64 0,.int .i64 0,.int .i64 0,.int .i64 0,.slice none 0 0] 120)).alloc (.cells #[.int .i64 a,.int .i64 b,.int .i64 c,.int .i64 m,.slice base n cap] 120)).alloc (.cells #[.func (.func 135) #[.agg #[.int .i64 a,.int .i64 b,.int .i64 c,.int .i64 m,.slice base n cap]] #[]] 173)).heap[w.heap.size]? =some (.cells #[.int .i64 a,.int .i64 b,.int .i64 c,.int .i64 m,.slice base n cap] 26):=by
  simp only[Z3,Z2];rw[if_neg (by omega),if_neg (by omega),if_neg (by omega),if_neg (by omega),if_pos trivial]
 have h1:(((((w.alloc (.cells #[.int .i64 a,.int .i64 b,.int .i64 c,.int .i64 m,.slice base n cap] 26)).alloc (.cells #[.slice bl k cl] 27)).alloc (.cells #[.int .i64 0,.int .i64 0,.int .i64 0,.int .i64 0,.slice none 0 0] 120)).alloc (.cells #[.int .i64 a,.int .i64 b,.int .i64 c,.int .i64 m,.slice base n cap] 120)).alloc (.cells #[.func (.func 135) #[.agg #[.int .i64 a,.int .i64 b,.int .i64 c,.int .i64 m,.slice base n cap]] #[]] 173)).heap[w.heap.size+1]? =some (.cells #[.slice bl k cl] 27):=by
  simp only[Z3,Z2];rw[if_neg (by omega),if_neg (by omega),if_neg (by omega),if_pos trivial]
 have h2:(((((w.alloc (.cells #[.int .i64 a,.int .i64 b,.int .i64 c,.int .i64 m,.slice base n cap] 26)).alloc (.cells #[.slice bl k cl] 27)).alloc (.cells #[.int .i64 0,.int .i64 0,.int .i64 0,.int .i64 0,.slice none 0 0] 120)).alloc (.cells #[.int .i64 a,.int .i64 b,.int .i64 c,.int .i64 m,.slice base n cap] 120)).alloc (.cells #[.func (.func 135) #[.agg #[.int .i64 a,.int .i64 b,.int .i64 c,.int .i64 m,.slice base n cap]] #[]] 173)).heap[w.heap.size+1+1]? =some (.cells #[.int .i64 0,.int .i64 0,.int .i64 0,.int .i64 0,.slice none 0 0] 120):=by
  simp only[Z3,Z2];rw[if_neg (by omega),if_neg (by omega),if_pos trivial]
 have h3:(((((w.alloc (.cells #[.int .i64 a,.int .i64 b,.int .i64 c,.int .i64 m,.slice base n cap] 26)).alloc (.cells #[.slice bl k cl] 27)).alloc (.cells #[.int .i64 0,.int .i64 0,.int .i64 0,.int .i64 0,.slice none 0 0] 120)).alloc (.cells #[.int .i64 a,.int .i64 b,.int .i64 c,.int .i64 m,.slice base n cap] 120)).alloc (.cells #[.func (.func 135) #[.agg #[.int .i64 a,.int .i64 b,.int .i64 c,.int .i64 m,.slice base n cap]] #[]] 173)).heap[w.heap.size+1+1+1]? =some (.cells #[.int .i64 a,.int .i64 b,.int .i64 c,.int .i64 m,.slice base n cap] 120):=by
  simp only[Z3,Z2];rw[if_neg (by omega),if_pos trivial]
 have h4:(((((w.alloc (.cells #[.int .i64 a,.int .i64 b,.int .i64 c,.int .i64 m,.slice base n cap] 26)).alloc (.cells #[.slice bl k cl] 27)).alloc (.cells #[.int .i64 0,.int .i64 0,.int .i64 0,.int .i64 0,.slice none 0 0] 120)).alloc (.cells #[.int .i64 a,.int .i64 b,.int .i64 c,.int .i64 m,.slice base n cap] 120)).alloc (.cells #[.func (.func 135) #[.agg #[.int .i64 a,.int .i64 b,.int .i64 c,.int .i64 m,.slice base n cap]] #[]] 173)).heap[w.heap.size+1+1+1+1]? =some (.cells #[.func (.func 135) #[.agg #[.int .i64 a,.int .i64 b,.int .i64 c,.int .i64 m,.slice base n cap]] #[]] 173):=by
  simp only[Z3,Z2];rw[if_pos trivial]
 have Eg:∀w1,Ext w w1->w1.heap[w.heap.size]? =some (.cells #[.int .i64 a,.int .i64 b,.int .i64 c,.int .i64 m,.slice base n cap] 26)->w1.heap[w.heap.size+1]? =some (.cells #[.slice bl k cl] 27)->w1.heap[w.heap.size+1+1+1+1]? =some (.cells #[.func (.func 135) #[.agg #[.int .i64 a,.int .i64 b,.int .i64 c,.int .i64 m,.slice base n cap]] #[]] 173)->∀(W:World)(g:Nat),Ext w1 W->W.heap[g]? =some (.cells #[.func (.func 136) #[] #[.pointer (some ⟨w.heap.size,0,none⟩)],.func (.func 137) #[] #[.pointer (some ⟨w.heap.size+1+1+1+1,0,none⟩),.pointer (some ⟨w.heap.size+1,0,none⟩)]] 127)->
  Calls prog 90 #[.slice (some ⟨g,0,none⟩) 2 2] W fun e w'=>e= .returned (.int .i64 (Zo a b c m L l))/\Ext W w':=by
  intro w1 As h0 h1 h4 W g B7 hf;rw[show Zo a b c m L l=firstV [Zp a b c m L,Zq n l] by rw[Zo,A2]];refine Z1S g 2 2 (fun i=>if i=0 then 136 else 137) (fun i=> #[]) (fun i=>if i=0 then #[.pointer (some ⟨w.heap.size,0,none⟩)] else #[.pointer (some ⟨w.heap.size+1+1+1+1,0,none⟩),.pointer (some ⟨w.heap.size+1,0,none⟩)]) [Zp a b c m L,Zq n l] rfl (by omega) W ?_ ?_ ?_
  ·intro i hi;rw[Z0 hf];obtain rfl|rfl:i=0\/i=1:=by omega
   ·rfl
   ·rfl
  ·intro i hi args w';obtain rfl|rfl:i=0\/i=1:=by omega
   ·simp[go_sem]
   ·simp[go_sem]
  ·intro i x hx w' hE';have Av:=B7.trans hE'
   match i,hx with
   |0,hx=>
    obtain rfl:=Option.some.inj hx;exact ZbP a b c m base n cap L w' A2 (hM.ext (As.trans Av)) (hS.ext (As.trans Av)) _ (Av.get h0)
   |1,hx=>
    obtain rfl:=Option.some.inj hx;exact ZbQ a b c m base n cap bl k cl l w' hn hk B1 (hl.ext (As.trans Av)) _ _ (Av.get h4) (Av.get h1)
 generalize Zo a b c m L l=f at Eg⊢;go_enter func86,ntmps86;go_wp2;generalize World.alloc _ (.cells #[.func (.func 135) #[.agg #[.int .i64 a,.int .i64 b,.int .i64 c,.int .i64 m,.slice base n cap]] #[]] 173)=w1 at As h0 h1 h2 h3 h4⊢;have Dv:=Eg w1 As h0 h1 h4;clear Eg;have q0:=Z0 h3 0;have q1:=Z0 h3 1;have q2:=Z0 h3 2;have q3:=Z0 h3 3;have q4:=Z0 h3 4;simp only[List.getElem?_toArray,List.getElem?_cons_zero,List.getElem?_cons_succ] at q0 q1 q2 q3 q4;have z0:=Z8 h2 0;have z1:=Z8 h2 1;have z2:=Z8 h2 2;have z3:=Z8 h2 3;have z4:=Z8 h2 4;have y0:=Z0 h2 0;have y1:=Z0 h2 1;have y2:=Z0 h2 2;have y3:=Z0 h2 3;have y4:=Z0 h2 4;simp only[List.getElem?_toArray,List.getElem?_cons_zero,List.getElem?_cons_succ] at y0 y1 y2 y3 y4;have A8:¬w.heap.size+1+1=w.heap.size+1+1+1:=by omega
 go_region_held3 (fun w'=>w'.cell? ⟨w.heap.size+1+1+1,0,none⟩=some (.int .i64 a)/\w'.cell? ⟨w.heap.size+1+1+1,1,none⟩=some (.int .i64 b)/\w'.cell? ⟨w.heap.size+1+1+1,2,none⟩=some (.int .i64 c)/\w'.cell? ⟨w.heap.size+1+1+1,3,none⟩=some (.int .i64 m)/\w'.cell? ⟨w.heap.size+1+1+1,4,none⟩=some (.slice base n cap)) (go_keep) (first
  |(go_at_call 90;refine(Dv _ _ (by(repeat (with_reducible first|assumption|exact Ext.rfl' _|apply Ext.alloc|apply Ext.drew))) (by exact(Z3 _ _ _).trans (if_pos rfl))).mono ?_;rintro e w2 ⟨rfl,A7⟩
    have Av:Ext w1 w2:=Ext.trans (by(repeat (with_reducible first|assumption|exact Ext.rfl' _|apply Ext.alloc|apply Ext.drew))) A7;have g2:=Av.get h2;have z0:=Z8 g2 0;have z1:=Z8 g2 1;have z2:=Z8 g2 2;have z3:=Z8 g2 3;have z4:=Z8 g2 4;have y0:=Z0 g2 0;have y1:=Z0 g2 1;have y2:=Z0 g2 2;have y3:=Z0 g2 3;have y4:=Z0 g2 4;simp only[List.getElem?_toArray,List.getElem?_cons_zero,List.getElem?_cons_succ] at y0 y1 y2 y3 y4;have p0:=Av.cellS q0;have p1:=Av.cellS q1;have p2:=Av.cellS q2;have p3:=Av.cellS q3;have p4:=Av.cellS q4))
 all_goals
  go_wp2;have hw:w.heap.size<=w.heap.size+1+1:=by omega
  have Br:=Zb (Zb (Zb (Zb (Zb g2 (i:=0) (.int .i64 a)) (i:=1) (.int .i64 b)) (i:=2) (.int .i64 c)) (i:=3) (.int .i64 m)) (i:=4) (.slice base n cap);have s0:=Z0 Br 0;have s1:=Z0 Br 1;have s2:=Z0 Br 2;have s3:=Z0 Br 3;have s4:=Z0 Br 4;simp at s0 s1 s2 s3 s4;refine bodyPost_ret (v:= .tuple #[.agg #[.int .i64 a,.int .i64 b,.int .i64 c,.int .i64 m,.slice base n cap],.int .i64 f]) ((Z01 rfl _ _ _).trans ?_) rfl ⟨rfl,(((((As.trans Av).setCell _ _ hw).setCell _ _ hw).setCell _ _ hw).setCell _ _ hw).setCell _ _ hw⟩;simp[go_sem,s0,s1,s2,s3,s4]
end Go.Proofs.Tryq
section
namespace Go.Nk
open Go Go.Region
open Go.Proofs.Tryq (Ext Z3 Z2)
variable {P:Program} {ops:Array Oper} {Q:Exit->Act->World->Prop}
theorem Z03{id:Nat}{a:Act}{w:World}(hm:P.follows .mixedOrders=true)(he:Zdr ops=true)(I:(Nat->Bool)->Act->World->Prop)(h0:I (fun _=>false) a w.drew)
 (step:∀i o,ops[i]? =some o->∀ℓ a w,ℓ i=false->(∀k∈Zi7 o,ℓ k=true)->I ℓ a w->wpOp P ops Q i (fun a' w'=>I (upd ℓ i) a' w') a w)
 (fin:∀ℓ a w,(∀i,i<ops.size->ℓ i=true)->I ℓ a w->Q .normal a w):(Code.region id ops true).wp P Q a w:=by
 refine wp_region_any hm (Zad he I step fin ops.size _ a _ (by simp) ?_ ?_)
 ·have:=List.countP_le_length (p:=fun i=> !(Array.replicate ops.size false).getD i false) (l:=List.range ops.size);simpa using this
 ·have e:(fun j=>(Array.replicate ops.size false).getD j false)=fun _=>false:=by
   funext j;simp only[Array.getD_eq_getD_getElem?,Array.getElem?_replicate];split<;>rfl
  rw[e];exact h0
def AllIx{α:Type}(p:Nat->α->Prop):Nat->List α->Prop
 |_,[]=>True
 |k,x::l=>p k x/\AllIx p (k+1) l
theorem AllIx.get{α:Type}{p:Nat->α->Prop}:∀{l:List α}{k:Nat},AllIx p k l->∀i x,l[i]? =some x->p (k+i) x
 |[],_,_,i,x,h=>by simp at h
 |y::l,k,⟨h1,h2⟩,i,x,h=>by
  cases i with
  |zero=>simp at h;subst h;exact h1
  |succ i=>
   have:=h2.get i x (by simpa using h);rw[show k+(i+1)=k+1+i by omega];exact this
theorem Zds{a:Act}{d:Tmp}{v:Value}(h:d<a.tmps.size)(t:Tmp):(a.put (some d) v).tmps.getD t undef=if t=d then v else a.tmps.getD t undef:=by
 have e:(a.put (some d) v).tmps=a.tmps.setIfInBounds d v:=rfl;rw[e];simp only[Array.getD_eq_getD_getElem?,Array.getElem?_setIfInBounds];by_cases hd:d=t
 ·subst hd;simp[h]
 ·rw[if_neg hd,if_neg (fun e=>hd e.symm)]
theorem Z7x(a:Act)(d:Option Tmp)(v:Value):(a.put d v).tmps.size=a.tmps.size:=by
 cases d with
 |none=>rfl
 |some d=>simp[Act.put]
theorem put_defers(a:Act)(d:Option Tmp)(v:Value):(a.put d v).defers=a.defers:=by
 cases d<;>rfl
structure RI(n:Nat)(Dl:List (Option Tmp))(S:List (Option Value))(L0:Tmp->Value)(M:(Nat->Bool)->(Tmp->Value)->World->Prop)(ℓ:Nat->Bool)(a:Act)(w:World):Prop where
 defers:a.defers=[]
 size:a.tmps.size=n
 vals:∀i t v,Dl[i]? =some (some t)->S[i]? =some (some v)->ℓ i=true->a.tmps.getD t undef=v
 out:∀t,(∀i,Dl[i]? =some (some t)->ℓ i=false)->a.tmps.getD t undef=L0 t
 mem:M ℓ (fun t=>a.tmps.getD t undef) w
variable {n:Nat} {Dl:List (Option Tmp)} {S:List (Option Value)} {L0:Tmp->Value} {M:(Nat->Bool)->(Tmp->Value)->World->Prop} {ℓ:Nat->Bool} {a:Act} {w w':World} {i:Nat} {o:Oper}
theorem RI.start(hd:a.defers=[])(hs:a.tmps.size=n)(hM:M (fun _=>false) (fun t=>a.tmps.getD t undef) w):RI n Dl S (fun t=>a.tmps.getD t undef) M (fun _=>false) a w:=
 ⟨hd,hs,fun _ _ _ _ _ h=>(by cases h),fun _ _=>rfl,hM⟩
theorem apart_of:∀{Dl:List (Option Tmp)},(Dl.filterMap id).Nodup->∀{i j:Nat}{t:Tmp},Dl[i]? =some (some t)->Dl[j]? =some (some t)->i=j
 |[],_,i,j,t,h,_=>by simp at h
 |x::l,hn,i,j,t,h1,h2=>by
  cases x with
  |none=>
   have hn':(l.filterMap id).Nodup:=hn;cases i with
   |zero=>simp at h1
   |succ i=>
    cases j with
    |zero=>simp at h2
    |succ j=>rw[apart_of hn' (i:=i) (j:=j) (t:=t) (by simpa using h1) (by simpa using h2)]
  |some x=>
   have hn':(x::l.filterMap id).Nodup:=hn;rw[List.nodup_cons] at hn';have C0:∀{i:Nat},l[i]? =some (some x)->x∈l.filterMap id:=fun{i} h=>List.mem_filterMap.2 ⟨some x,List.mem_of_getElem? h,rfl⟩
   cases i with
   |zero=>
    simp at h1;subst h1;cases j with
    |zero=>rfl
    |succ j=>exact absurd (C0 (i:=j) (by simpa using h2)) hn'.1
   |succ i=>
    cases j with
    |zero=>
     simp at h2;subst h2;exact absurd (C0 (i:=i) (by simpa using h1)) hn'.1
    |succ j=>rw[apart_of hn'.2 (i:=i) (j:=j) (t:=t) (by simpa using h1) (by simpa using h2)]
theorem RI.put(h:RI n Dl S L0 M ℓ a w){d:Tmp}(hn:(Dl.filterMap id).Nodup)(hi:Dl[i]? =some (some d))(A3:d<n){v:Value}(hS:∀v',S[i]? =some (some v')->v=v')
 (hM:M (upd ℓ i) (fun t=>if t=d then v else a.tmps.getD t undef) w'):RI n Dl S L0 M (upd ℓ i) (a.put (some d) v) w':=by
 have hg:=Zds (a:=a) (v:=v) (by rw[h.size];exact A3);refine⟨by rw[put_defers];exact h.defers,by rw[Z7x];exact h.size,?_,?_,?_⟩
 ·intro j t v' hj hv hl;rw[hg];split
  ·rename_i e;subst e;have:=apart_of hn hi hj;subst this;exact hS v' hv
  ·rename_i e;refine h.vals j t v' hj hv ?_;rw[upd_ne] at hl
   ·exact hl
   ·rintro rfl;rw[hi] at hj;simp at hj;exact e hj.symm
 ·intro t ht;rw[hg];split
  ·rename_i e;subst e;have:=ht i hi;rw[Z0k] at this;cases this
  ·refine h.out t fun j hj=> ?_
   have A8:j≠i:=by
    rintro rfl;have:=ht j hj;rw[Z0k] at this;cases this
   have:=ht j hj
   rwa [upd_ne A8] at this
 ·have e:(fun t=>(a.put (some d) v).tmps.getD t undef)=fun t=>if t=d then v else a.tmps.getD t undef:=funext hg
  rw[e];exact hM
theorem RI.skip(h:RI n Dl S L0 M ℓ a w)(hi:Dl[i]? =some none)(hM:M (upd ℓ i) (fun t=>a.tmps.getD t undef) w'):RI n Dl S L0 M (upd ℓ i) a w':=by
 refine⟨h.defers,h.size,?_,?_,hM⟩
 ·intro j t v' hj hv hl;refine h.vals j t v' hj hv ?_;rw[upd_ne] at hl
  ·exact hl
  ·rintro rfl;rw[hi] at hj;cases hj
 ·intro t ht;refine h.out t fun j hj=> ?_
  have A8:j≠i:=by rintro rfl;rw[hi] at hj;cases hj
  have:=ht j hj
  rwa [upd_ne A8] at this
theorem Z3H{K:Act->World->Prop}(ho:ops[i]? =some o)(hg:o.guard=none)(h:o.wp P a w K Q):wpOp P ops Q i K a w:=by
 unfold wpOp;simp only[ho,Region.wanted,hg,if_true];exact .inl h
theorem RI.det(h:RI n Dl S L0 M ℓ a w)(ho:ops[i]? =some o)(hg:o.guard=none){d:Tmp}(hd:o.dst=some d)(hn:(Dl.filterMap id).Nodup)(hi:Dl[i]? =some (some d))(A3:d<n){v:Value}(hS:∀v',S[i]? =some (some v')->v=v')
 (Ag:(execOp a.eval o).run P w= .ok (.value v) w')(hM:M (upd ℓ i) (fun t=>if t=d then v else a.tmps.getD t undef) w'):wpOp P ops Q i (fun a' w'=>RI n Dl S L0 M (upd ℓ i) a' w') a w:=by
 refine Z3H ho hg ?_;unfold Oper.wp;rw[Ag,Oper.upon_value,hd];exact h.put hn hi A3 hS hM
theorem RI.v(h:RI n Dl S L0 M ℓ a w){A:List Nat}(hp:∀k∈A,ℓ k=true)(i t:Nat){v:Value}(h1:Dl[i]? =some (some t):=by rfl)(h2:S[i]? =some (some v):=by rfl)(h3:i∈A:=by decide):a.tmps.getD t undef=v:=h.vals i t v h1 h2 (hp i h3)
theorem RI.dt(h:RI n Dl S L0 M ℓ a w)(ho:ops[i]? =some o:=by rfl)(hg:o.guard=none:=by rfl){d:Tmp}(hd:o.dst=some d:=by rfl)(hn:(Dl.filterMap id).Nodup:=by decide)(hi:Dl[i]? =some (some d):=by rfl)(A3:d<n:=by decide){v:Value}(hS:S[i]? =some (some v):=by rfl)
 (r:(execOp a.eval o).run P w= .ok (.value v) w')(m:M (upd ℓ i) (fun t=>if t=d then v else a.tmps.getD t undef) w'):wpOp P ops Q i (fun a' w'=>RI n Dl S L0 M (upd ℓ i) a' w') a w:=
 h.det ho hg hd hn hi A3 (fun v' hv=>Option.some.inj (Option.some.inj (hS.symm.trans hv))) r m
theorem RI.eff(h:RI n Dl S L0 M ℓ a w)(ho:ops[i]? =some o)(hg:o.guard=none)(hd:o.dst=none)(hi:Dl[i]? =some none)
 (Ag:(execOp a.eval o).run P w= .ok .skip w')(hM:M (upd ℓ i) (fun t=>a.tmps.getD t undef) w'):wpOp P ops Q i (fun a' w'=>RI n Dl S L0 M (upd ℓ i) a' w') a w:=by
 refine Z3H ho hg ?_;unfold Oper.wp;rw[Ag,Oper.upon_skip,hd];exact h.skip hi hM
theorem RI.call(h:RI n Dl S L0 M ℓ a w)(ho:ops[i]? =some o)(hg:o.guard=none){d:Tmp}(hd:o.dst=some d)(hn:(Dl.filterMap id).Nodup)(hi:Dl[i]? =some (some d))(A3:d<n){f:FuncId}{args:Array Value}
 (Ag:(execOp a.eval o).run P w= .ok (.enter f args) w)
 (hc:Calls P f args w fun e w'=>∃v,e= .returned v/\(∀v',S[i]? =some (some v')->v=v')/\M (upd ℓ i) (fun t=>if t=d then v else a.tmps.getD t undef) w'):wpOp P ops Q i (fun a' w'=>RI n Dl S L0 M (upd ℓ i) a' w') a w:=by
 refine Z3H ho hg ?_;unfold Oper.wp;rw[Ag,Oper.upon_enter,hd];refine hc.mono ?_;rintro e w'' ⟨v,rfl,hS,hM⟩;exact h.put hn hi A3 hS hM
theorem Zel{arr:Array Value}{n:Nat}(h:arr.size=n):arr=((List.range n).map fun t=>arr.getD t undef).toArray:=by
 apply Array.ext
 ·simp[h]
 ·intro i h1 h2;simp[Array.getD_eq_getD_getElem?,Array.getElem?_eq_getElem h1]
theorem Z1z{a:Act}{n:Nat}(hd:a.defers=[])(h:a.tmps.size=n):a={tmps:=((List.range n).map fun t=>a.tmps.getD t undef).toArray,defers:=[]}:=by
 cases a;simp only at hd h;subst hd;rw[<-Zel h]
structure Bx where
 al:Nat
 t:Tmp
 st:Nat
 z:Array Value
 fin:Array Value
 ty:TypeId
def Bxs(w1:World)(B:List Bx)(ℓ:Nat->Bool)(x:Tmp->Value)(w:World):Prop:=
 Ext w1 w/\(∀e∈B,ℓ e.al=true->∃b,x e.t= .pointer (some ⟨b,0,none⟩)/\w1.heap.size<=b/\w.heap[b]? =some (.cells (if ℓ e.st then e.fin else e.z) e.ty))/\
 (∀e∈B,∀e'∈B,e.t≠e'.t->ℓ e.al=true->ℓ e'.al=true->x e.t≠x e'.t)/\∀e∈B,ℓ e.st=true->ℓ e.al=true
variable {w1:World} {B:List Bx} {x:Tmp->Value}
theorem Bxs.start(w1:World)(B:List Bx)(x:Tmp->Value):Bxs w1 B (fun _=>false) x w1.drew:=
 ⟨(Ext.rfl' w1).drew,fun _ _ h=>by(cases h),fun _ _ _ _ _ h=>by(cases h),fun _ _ h=>by(cases h)⟩
def farB(B:List Bx)(i:Nat)(d:Tmp):Bool:=B.all fun e=>e.al !=i&&e.st !=i&&e.t !=d
theorem Bxs.keep(h:Bxs w1 B ℓ x w)(e:Ext w w'){d:Tmp}{v:Value}(hf:farB B i d=true):Bxs w1 B (upd ℓ i) (fun t=>if t=d then v else x t) w':=by
 obtain⟨h1,h2,h3,h4⟩:=h
 have hb:∀e∈B,e.al≠i/\e.st≠i/\e.t≠d:=fun e he=>by
  have:=List.all_eq_true.1 hf e he;simp at this;exact⟨this.1.1,this.1.2,this.2⟩
 refine⟨h1.trans e,?_,?_,fun c hc hl=>by obtain⟨n1,n2,_⟩:=hb c hc;rw[upd_ne n2] at hl;rw[upd_ne n1];exact h4 c hc hl⟩
 ·intro c hc hl;obtain⟨n1,n2,n3⟩:=hb c hc;rw[upd_ne n1] at hl;obtain⟨b,B5,Ar,Br⟩:=h2 c hc hl;refine⟨b,by simp only;rw[if_neg n3];exact B5,Ar,?_⟩;rw[upd_ne n2];exact e.get Br
 ·intro c hc c' hc' A8 hl hl';obtain⟨n1,_,n3⟩:=hb c hc;obtain⟨n1',_,n3'⟩:=hb c' hc';rw[upd_ne n1] at hl;rw[upd_ne n1'] at hl';simp only;rw[if_neg n3,if_neg n3'];exact h3 c hc c' hc' A8 hl hl'
theorem Bxs.k(h:Bxs w1 B ℓ x w){d:Tmp}{v:Value}(hf:farB B i d=true:=by rfl):Bxs w1 B (upd ℓ i) (fun t=>if t=d then v else x t) w:=h.keep (Ext.rfl' _) hf
def Zem(B:List Bx)(i:Nat)(d:Tmp):Bool:=B.all fun e=>(e.al==i)==(e.t==d)&&e.st !=i
theorem Bxs.make(h:Bxs w1 B ℓ x w){c:Bx}(hc:c∈B)(hi:c.al=i)(Qy:ℓ i=false)(hf:Zem B i c.t=true)(E2:∀e∈B,e.al=i->e.z=c.z/\e.ty=c.ty/\e.st=c.st):
 Bxs w1 B (upd ℓ i) (fun t=>if t=c.t then .pointer (some ⟨w.heap.size,0,none⟩) else x t) (w.alloc (.cells c.z c.ty)):=by
 obtain⟨h1,h2,h3,h4⟩:=h
 have hb:∀e∈B,((e.al=i)↔(e.t=c.t))/\e.st≠i:=fun e he=>by
  have:=List.all_eq_true.1 hf e he;simp at this;refine⟨?_,this.2⟩;have h:=this.1;constructor
  ·intro ha;simpa[ha] using h
  ·intro ha;simpa[ha] using h
 have Ac:ℓ c.st=false:=by
  cases hb':ℓ c.st
  ·rfl
  ·have:=h4 c hc hb';rw[hi,Qy] at this;cases this
 refine⟨h1.alloc _,?_,?_,fun e he hl=>by
  obtain⟨_,n2⟩:=hb e he;rw[upd_ne n2] at hl;have:=h4 e he hl;by_cases ha:e.al=i
  ·rw[ha];exact Z0k _ _
  ·rw[upd_ne ha];exact this⟩
 ·intro e he hl;obtain⟨n1,n2⟩:=hb e he;by_cases ha:e.al=i
  ·obtain⟨z1,z2,z3⟩:=E2 e he ha;refine⟨w.heap.size,by simp only;rw[if_pos (n1.1 ha)],h1.size,?_⟩;rw[upd_ne n2,z3,Ac,Z3,if_pos rfl,z1,z2];rfl
  ·rw[upd_ne ha] at hl;obtain⟨b,B5,Ar,Br⟩:=h2 e he hl;refine⟨b,by simp only;rw[if_neg (fun e2=>ha (n1.2 e2))];exact B5,Ar,?_⟩;rw[upd_ne n2];exact((Ext.rfl' w).alloc _).get Br
 ·have key:∀e∈B,e.al≠i->ℓ e.al=true->x e.t≠.pointer (some ⟨w.heap.size,0,none⟩):=by
   intro e he ha hl hx;obtain⟨b,B5,_,Br⟩:=h2 e he hl;rw[hx] at B5;simp at B5;have:=(Array.getElem?_eq_some_iff.1 Br).1;omega
  intro e he e' he' A8 hl hl';obtain⟨n1,_⟩:=hb e he;obtain⟨n1',_⟩:=hb e' he';simp only;by_cases ha:e.al=i
  ·have ha':e'.al≠i:=fun h=>A8 ((n1.1 ha).trans (n1'.1 h).symm)
   rw[upd_ne ha'] at hl';rw[if_pos (n1.1 ha),if_neg (fun h=>ha' (n1'.2 h))];exact fun h=>key e' he' ha' hl' h.symm
  ·rw[upd_ne ha] at hl;rw[if_neg (fun h=>ha (n1.2 h))];by_cases ha':e'.al=i
   ·rw[if_pos (n1'.1 ha')];exact key e he ha hl
   ·rw[upd_ne ha'] at hl';rw[if_neg (fun h=>ha' (n1'.2 h))];exact h3 e he e' he' A8 hl hl'
theorem Z2z{w:World}{b:Nat}{u v u' v':Value}{t:TypeId}(h:w.heap[b]? =some (.cells #[u,v] t)):
 (((w.setCell ⟨b,0,none⟩ u').setCell ⟨b,1,none⟩ v').heap[b]? =some (.cells #[u',v'] t))/\(∀k,k≠b->((w.setCell ⟨b,0,none⟩ u').setCell ⟨b,1,none⟩ v').heap[k]? =w.heap[k]?)/\w.heap.size<=((w.setCell ⟨b,0,none⟩ u').setCell ⟨b,1,none⟩ v').heap.size/\((w.setCell ⟨b,0,none⟩ u').setCell ⟨b,1,none⟩ v').tape=w.tape/\((w.setCell ⟨b,0,none⟩ u').setCell ⟨b,1,none⟩ v').os=w.os/\((w.setCell ⟨b,0,none⟩ u').setCell ⟨b,1,none⟩ v').output=w.output:=
 ⟨Go.Proofs.Tryq.set_pair h u' v',fun k hk=>(Go.Proofs.Tryq.set_ne (w:=w.setCell _ _) hk _).trans (Go.Proofs.Tryq.set_ne hk _),by
   have hA:=Go.Conc.aside_setCell w ⟨b,0,none⟩ u';have hB:=Go.Conc.aside_setCell (w.setCell ⟨b,0,none⟩ u') ⟨b,1,none⟩ v';rw[hB.size,hA.size];exact⟨Nat.le_refl _,hB.tape.trans hA.tape,hB.os.trans hA.os,hB.output.trans hA.output⟩⟩
def fillB(B:List Bx)(i:Nat)(d:Tmp):Bool:=B.all fun e=>e.al !=i&&((e.st==i)==(e.t==d))
theorem Bxs.fill(h:Bxs w1 B ℓ x w){c:Bx}(hc:c∈B)(hi:c.st=i)(Jy:ℓ c.al=true)(hf:fillB B i c.t=true)(E2:∀e∈B,e.st=i->e.al=c.al/\e.fin=c.fin/\e.ty=c.ty){b:Nat}(hx:x c.t= .pointer (some ⟨b,0,none⟩))
 (hs:w.heap.size<=w'.heap.size)(ho:∀k,k≠b->w'.heap[k]? =w.heap[k]?)(ht:w'.tape=w.tape)(hos:w'.os=w.os)(H7:w'.output=w.output)(hb:w'.heap[b]? =some (.cells c.fin c.ty)):
 Bxs w1 B (upd ℓ i) x w':=by
 obtain⟨h1,h2,h3,h4⟩:=h
 have hB:∀e∈B,e.al≠i/\((e.st=i)↔(e.t=c.t)):=fun e he=>by
  have:=List.all_eq_true.1 hf e he;simp at this;refine⟨this.1,?_⟩;have h:=this.2;constructor
  ·intro ha;simpa[ha] using h
  ·intro ha;simpa[ha] using h
 obtain⟨b',B5,Ar,Br⟩:=h2 c hc Jy;rw[hx] at B5;simp at B5;subst B5
 refine⟨⟨Nat.le_trans h1.size hs,fun k hk=>(ho k (by omega)).trans (h1.old k hk),ht.trans h1.tape,hos.trans h1.os,H7.trans h1.output⟩,?_,?_,fun e he hl=>by
  obtain⟨n1,_⟩:=hB e he;rw[upd_ne n1];by_cases Li:e.st=i
  ·rw[(E2 e he Li).1];exact Jy
  ·rw[upd_ne Li] at hl;exact h4 e he hl⟩
 ·intro e he hl;obtain⟨n1,n2⟩:=hB e he;rw[upd_ne n1] at hl;by_cases Li:e.st=i
  ·obtain⟨y1,y2,y3⟩:=E2 e he Li;refine⟨b,by rw[n2.1 Li];exact hx,Ar,?_⟩;rw[Li,Z0k,hb,y2,y3];rfl
  ·rw[upd_ne Li];obtain⟨b2,c1,c2,c3⟩:=h2 e he hl;refine⟨b2,c1,c2,?_⟩;have A8:b2≠b:=by
    rintro rfl;have:=h3 e he c hc (fun h=>Li (n2.2 h)) hl Jy;rw[c1,hx] at this;exact this rfl
   rw[ho b2 A8];exact c3
 ·intro e he e' he' A8 hl hl';rw[upd_ne (hB e he).1] at hl;rw[upd_ne (hB e' he').1] at hl';exact h3 e he e' he' A8 hl hl'
end Go.Nk
namespace Go.Nk
open Go Go.Region
theorem AllIx.arr{p:Nat->Oper->Prop}{ops:Array Oper}(h:AllIx p 0 ops.toList):∀i o,ops[i]? =some o->p i o:=by
 intro i o ho;have:=h.get i o (by rw[Array.getElem?_toList];exact ho);rw[Nat.zero_add] at this;exact this
theorem RI.at_out{n:Nat}{Dl:List (Option Tmp)}{S:List (Option Value)}{L0:Tmp->Value}{M:(Nat->Bool)->(Tmp->Value)->World->Prop}{ℓ:Nat->Bool}{a:Act}{w:World}(h:RI n Dl S L0 M ℓ a w)(t:Tmp)(ht:Dl.contains (some t)=false):a.tmps.getD t undef=L0 t:=
 h.out t fun i hi=>by
  have:=List.mem_of_getElem? hi;rw[<-List.contains_iff_mem] at this;rw[this] at ht;cases ht
end Go.Nk
end
