import Derived.Test.YthahddndgbpooaaGreatDoorNkA
import Derived.Test.YthahddndgbpooaaGreatDoorNk16
set_option linter.all false
set_option maxRecDepth 100000
open Go
variable {ad:Addr}{ops:Array Oper}{z:Array Value}{b0 b0' b1 b1' b2 b2' b3 b3' b4 b4' b5 b5' b6 b6' main:Bool}{b c:Frame}{r0 r1 r2 r3:Int}{ds:List Deferred}{k' kk:List Item}{C Ik Ob Shb Wg cap d i n off:Nat}{ob:Obj}{oo:Oper}{x y:Operand}{s s':Tmp}{u v:Value}{w' w₁:World}
namespace Go.Proofs.Tryw
open Go Go.Nk Go.RowKit Go.Conc Go.Conc.Lib Go.ConcR.Gen Go.ConcN.Gen
open Go.ConcN (ShN WgLive PayAt Has CTag RW AtR0 AtK1)
open Go.ConcR (KK WgAt stA smA rd wr mk Payload DC0)
open Go.Proofs.Tryq (theBan ShotAt Zg Sh shL shH shO link payload wgLib Z0g Z3B Z1b)
attribute [local instance] kidBan
attribute [local instance] payload
noncomputable def body92:Code:=Tryz.f139.body.getD .skip
noncomputable def ops0:Array Oper:=match Tryz.f139.body with|some (.seq (.region _ o _) _)=>o|_=> #[]
noncomputable def ops1:Array Oper:=match Tryz.f139.body with|some (.seq _ (.region _ o _))=>o|_=> #[]
theorem body92_eq:body92= .seq (.region 0 ops0 false) (.region 1 ops1 true):=rfl
theorem ops1_departs:Region.departs ops1=false:=by kernel_rfl
theorem ops1_size:ops1.size=7:=by kernel_rfl
def chk(b0 b1 b2 b3 b4 b5 b6:Bool)(i:Nat):Bool:=match i with
 |0=> !b0|1=> !b1|2=> !b2|3=> !b3|4=> !b4&&b2&&b3|5=> !b5&&b0&&b1|6=> !b6&&b4&&b5|_=>false
theorem Z9N(b0 b1 b2 b3 b4 b5 b6:Bool):(Region.ready .any ops1 #[b0,b1,b2,b3,b4,b5,b6]).all (chk b0 b1 b2 b3 b4 b5 b6)=true:=by
 cases b0<;>cases b1<;>cases b2<;>cases b3<;>cases b4<;>cases b5<;>cases b6<;>kernel_rfl
theorem Z8k(b0 b1 b2 b3 b4 b5 b6:Bool):(!(Region.ready .any ops1 #[b0,b1,b2,b3,b4,b5,b6]).isEmpty||b6)=true:=by
 cases b0<;>cases b1<;>cases b2<;>cases b3<;>cases b4<;>cases b5<;>cases b6<;>kernel_rfl
section
variable {P:Program}{R:(Nat->Prop)->World->World->Prop}{D:(Nat->Prop)->World->World->Array Event->Prop}{Stop:(Nat->Prop)->Goroutine->World->Prop}
theorem Zda{k:List Item}{cs:List Frame}(I:Array Bool->(Nat->Prop)->Act->World->Prop)(μ:Array Bool->Nat)
 (hμ:∀l o a w i,I l o a w->i∈Region.ready .any ops l->μ (l.setIfInBounds i true)<μ l)
 (Ce:∀l o a w,I l o a w->Region.ready .any ops l=[]->∃r,GoT P main R D Stop r o (G (b.at a (.inRegion ops []::k)) cs) w)
 (Ad:∀l o a w i,I l o a w->i∈Region.ready .any ops l->∀rest,(∀o' a' w',I (l.setIfInBounds i true) o' a' w'->∃r,GoT P main R D Stop r o' (G (b.at a' (.inRegion ops rest::k)) cs) w')->
   ∃r,GoT P main R D Stop r o (G (b.at a (.inRegion ops (i::rest)::k)) cs) w):
 ∀(fuel t:Nat)(l:Array Bool)(o:Nat->Prop)(a:Act)(w:World),μ l<=fuel->I l o a w->∃r,GoT P main R D Stop r o (G (b.at a (.inRegion ops (Region.linearise.go .any ops fuel t l [])::k)) cs) w:=by
 intro fuel
 induction fuel with
 |zero=>
  intro t l o a w hf hI;have Df:Region.ready .any ops l=[]:=by
   cases hr:Region.ready .any ops l with
   |nil=>rfl
   |cons x xs=>have:=hμ l o a w x hI (by rw[hr];simp);omega
  simpa[Region.linearise.go] using Ce l o a w hI Df
 |succ fuel ih=>
  intro t l o a w hf hI;simp only[Region.linearise.go]
  change ∃r,GoT P main R D Stop r o (G (b.at a (.inRegion ops (match (Region.ready .any ops l)[t % (Region.ready .any ops l).length]? with
   |some i=>Region.linearise.go .any ops fuel (t / (Region.ready .any ops l).length) (l.setIfInBounds i true) [i]
   |none=>[].reverse)::k)) cs) w
  cases hi:(Region.ready .any ops l)[t % (Region.ready .any ops l).length]? with
  |none=>
   have Df:Region.ready .any ops l=[]:=by
    cases hr:Region.ready .any ops l with
    |nil=>rfl
    |cons x xs=>
     rw[hr] at hi;have A3:t % (x::xs).length<(x::xs).length:=Nat.mod_lt _ (by simp);rw[YH A3] at hi;cases hi
   simpa using Ce l o a w hI Df
  |some i=>
   have hm:=YQ hi;simp only[];rw[linearise_go_acc,List.reverse_singleton,List.singleton_append];have:=hμ l o a w i hI hm;exact Ad l o a w i hI hm _ λo' a' w' hI'=>ih _ _ o' a' w' (by omega) hI'
end
structure Kn(Bx Ob Ik C Wg Shb n k:Nat)(cc:Array Value)(ob:Obj)(w:World):Prop where
 outv:w.cell? ⟨Ob,0,none⟩=some (.slice (some ⟨C,0,none⟩) n n)
 ib:w.cell? ⟨Ik,0,none⟩=some (.int .i64 k)
 bx:∃f,w.heap[Bx]? =some (.cells cc 132 f)
 sh:w.heap[Shb]? =some ob
 size:Tryz.prog.globals.size<=w.heap.size/\C<w.heap.size
 live:WgLive link.tWg Wg w
 pay:PayAt C n w
section
variable {Bx k:Nat}{cc:Array Value}{Rd o:Nat->Prop}{w:World}
theorem Z2K{w:World}{a:Addr}(h:w₁.heap[a.block]? =w.heap[a.block]?):w₁.cell? a=w.cell? a:=by simp only[World.cell?,h]
theorem Kn.rely(h:Kn Bx Ob Ik C Wg Shb n k cc ob w)(hr:RWo link.tWg Wg C n k Rd o w w₁)(h1:Rd Ob)(h2:Rd Ik)(h3:Rd Bx)(h4:Rd Shb):Kn Bx Ob Ik C Wg Shb n k cc ob w₁:=
 ⟨(Z2K (hr.rd _ h1)).trans h.outv,(Z2K (hr.rd _ h2)).trans h.ib,by rw[hr.rd _ h3];exact h.bx,(hr.rd _ h4).trans h.sh,⟨XD h.size.1 hr.size,YS h.size.2 hr.size⟩,hr.live h.live,hr.pay h.pay⟩
theorem Z4T(hp:PayAt C n w)(v:Value):Go.ConcN.AsideCell C n k w (w.setCell ⟨C,k,none⟩ v):=by
 have hA:=TI w ⟨C,k,none⟩ v;obtain⟨arr,h1,h2⟩:=hp;have hb:(w.setCell ⟨C,k,none⟩ v).heap[C]? =some (.cells (arr.setIfInBounds k v) Payload.ety):=by
  rw[QK w C k arr _ (0,0) _ h1,setRow_heap w C _ _ _ _ h1]
 refine⟨hA.tape,hA.os,hA.output,hA.size,λb hb'=>hA.block b hb',λ_=>⟨_,hb,by simpa using h2⟩,λi' hi'=> ?_⟩;simp[World.cell?,hb,h1,YO (SC hi')]
theorem Zdb(hp:PayAt C n w)(hk:k<n)(v:Value):Has C k v (w.setCell ⟨C,k,none⟩ v):=by
 obtain⟨arr,h1,h2⟩:=hp;have hb:(w.setCell ⟨C,k,none⟩ v).heap[C]? =some (.cells (arr.setIfInBounds k v) Payload.ety):=by
  rw[QK w C k arr _ (0,0) _ h1,setRow_heap w C _ _ _ _ h1]
 simp[Has,World.cell?,hb,h2,hk]
end
theorem o_0:∃o,ops1[0]? =some o/\o.dst=some 4/\o.op= .load 134 (.tmp 3)/\o.guard=none:=⟨_,rfl,rfl,rfl,rfl⟩
theorem o_1:∃o,ops1[1]? =some o/\o.dst=some 5/\o.op= .load 3 (.tmp 2)/\o.guard=none:=⟨_,rfl,rfl,rfl,rfl⟩
theorem o_2:∃o,ops1[2]? =some o/\o.dst=some 6/\o.op= .load 132 (.tmp 1)/\o.guard=none:=⟨_,rfl,rfl,rfl,rfl⟩
theorem o_3:∃o,ops1[3]? =some o/\o.dst=some 7/\o.op= .load 3 (.tmp 2)/\o.guard=none:=⟨_,rfl,rfl,rfl,rfl⟩
theorem o_4:∃o,ops1[4]? =some o/\o.dst=some 8/\o.op= .call {callee:= .value (.func 141),args:= #[.tmp 6,.tmp 7],argTypes:= #[132,3]}/\o.guard=none:=⟨_,rfl,rfl,rfl,rfl⟩
theorem o_5:∃o,ops1[5]? =some o/\o.dst=some 9/\o.op= .indexAddr 134 (.tmp 4) (.tmp 5)/\o.guard=none:=⟨_,rfl,rfl,rfl,rfl⟩
theorem o_6:∃o,ops1[6]? =some o/\o.dst=none/\o.op= .store 188 (.tmp 9) (.tmp 8)/\o.guard=none:=⟨_,rfl,rfl,rfl,rfl⟩
section
variable {a:Act}{o:Oper}{w:World}
theorem Z9O{t:TypeId}(ht:t=134\/t=3)(A2:o.op= .load t x)(hx:a.eval x= .pointer (some ad))(hc:w.cell? ad=some v):
 (execOp a.eval o).run Tryz.prog w= .ok (.value v) w/\∀e∈(execOp a.eval o).events Tryz.prog w #[],e=⟨.cell ad,false,false⟩:=by
 unfold execOp;simp only[A2,hx];rcases ht with rfl|rfl
 ·constructor
  ·simp[go_sem,Instr.loadAt,hc]
  ·intro e he;simp[go_sem,Instr.loadAt,hc] at he;exact he
 ·constructor
  ·simp[go_sem,Instr.loadAt,hc]
  ·intro e he;simp[go_sem,Instr.loadAt,hc] at he;exact he
theorem ld_card{Bx:Nat}{b:Nat}{f:Nat×Nat}(A2:o.op= .load 132 x)(hx:a.eval x= .pointer (some ⟨Bx,0,none⟩))(hc:w.heap[Bx]? =some (.cells (Zg r0 r1 r2 r3 b off n cap) 132 f)):
 (execOp a.eval o).run Tryz.prog w= .ok (.value (.agg (Zg r0 r1 r2 r3 b off n cap))) w/\∀e∈(execOp a.eval o).events Tryz.prog w #[],∃i,e=⟨.cell ⟨Bx,i,none⟩,false,false⟩:=by
 have c0:w.cell? ⟨Bx,0,none⟩=some (.int .i64 r0):=by simp[World.cell?,hc,Zg]
 have c1:w.cell? ⟨Bx,1,none⟩=some (.int .i64 r1):=by simp[World.cell?,hc,Zg]
 have c2:w.cell? ⟨Bx,2,none⟩=some (.int .i64 r2):=by simp[World.cell?,hc,Zg]
 have c3:w.cell? ⟨Bx,3,none⟩=some (.int .i64 r3):=by simp[World.cell?,hc,Zg]
 have c4:w.cell? ⟨Bx,4,none⟩=some (.slice (some ⟨b,off,none⟩) n cap):=by simp[World.cell?,hc,Zg]
 unfold execOp;simp only[A2,hx,Zg];constructor
 ·simp[go_sem,Instr.loadAt,c0,c1,c2,c3,c4]
 ·intro e he;simp[go_sem,Instr.loadAt,c0,c1,c2,c3,c4] at he;rcases he with rfl|rfl|rfl|rfl|rfl;all_goals exact⟨_,rfl⟩
theorem Ze2{k:Nat}(hk:k<n)(A2:o.op= .indexAddr 134 x y)(hx:a.eval x= .slice (some ⟨C,0,none⟩) n n)(hy:a.eval y= .int .i64 k):
 (execOp a.eval o).run Tryz.prog w= .ok (.value (.pointer (some ⟨C,k,none⟩))) w/\∀e∈(execOp a.eval o).events Tryz.prog w #[],False:=by
 have e1:Addr.add ⟨C,0,none⟩ k=⟨C,k,none⟩:=by unfold Addr.add;split<;>simp_all
 unfold execOp;simp only[A2,hx,hy];constructor
 ·simp[go_sem,Instr.indexAt,hk,e1]
 ·intro e he;simp[go_sem,Instr.indexAt,hk,e1] at he
theorem Ze3{k:Nat}{q:Addr}(A2:o.op= .store 188 x y)(hx:a.eval x= .pointer (some ⟨C,k,none⟩))(hy:a.eval y= .pointer (some q))(hc:w.cell? ⟨C,k,none⟩=some u)(hz:w.frozen? ⟨C,k,none⟩=false):
 (execOp a.eval o).run Tryz.prog w= .ok .skip (w.setCell ⟨C,k,none⟩ (.pointer (some q)))/\∀e∈(execOp a.eval o).events Tryz.prog w #[],e=⟨.cell ⟨C,k,none⟩,true,false⟩:=by
 unfold execOp;simp only[A2,hx,hy];constructor
 ·simp[go_sem,Instr.storeAt,stored,hc,hz]
 ·intro e he;simp[go_sem,Instr.storeAt,events_store Tryz.prog w #[] ⟨C,k,none⟩ (.pointer (some q)) .plain rfl,storedEv,hc,hz] at he;exact he
theorem Zbx(A2:o.op= .call {callee:= .value (.func 141),args:= #[x,y],argTypes:= #[132,3]})(hx:a.eval x=u)(hy:a.eval y=v):
 (execOp a.eval o).run Tryz.prog w= .ok (.enter 141 #[u,v]) w/\∀e∈(execOp a.eval o).events Tryz.prog w #[],False:=by
 have ef:a.eval (.func 141)= .func (.func 141) #[] #[]:=rfl;have em:(#[x,y]:Array Operand).map a.eval= #[u,v]:=by simp only[TM,VC,VQ,hx,hy]
 have hb:¬Tryz.f141.body=none:=λh=>by
  have h1:Tryz.f141.body.isNone=false:=rfl;rw[h] at h1;cases h1
 have hn:¬Tryz.f141.name= "runtime.NumGoroutine" :=by
  have:(Tryz.f141.name== "runtime.NumGoroutine")=false:=by kernel_rfl
  simpa using this
 unfold execOp;simp only[A2,resolve,em,ef,Deferred.ofValue];constructor
 ·simp[invoke,go_sem,callFunc,hb,hn]
 ·intro e he;simp[invoke,go_sem,callFunc,hb,hn] at he
end
end Go.Proofs.Tryw
section
namespace Go.Proofs.Tryw
open Go Go.Nk Go.RowKit Go.Conc Go.Conc.Lib Go.ConcR.Gen Go.ConcN.Gen
open Go.ConcN (ShN WgLive PayAt Has CTag RW AtR0 AtK1)
open Go.ConcR (KK WgAt stA smA rd wr mk Payload DC0)
open Go.Proofs.Tryq (theBan ShotAt Zg Sh shL shH shO link payload wgLib Z0g Z3B Z1b)
attribute [local instance] kidBan
attribute [local instance] payload
structure KE where
 (Bx Ob Ik C Wg n k off cap sb:Nat)
 (r0 r1 r2 r3:Int)
 s:Sh
 V:World
 ρ:Nat->Nat
 (Sb Rd L:Nat->Prop)
 (c c':Array Value)
 e:TypeId
 (f f':Nat×Nat)
namespace KE
def cc(K:KE):Array Value:=Zg K.r0 K.r1 K.r2 K.r3 (K.ρ K.sb) K.off K.n K.cap
structure Ok(K:KE):Prop where
 hk:K.k<K.n
 hat:K.s.c<=90
 hS:ShotAt K.V K.sb (K.off+K.k*5) K.s.c K.s.m K.s.M K.s.wi K.s.li
 hV:K.V.heap[K.sb]? =some (.cells K.c K.e K.f)
 har: @AR theBan K.ρ K.L K.c K.c'
 low:K.ρ K.sb<Tryz.prog.globals.size↔K.sb<Tryz.prog.globals.size
 hGV:Tryz.prog.globals.size<=K.V.heap.size
 rd:∀b,b=K.Ob\/b=K.Ik\/b=K.Bx\/b=K.ρ K.sb->K.Rd b/\¬K.Sb b
 ne:∀b,b=K.Wg\/b=K.Ob\/b=K.Ik\/b=K.Bx\/b=K.ρ K.sb->b≠K.C
abbrev Kno(K:KE)(w:World):Prop:=Kn K.Bx K.Ob K.Ik K.C K.Wg (K.ρ K.sb) K.n K.k K.cc (.cells K.c' K.e K.f') w
abbrev R(K:KE):(Nat->Prop)->World->World->Prop:=RWo link.tWg K.Wg K.C K.n K.k K.Rd
abbrev D(K:KE):(Nat->Prop)->World->World->Array Event->Prop:=DWo K.Wg K.C K.n K.Sb K.k K.Rd
abbrev Fv(K:KE)(o:Nat->Prop)(β:Nat->Nat)(w:World):Prop:=Five K.cc K.r0 K.r1 K.r2 K.r3 K.s o β w
def Res(K:KE)(o:Nat->Prop)(v:Value)(w:World):Prop:=∃β,v= .pointer (some ⟨β 1,0,none⟩)/\K.Fv o β w
structure Inv(K:KE)(b0 b1 b2 b3 b4 b5 b6:Bool)(o:Nat->Prop)(a:Act)(w:World):Prop where
 size:a.tmps.size=10
 defers:a.defers=[dcall 140 #[.pointer (some ⟨K.Wg,0,none⟩)]]
 t1:a.eval (.tmp 1)= .pointer (some ⟨K.Bx,0,none⟩)
 t2:a.eval (.tmp 2)= .pointer (some ⟨K.Ik,0,none⟩)
 t3:a.eval (.tmp 3)= .pointer (some ⟨K.Ob,0,none⟩)
 kn:K.Kno w
 no:∀b,b=K.C\/b=K.Wg\/b=K.Ob\/b=K.Ik\/b=K.Bx\/b=K.ρ K.sb->¬o b
 v0:b0=true->a.eval (.tmp 4)= .slice (some ⟨K.C,0,none⟩) K.n K.n
 v1:b1=true->a.eval (.tmp 5)= .int .i64 K.k
 v2:b2=true->a.eval (.tmp 6)= .agg K.cc
 v3:b3=true->a.eval (.tmp 7)= .int .i64 K.k
 v4:b4=true->K.Res o (a.eval (.tmp 8)) w
 v5:b5=true->a.eval (.tmp 9)= .pointer (some ⟨K.C,K.k,none⟩)
 v6:b6=true->∃v,K.Res o v w/\Has K.C K.k v w
section
variable {K:KE}{o:Nat->Prop}{a:Act}{w:World}
theorem Res.own(h:K.Res o v w)(hw:∀b,o b->w₁.heap[b]? =w.heap[b]?):K.Res o v w₁:=by
 obtain⟨β,e,h1,h2,h3⟩:=h;exact⟨β,e,h1,λj hj=>(hw _ (h1 j hj)).trans (h2 j hj),h3⟩
theorem Inv.rely(hK:K.Ok)(h:K.Inv b0 b1 b2 b3 b4 b5 b6 o a w)(hr:K.R o w w₁):K.Inv b0 b1 b2 b3 b4 b5 b6 o a w₁:=
 ⟨h.size,h.defers,h.t1,h.t2,h.t3,h.kn.rely hr (hK.rd _ (.inl rfl)).1 (hK.rd _ (.inr (.inl rfl))).1 (hK.rd _ (.inr (.inr (.inl rfl)))).1 (hK.rd _ (.inr (.inr (.inr rfl)))).1,h.no,h.v0,h.v1,h.v2,h.v3,λhb=>(h.v4 hb).own hr.own,h.v5,
  λhb=>let ⟨v,h1,h2⟩:=h.v6 hb;⟨v,h1.own hr.own,hr.cell.trans h2⟩⟩
theorem dw_reads(hK:K.Ok){es:Array Event}(h:∀e∈es,∃ad,e=⟨.cell ad,false,false⟩/\(ad.block=K.Ob\/ad.block=K.Ik\/ad.block=K.Bx))(A3:∀b,b=K.Ob\/b=K.Ik\/b=K.Bx->b<w.heap.size):K.D o w w es:=by
 refine⟨λ_ _ _ _=>rfl,id,λ_ _=>rfl,XB _,rfl,rfl,rfl,λe he=> ?_⟩;obtain⟨ad,rfl,hb⟩:=h e he;refine⟨⟨λx hx=> ?_,by simp[Z0r]⟩,by simp only[SK,MemAct.low];exact A3 _ hb⟩;simp only[SK,MemAct.touch?,XJ] at hx;subst hx;obtain⟨h1,h2⟩:=hK.rd ad.block (by rcases hb with h|h|h<;>simp[h]);exact .inr (.inr (.inr ⟨.inl ⟨_,rfl,h1⟩,by rintro⟨x,e,hx⟩;cases e;exact h2 hx,rfl⟩))
theorem Inv.lt(h:K.Inv b0 b1 b2 b3 b4 b5 b6 o a w):∀b,b=K.Ob\/b=K.Ik\/b=K.Bx->b<w.heap.size:=by
 have key:∀{ad:Addr}{v:Value},w.cell? ad=some v->ad.block<w.heap.size:=by
  intro ad v hc;unfold World.cell? at hc;split at hc
  ·rename_i hh;exact(YF.1 hh).1
  ·cases hc
 rintro b (rfl|rfl|rfl)
 ·exact key h.kn.outv
 ·exact key h.kn.ib
 ·obtain⟨f,hf⟩:=h.kn.bx;exact(YF.1 hf).1
end
end KE
section
variable {K:KE}{o:Nat->Prop}{a:Act}{w:World}{cs:List Frame}{rest:List Nat}{Stop:(Nat->Prop)->Goroutine->World->Prop}
theorem Z3C(hK:K.Ok)(hb:b.kind≠.early)(hI:K.Inv b0 b1 b2 b3 b4 b5 b6 o a w)(ho:ops1[i]? =some oo)(hd:oo.dst=some d)(hg:oo.guard=none)
 (hr:∀w₁,K.Inv b0 b1 b2 b3 b4 b5 b6 o a w₁->(execOp a.eval oo).run Tryz.prog w₁= .ok (.value v) w₁/\∀e∈(execOp a.eval oo).events Tryz.prog w₁ #[],∃ad,e=⟨.cell ad,false,false⟩/\(ad.block=K.Ob\/ad.block=K.Ik\/ad.block=K.Bx))
 (next:∀w₁,K.Inv b0 b1 b2 b3 b4 b5 b6 o a w₁->∃r,GoT Tryz.prog false K.R K.D Stop r o (G (b.at (a.put (some d) v) (.inRegion ops1 rest::kk)) cs) w₁):
 ∃r,GoT Tryz.prog false K.R K.D Stop r o (G (b.at a (.inRegion ops1 (i::rest)::kk)) cs) w:=by
 refine GoT.step rfl λw₁ hw=> ?_
 have C5:=hI.rely hK hw;obtain⟨h1,h2⟩:=hr w₁ C5;obtain⟨r,hn⟩:=next w₁ C5
 refine⟨_,w₁,_,r,stepG_value ho (Z0g hg _) hb h1,KE.dw_reads hK (λe he=>h2 e (RB he)) C5.lt,?_⟩;rw[Z0a rfl,hd];exact hn
theorem Z7x:(a.put (some d) v).tmps.size=a.tmps.size:=by rw[Z1b];simp
theorem Z2L(hI:K.Inv b0 b1 b2 b3 b4 b5 b6 o a w)(hd:4<=d/\d<10)
 (h0:b0'=true->if d=4 then v= .slice (some ⟨K.C,0,none⟩) K.n K.n else b0=true)(h1:b1'=true->if d=5 then v= .int .i64 K.k else b1=true)(h2:b2'=true->if d=6 then v= .agg K.cc else b2=true)
 (h3:b3'=true->if d=7 then v= .int .i64 K.k else b3=true)(h4:b4'=true->if d=8 then K.Res o v w else b4=true)(h5:b5'=true->if d=9 then v= .pointer (some ⟨K.C,K.k,none⟩) else b5=true)(h6:b6'=true->b6=true):
 K.Inv b0' b1' b2' b3' b4' b5' b6' o (a.put (some d) v) w:=by
 have ev:∀i,(a.put (some d) v).eval (.tmp i)=if d=i then v else a.eval (.tmp i):=λi=>Z3B (by rw[hI.size];omega)
 refine⟨Z7x.trans hI.size,hI.defers,?_,?_,?_,hI.kn,hI.no,λhb=> ?_,λhb=> ?_,λhb=> ?_,λhb=> ?_,λhb=> ?_,λhb=> ?_,λhb=>hI.v6 (h6 hb)⟩
 ·rw[ev,XA (by omega)];exact hI.t1
 ·rw[ev,XA (by omega)];exact hI.t2
 ·rw[ev,XA (by omega)];exact hI.t3
 ·have:=h0 hb;rw[ev];split at this
  ·rename_i e;rw[YZ e];exact this
  ·rename_i e;rw[XA e];exact hI.v0 this
 ·have:=h1 hb;rw[ev];split at this
  ·rename_i e;rw[YZ e];exact this
  ·rename_i e;rw[XA e];exact hI.v1 this
 ·have:=h2 hb;rw[ev];split at this
  ·rename_i e;rw[YZ e];exact this
  ·rename_i e;rw[XA e];exact hI.v2 this
 ·have:=h3 hb;rw[ev];split at this
  ·rename_i e;rw[YZ e];exact this
  ·rename_i e;rw[XA e];exact hI.v3 this
 ·have:=h4 hb;rw[ev];split at this
  ·rename_i e;rw[YZ e];exact this
  ·rename_i e;rw[XA e];exact hI.v4 this
 ·have:=h5 hb;rw[ev];split at this
  ·rename_i e;rw[YZ e];exact this
  ·rename_i e;rw[XA e];exact hI.v5 this
theorem Zdc(hK:K.Ok)(h4:b4=false)(h6:b6=false){w':World}{es:Array Event}(hI:K.Inv b0 b1 b2 b3 b4 b5 b6 o a w)(hD:K.D o w w' es):K.Inv b0 b1 b2 b3 b4 b5 b6 (grow o w w') a w':=by
 have A3:=hI.lt;have Bz:K.ρ K.sb<w.heap.size:=(YF.1 hI.kn.sh).1;have Ax:K.Wg<w.heap.size:=by obtain⟨_,_,h⟩:=hI.kn.live;exact(YF.1 h).1
 have st:∀b,b<w.heap.size->b=K.Wg\/b=K.Ob\/b=K.Ik\/b=K.Bx\/b=K.ρ K.sb->w'.heap[b]? =w.heap[b]? :=λb hb h=>hD.stay b hb (hI.no b (.inr h)) (hK.ne b h)
 refine⟨hI.size,hI.defers,hI.t1,hI.t2,hI.t3,⟨(Z2K (st _ (A3 _ (.inl rfl)) (.inr (.inl rfl)))).trans hI.kn.outv,(Z2K (st _ (A3 _ (.inr (.inl rfl))) (.inr (.inr (.inl rfl))))).trans hI.kn.ib,?_,(st _ Bz (.inr (.inr (.inr (.inr rfl))))).trans hI.kn.sh,
  ⟨XD hI.kn.size.1 hD.size,YS hI.kn.size.2 hD.size⟩,?_,hD.pay hI.kn.pay⟩,?_,hI.v0,hI.v1,hI.v2,hI.v3,(λh=>by rw[h4] at h;cases h),hI.v5,(λh=>by rw[h6] at h;cases h)⟩
 ·obtain⟨f,hf⟩:=hI.kn.bx;exact⟨f,(st _ (A3 _ (.inr (.inr rfl))) (.inr (.inr (.inr (.inl rfl))))).trans hf⟩
 ·obtain⟨x,y,h⟩:=hI.kn.live;exact⟨x,y,(st _ Ax (.inl rfl)).trans h⟩
 ·rintro b hb (h|⟨h1,_⟩)
  ·exact hI.no b hb h
  ·have Dx:b<w.heap.size:=by
    rcases hb with rfl|rfl|rfl|rfl|rfl|rfl
    ·exact hI.kn.size.2
    ·exact Ax
    ·exact A3 _ (.inl rfl)
    ·exact A3 _ (.inr (.inl rfl))
    ·exact A3 _ (.inr (.inr rfl))
    ·exact Bz
   omega
theorem carry{P:Program}{R:(Nat->Prop)->World->World->Prop}{D:(Nat->Prop)->World->World->Array Event->Prop}{Stop:(Nat->Prop)->Goroutine->World->Prop}{F:(Nat->Prop)->World->Prop}(hR:∀o a b,R o a b->F o a->F o b)(hD:∀o a b es,D o a b es->F o a->F (grow o a b) b):
 ∀{r:Tr}{o:Nat->Prop}{g:Goroutine}{w:World},GoT P main R D Stop r o g w->F o w->GoT P main R D (λo g w=>Stop o g w/\F o w) r o g w:=by
 intro r
 induction r with
 |leaf=>exact λh hf w₁ hr=>⟨h w₁ hr,hR _ _ _ hr hf⟩
 |node f ih=>
  intro o g w h hf;rcases h with h|⟨hs,h⟩
  ·exact .inl λw₁ hr=>⟨h w₁ hr,hR _ _ _ hr hf⟩
  ·exact .inr ⟨hs,λw₁ hr=>Z2o (h w₁ hr) λg' w' es ⟨d,x⟩=>⟨d,ih w₁ x (hD _ _ _ _ d (hR _ _ _ hr hf))⟩⟩
theorem Z8l{fr:Frame}{cs:List Frame}{w:World}(hfn:fr.fn=141)(hk:fr.kind= .normal)(hm:fr.mode= .returning)(hd:fr.defers=[]):stepG Tryz.prog false (G fr (c::cs)) w= .go (G (c.finish (fr.tmps.getD 4 undef)) cs) w #[]:=by
 have Aj:(results Tryz.f141 fr.tmps).runT Tryz.prog w #[]=(.ok (fr.tmps.getD 4 undef) w,#[]):=by simp[results,results94]
 have e1:stepG Tryz.prog false (G fr (c::cs)) w=unwind Tryz.prog false fr (c::cs) none w:=by simp only[G,stepG,hm]
 rw[e1];simp only[unwind,hd,hm,hfn,Tryz.func141,Aj,doReturn,hk];simp[GStep.after,seen,G]
theorem Zdd(hK:K.Ok)(hb:b.kind≠.early)(h6:b6=false)(h4:b4=false)(h2:b2=true)(h3:b3=true)(hI:K.Inv b0 b1 b2 b3 b4 b5 b6 o a w)
 (next:∀o w₁ v,K.Res o v w₁->K.Inv b0 b1 b2 b3 b4 b5 b6 o a w₁->∃r,GoT Tryz.prog false K.R K.D Stop r o (G (b.at (a.put (some 8) v) (.inRegion ops1 rest::kk)) cs) w₁):
 ∃r,GoT Tryz.prog false K.R K.D Stop r o (G (b.at a (.inRegion ops1 (4::rest)::kk)) cs) w:=by
 obtain⟨oo,ho,hd,A2,hg⟩:=o_4;refine GoT.step rfl λw₁ hw=> ?_
 have C5:=hI.rely hK hw;obtain⟨e1,e2⟩:=Zbx (w:=w₁) A2 (C5.v2 h2) (C5.v3 h3);have hq:=hK.rd (K.ρ K.sb) (.inr (.inr (.inr rfl)));obtain⟨r1,Bj⟩:=Zbq (w:=w₁) (Wg:=K.Wg) (C:=K.C) (Sb:=K.Sb) (Rd:=K.Rd) (o:=o) (cap:=K.cap) (r0:=K.r0) (r1:=K.r1) (r2:=K.r2) (r3:=K.r3) (bot':=b.at a (.inRegion ops1 (4::rest)::kk)::cs) hK.hk hK.hat hK.hS hK.hV C5.kn.sh hK.har hK.low hK.hGV C5.kn.size.1 hq.1 hq.2 C5.kn.size.2 (C5.no _ (.inl rfl));have Bh:=carry (F:=λo w=>K.Inv b0 b1 b2 b3 b4 b5 b6 o a w) (λ_ _ _ h hf=>KE.Inv.rely hK hf h) (λ_ _ _ _ h hf=>Zdc hK h4 h6 hf h) Bj C5
 obtain⟨r,hr⟩:=Bh.seq (Stop':=Stop) RWo.refl λo2 g2 w2 h=>by
  obtain⟨⟨fr,β,rfl,hfn,hkd,hm,Xa,hv,h5⟩,Px⟩:=h;refine GoT.step rfl λw3 Ej=> ?_
  have hI3:=Px.rely hK Ej;have Av:K.Res o2 (fr.tmps.getD 4 undef) w3:=KE.Res.own (w:=w2) ⟨β,hv,h5⟩ Ej.own;obtain⟨r,hn⟩:=next o2 w3 _ Av hI3
  refine⟨_,w3,_,r,Z8l hfn hkd hm Xa,KE.dw_reads hK (λe he=>by simp at he) hI3.lt,?_⟩;rw[Z0a rfl,Frame.finish_at,ho];simp only[SQ,hd];exact hn
 refine⟨_,w₁,_,r,stepG_enter ho (Z0g hg _) hb e1,KE.dw_reads hK (λe he=>(e2 e (RB he)).elim) C5.lt,?_⟩;rw[Z0a rfl];exact hr
end
end Go.Proofs.Tryw
end
namespace Go.Proofs.Tryw
open Go Go.Nk Go.RowKit Go.Conc Go.Conc.Lib Go.ConcR.Gen Go.ConcN.Gen
open Go.ConcN (ShN WgLive PayAt Has CTag RW AtR0 AtK1)
open Go.ConcR (KK WgAt stA smA rd wr mk Payload DC0)
open Go.Proofs.Tryq (theBan ShotAt Zg Sh shL shH shO link payload wgLib Z0g Z3B Z1b)
attribute [local instance] kidBan
attribute [local instance] payload
section
variable {K:KE}{o:Nat->Prop}{a:Act}{w:World}{cs:List Frame}{rest:List Nat}{Stop:(Nat->Prop)->Goroutine->World->Prop}
theorem Z9P(hK:K.Ok)(hb:b.kind≠.early)(h4:b4=true)(h5:b5=true)(hI:K.Inv b0 b1 b2 b3 b4 b5 b6 o a w)
 (next:∀w₁,K.Inv b0 b1 b2 b3 b4 b5 true o a w₁->∃r,GoT Tryz.prog false K.R K.D Stop r o (G (b.at a (.inRegion ops1 rest::kk)) cs) w₁):
 ∃r,GoT Tryz.prog false K.R K.D Stop r o (G (b.at a (.inRegion ops1 (6::rest)::kk)) cs) w:=by
 obtain⟨oo,ho,hd,A2,hg⟩:=o_6;refine GoT.step rfl λw₁ hw=> ?_
 have C5:=hI.rely hK hw;obtain⟨β,hv,h5'⟩:=C5.v4 h4;have Av:K.Res o (a.eval (.tmp 8)) w₁:=⟨β,hv,h5'⟩;obtain⟨arr,Ep,J4⟩:=C5.kn.pay;have Ct:=hK.hk;have hc:w₁.cell? ⟨K.C,K.k,none⟩=some (arr[K.k]'(by omega)):=by simp[World.cell?,Ep,J4,Ct]
 have hz:w₁.frozen? ⟨K.C,K.k,none⟩=false:=by simp[World.frozen?,Ep]
 obtain⟨e1,e2⟩:=Ze3 (w:=w₁) A2 (C5.v5 h5) hv hc hz;have hA:=Z4T (k:=K.k) C5.kn.pay (.pointer (some ⟨β 1,0,none⟩));have hH:=Zdb C5.kn.pay hK.hk (.pointer (some ⟨β 1,0,none⟩));have Pq:=C5.no _ (.inl rfl);have J5:∀x,o x->(w₁.setCell ⟨K.C,K.k,none⟩ (.pointer (some ⟨β 1,0,none⟩))).heap[x]? =w₁.heap[x]? :=λx hx=>hA.block x (λe=>Pq (e▸hx))
 have A9:=λx hx=>hA.block x (hK.ne x hx)
 have Ig:grow o w₁ (w₁.setCell ⟨K.C,K.k,none⟩ (.pointer (some ⟨β 1,0,none⟩)))=o:=Z0a hA.size;have Px:K.Inv b0 b1 b2 b3 b4 b5 true o a (w₁.setCell ⟨K.C,K.k,none⟩ (.pointer (some ⟨β 1,0,none⟩))):=by
  refine⟨C5.size,C5.defers,C5.t1,C5.t2,C5.t3,⟨(Z2K (A9 _ (.inr (.inl rfl)))).trans C5.kn.outv,(Z2K (A9 _ (.inr (.inr (.inl rfl))))).trans C5.kn.ib,?_,(A9 _ (.inr (.inr (.inr (.inr rfl))))).trans C5.kn.sh,by rw[hA.size];exact C5.kn.size,?_,hA.pay C5.kn.pay⟩,
   C5.no,C5.v0,C5.v1,C5.v2,C5.v3,λh=>(C5.v4 h).own J5,C5.v5,λ_=>⟨_,Av.own J5,by rw[hv];exact hH⟩⟩
  ·obtain⟨f,hf⟩:=C5.kn.bx;exact⟨f,(A9 _ (.inr (.inr (.inr (.inl rfl))))).trans hf⟩
  ·obtain⟨x,y,h⟩:=C5.kn.live;exact⟨x,y,(A9 _ (.inl rfl)).trans h⟩
 obtain⟨r,hn⟩:=next _ Px
 refine⟨_,_,_,r,stepG_none ho (Z0g hg _) hb e1,⟨λx _ _ hx=>hA.block x hx,hA.pay,hA.cells,TU hA.size.symm,hA.tape,hA.os,hA.output,λe he=> ?_⟩,?_⟩
 ·have he:=e2 e (RB he);subst he;refine⟨⟨λx hx=> ?_,by simp[Z0r]⟩,by simp only[SK,MemAct.low];rw[hA.size];exact C5.kn.size.2⟩;simp only[SK,MemAct.touch?,XJ] at hx;subst hx;exact .inr (.inr (.inl rfl))
 ·rw[Ig,hd];exact hn
theorem Z8m(hK:K.Ok)(hb:b.kind≠.early)(mx:Bool)(t:Nat)(hI:K.Inv false false false false false false false o a w)
 (Ce:∀b0 b1 b2 b3 b4 b5 o a w,K.Inv b0 b1 b2 b3 b4 b5 true o a w->∃r,GoT Tryz.prog false K.R K.D Stop r o (G (b.at a (.inRegion ops1 []::kk)) cs) w):
 ∃r,GoT Tryz.prog false K.R K.D Stop r o (G (b.at a (.inRegion ops1 (Region.schedule mx ops1 t)::kk)) cs) w:=by
 have hs:Region.schedule mx ops1 t=Region.linearise.go .any ops1 7 t #[false,false,false,false,false,false,false] []:=by
  simp only[Region.schedule,ops1_departs,Bool.not_false,Bool.or_true,XQ,Region.linearise,ops1_size];rfl
 rw[hs];have hc:∀{b0 b1 b2 b3 b4 b5 b6:Bool}{i:Nat},i∈Region.ready .any ops1 #[b0,b1,b2,b3,b4,b5,b6]->chk b0 b1 b2 b3 b4 b5 b6 i=true:=λh=>YL.1 (Z9N _ _ _ _ _ _ _) _ h
 refine Zda (λl o a w=>∃b0 b1 b2 b3 b4 b5 b6,l= #[b0,b1,b2,b3,b4,b5,b6]/\(b6=true->b4=true)/\K.Inv b0 b1 b2 b3 b4 b5 b6 o a w) (λl=>(l.toList.filter (λx=> !x)).length) ?_ ?_ ?_ 7 t _ o a w (by decide) ⟨_,_,_,_,_,_,_,rfl,(λh=>by cases h),hI⟩
 ·rintro l o a w i ⟨b0,b1,b2,b3,b4,b5,b6,rfl,_,_⟩ hi;have h:=hc hi
  match i,h with
  |0,h=>simp only[chk,XR] at h;subst h;simp
  |1,h=>simp only[chk,XR] at h;subst h;cases b0<;>simp
  |2,h=>simp only[chk,XR] at h;subst h;cases b0<;>cases b1<;>simp
  |3,h=>simp only[chk,XR] at h;subst h;cases b0<;>cases b1<;>cases b2<;>simp
  |4,h=>simp only[chk,YG,XR] at h;obtain⟨⟨rfl,rfl⟩,rfl⟩:=h;cases b0<;>cases b1<;>simp
  |5,h=>simp only[chk,YG,XR] at h;obtain⟨⟨rfl,rfl⟩,rfl⟩:=h;cases b2<;>cases b3<;>cases b4<;>simp
  |6,h=>simp only[chk,YG,XR] at h;obtain⟨⟨rfl,rfl⟩,rfl⟩:=h;cases b0<;>cases b1<;>cases b2<;>cases b3<;>simp
  |n+7,h=>cases h
 ·rintro l o a w ⟨b0,b1,b2,b3,b4,b5,b6,rfl,_,hI⟩ hr;have h:=Z8k b0 b1 b2 b3 b4 b5 b6;rw[hr] at h;simp only[List.isEmpty_nil,RA,TV] at h;subst h;exact Ce _ _ _ _ _ _ o a w hI
 ·rintro l o a w i ⟨b0,b1,b2,b3,b4,b5,b6,rfl,O7,hI⟩ hi rest next
  have h:=hc hi
  match i,h with
  |0,h=>
   obtain⟨oo,ho,hd,A2,hg⟩:=o_0;refine Z3C hK hb hI ho hd hg (v:= .slice (some ⟨K.C,0,none⟩) K.n K.n) (λw₁ h1=> ?_) (λw₁ h1=>next o _ w₁ ⟨true,b1,b2,b3,b4,b5,b6,rfl,O7,Z2L h1 (by omega) (λ_=>by simp) (λh=>by simpa using h) (λh=>by simpa using h) (λh=>by simpa using h) (λh=>by simpa using h) (λh=>by simpa using h) id⟩);obtain⟨e1,e2⟩:=Z9O (.inl rfl) A2 h1.t3 h1.kn.outv;exact⟨e1,λe he=>⟨_,e2 e he,.inl rfl⟩⟩
  |1,h=>
   obtain⟨oo,ho,hd,A2,hg⟩:=o_1;refine Z3C hK hb hI ho hd hg (v:= .int .i64 K.k) (λw₁ h1=> ?_) (λw₁ h1=>next o _ w₁ ⟨b0,true,b2,b3,b4,b5,b6,rfl,O7,Z2L h1 (by omega) (λh=>by simpa using h) (λ_=>by simp) (λh=>by simpa using h) (λh=>by simpa using h) (λh=>by simpa using h) (λh=>by simpa using h) id⟩);obtain⟨e1,e2⟩:=Z9O (.inr rfl) A2 h1.t2 h1.kn.ib;exact⟨e1,λe he=>⟨_,e2 e he,.inr (.inl rfl)⟩⟩
  |2,h=>
   obtain⟨oo,ho,hd,A2,hg⟩:=o_2;refine Z3C hK hb hI ho hd hg (v:= .agg K.cc) (λw₁ h1=> ?_) (λw₁ h1=>next o _ w₁ ⟨b0,b1,true,b3,b4,b5,b6,rfl,O7,Z2L h1 (by omega) (λh=>by simpa using h) (λh=>by simpa using h) (λ_=>by simp) (λh=>by simpa using h) (λh=>by simpa using h) (λh=>by simpa using h) id⟩);obtain⟨f,hf⟩:=h1.kn.bx;obtain⟨e1,e2⟩:=ld_card A2 h1.t1 hf;exact⟨e1,λe he=>let ⟨i,hi⟩:=e2 e he;⟨_,hi,.inr (.inr rfl)⟩⟩
  |3,h=>
   obtain⟨oo,ho,hd,A2,hg⟩:=o_3;refine Z3C hK hb hI ho hd hg (v:= .int .i64 K.k) (λw₁ h1=> ?_) (λw₁ h1=>next o _ w₁ ⟨b0,b1,b2,true,b4,b5,b6,rfl,O7,Z2L h1 (by omega) (λh=>by simpa using h) (λh=>by simpa using h) (λh=>by simpa using h) (λ_=>by simp) (λh=>by simpa using h) (λh=>by simpa using h) id⟩);obtain⟨e1,e2⟩:=Z9O (.inr rfl) A2 h1.t2 h1.kn.ib;exact⟨e1,λe he=>⟨_,e2 e he,.inr (.inl rfl)⟩⟩
  |4,h=>
   simp only[chk,YG,XR] at h;have Ea:=h.1.1;have h6:b6=false:=by
    cases b6 with
    |false=>rfl
    |true=>rw[Ea] at O7;cases O7 rfl
   exact Zdd hK hb h6 h.1.1 h.1.2 h.2 hI λo w₁ v hv h1=>next o _ w₁ ⟨b0,b1,b2,b3,true,b5,b6,rfl,λ_=>rfl,Z2L h1 (by omega) (λh=>by simpa using h) (λh=>by simpa using h) (λh=>by simpa using h) (λh=>by simpa using h) (λ_=>by simpa using hv) (λh=>by simpa using h) id⟩
  |5,h=>
   simp only[chk,YG,XR] at h;obtain⟨oo,ho,hd,A2,hg⟩:=o_5;refine Z3C hK hb hI ho hd hg (v:= .pointer (some ⟨K.C,K.k,none⟩)) (λw₁ h1=> ?_) (λw₁ h1=>next o _ w₁ ⟨b0,b1,b2,b3,b4,true,b6,rfl,O7,Z2L h1 (by omega) (λh=>by simpa using h) (λh=>by simpa using h) (λh=>by simpa using h) (λh=>by simpa using h) (λh=>by simpa using h) (λ_=>by simp) id⟩);obtain⟨e1,e2⟩:=Ze2 hK.hk A2 (h1.v0 h.1.2) (h1.v1 h.2);exact⟨e1,λe he=>(e2 e he).elim⟩
  |6,h=>
   simp only[chk,YG,XR] at h;exact Z9P hK hb h.1.2 h.2 hI λw₁ h1=>next o a w₁ ⟨b0,b1,b2,b3,b4,b5,true,rfl,λ_=>h.1.2,h1⟩
  |n+7,h=>cases h
end
section
variable {K:KE}{o:Nat->Prop}{w:World}{Stop:(Nat->Prop)->Goroutine->World->Prop}
theorem Z5N{F:(Nat->Prop)->World->Prop}(hF:∀o w w₁,K.R o w w₁->F o w->F o w₁){g g':Goroutine}(hs:g.status= .running)(law:∀w,stepG Tryz.prog false g w= .go g' w #[])(h:F o w)
 (next:∀w₁,F o w₁->∃r,GoT Tryz.prog false K.R K.D Stop r o g' w₁):∃r,GoT Tryz.prog false K.R K.D Stop r o g w:=by
 refine GoT.step hs λw₁ hw=> ?_
 obtain⟨r,hr⟩:=next w₁ (hF _ _ _ hw h)
 exact⟨_,w₁,_,r,law w₁,⟨λ_ _ _ _=>rfl,id,λ_ _=>rfl,XB _,rfl,rfl,rfl,λe he=>by simp at he⟩,by rw[Z0a rfl];exact hr⟩
def b92:Frame:=baseD 139
noncomputable def bot:Frame:={(default:Frame) with fn:=Tryz.prog.funcs.size,defers:=[],mode:= .panicking [goexitEntry]}
def call79(K:KE):Deferred:={target:= .fn (.func 139) #[.pointer (some ⟨K.Wg,0,none⟩),.pointer (some ⟨K.Bx,0,none⟩),.pointer (some ⟨K.Ik,0,none⟩),.pointer (some ⟨K.Ob,0,none⟩)],args:= #[]}
def Ze4(K:KE):Array Value:= #[.pointer (some ⟨K.Wg,0,none⟩),.pointer (some ⟨K.Bx,0,none⟩),.pointer (some ⟨K.Ik,0,none⟩),.pointer (some ⟨K.Ob,0,none⟩),undef,undef,undef,undef,undef,undef]
theorem f92_body:Tryz.f139.body=some body92:=rfl
theorem f92_name:¬Tryz.f139.name= "runtime.NumGoroutine" :=by
 have:(Tryz.f139.name== "runtime.NumGoroutine")=false:=by kernel_rfl
 simpa using this
theorem f92_ntmps:Tryz.f139.ntmps=10:=rfl
theorem Z9Q(w:World):stepG Tryz.prog false (born Tryz.prog (call79 K)) w= .go (G (b92.at ⟨Ze4 K,[]⟩ [.code body92]) [bot]) w #[]:=by
 simp[born,call79,stepG,unwind,callDeferred,invoke,callFunc,Tryz.func139,f92_body,f92_name,f92_ntmps,seen,GStep.after,G,Frame.enter,Frame.at,b92,baseD,bot,Ze4]
theorem Z9R(T:Array Value):QuitsD Tryz.prog 2 0 (G {b92.at ⟨T,[]⟩ [] with mode:= .returning} [bot]):=by
 have hr:Tryz.f139.results= #[]:=rfl;refine QuitsD.ctl (g':=G bot []) rfl (λw=> ?_) ?_
 ·simp[G,stepG,unwind,doReturn,results,Frame.at,b92,baseD,bot,Tryz.func139,hr,seen,GStep.after,goexitEntry]
 refine QuitsD.ctl (g':={G bot [] with status:= .finished}) rfl (λw=> ?_) ⟨rfl,rfl⟩;simp[G,stepG,unwind,bot,goexitEntry,Frame.catches];rfl
end
section
variable {K:KE}{o:Nat->Prop}{w:World}
theorem o_d:∃o,ops0[0]? =some o/\o.dst=none/\o.op= .defer {callee:= .value (.func 140),args:= #[.tmp 0],argTypes:= #[243]}/\o.guard=none:=⟨_,rfl,rfl,rfl,rfl⟩
theorem ops0_size:ops0.size=1:=by kernel_rfl
theorem Z9S{P:Program}{a:Act}{k:List Item}{cs:List Frame}{w:World}{id:Nat}:
 stepG P main (G (b.at a (.code (.region id ops true)::k)) cs) w= .go (G (b.at a (.inRegion ops (Region.schedule (P.follows .mixedOrders) ops (w.tape w.drawn (.order b.fn id)))::k)) cs) {w with drawn:=w.drawn+1} #[]:=by
 simp[G,stepG,stepG.exec,Frame.at,choose,Sem.run,Question.forced,Question.cut]
def Base(K:KE)(o:Nat->Prop)(w:World):Prop:=K.Kno w/\∀b,b=K.C\/b=K.Wg\/b=K.Ob\/b=K.Ik\/b=K.Bx\/b=K.ρ K.sb->¬o b
theorem Base.rely(hK:K.Ok):∀o w w₁,K.R o w w₁->Base K o w->Base K o w₁:=λo w w₁ hr h=>
 ⟨h.1.rely hr (hK.rd _ (.inl rfl)).1 (hK.rd _ (.inr (.inl rfl))).1 (hK.rd _ (.inr (.inr (.inl rfl)))).1 (hK.rd _ (.inr (.inr (.inr rfl)))).1,h.2⟩
theorem kid_works(hK:K.Ok)(hB:Base K o w):
 ∃r,GoT Tryz.prog false K.R K.D (λo g w=>∃v,K.Res o v w/\AtR0 Tryz.prog link.tWg K.Wg K.C K.n 0 (K.k+1) v g w) r o (born Tryz.prog (call79 K)) w:=by
 have hF:=Base.rely hK;refine Z5N hF rfl Z9Q hB λw hB=> ?_
 rw[body92_eq];refine Z5N hF rfl (λw=>XH) hB λw hB=> ?_
 refine Z5N hF rfl (λw=>UD) hB λw hB=> ?_
 obtain⟨oo,ho,hd,A2,hg⟩:=o_d;rw[ops0_size];refine Z5N hF rfl (λw=>stepG_defer (i:=0) (rest:=[]) ho (Z0g hg _) (by decide) A2) hB λw hB=> ?_
 refine Z5N hF rfl (λw=>XC) hB λw hB=> ?_
 refine GoT.step rfl λw₁ hw=> ?_
 have hB1:=hF _ _ _ hw hB;have hI:K.Inv false false false false false false false o (Act.put ⟨Ze4 K,dcall 140 ((#[.tmp 0]:Array Operand).map (Act.eval ⟨Ze4 K,[]⟩))::[]⟩ oo.dst undef) {w₁ with drawn:=w₁.drawn+1}:=by
  rw[hd];refine⟨rfl,by simp[Act.put,Act.eval,Ze4],rfl,rfl,rfl,?_,hB1.2,(λh=>by cases h),(λh=>by cases h),(λh=>by cases h),(λh=>by cases h),(λh=>by cases h),(λh=>by cases h),(λh=>by cases h)⟩;have h:=hB1.1;exact⟨h.outv,h.ib,h.bx,h.sh,h.size,h.live,h.pay⟩
 obtain⟨r,hr⟩:=Z8m (b:=b92) (kk:=[]) (cs:=[bot]) (Stop:=λo g w=>∃v,K.Res o v w/\AtR0 Tryz.prog link.tWg K.Wg K.C K.n 0 (K.k+1) v g w) hK (by decide) (Tryz.prog.follows .mixedOrders) (w₁.tape w₁.drawn (.order b92.fn 1)) hI λb0 b1 b2 b3 b4 b5 o a w hI=>by
  have Ih:=fun(o:Nat->Prop)(w w₁:World)(hr:K.R o w w₁)(h:K.Inv b0 b1 b2 b3 b4 b5 true o a w)=>KE.Inv.rely hK h hr
  refine Z5N Ih rfl (λw=>XC) hI λw hI=> ?_
  refine Z5N Ih rfl (λw=>stepG_end) hI λw hI=> ?_
  refine Z5N Ih rfl (λw=>stepG_unwind_enter hI.defers wgLib.f_done (nm_done link) rfl) hI λw hI=> ?_
  obtain⟨v,h1,h2⟩:=hI.v6 rfl;have hG:=doneM (L:=link) (n:=K.n) (val:=v) wgLib (c:={b92.at ⟨a.tmps,[]⟩ [] with mode:= .returning}) (cs:=[bot]) rfl (Z9R _) w ⟨hI.kn.live,h2⟩;exact⟨_,Zd6 (F:=λw=>K.Res o v w) (λa b hr h=>KE.Res.own h hr.own) (λg w hs h=>⟨v,h,hs⟩) hG h1⟩
 refine⟨_,_,_,r,Z9S,⟨λ_ _ _ _=>rfl,id,λ_ _=>rfl,XB _,rfl,rfl,rfl,λe he=>by simp at he⟩,?_⟩;have Ig:grow o w₁ {w₁ with drawn:=w₁.drawn+1}=o:=Z0a rfl;rw[Ig];exact hr
end
end Go.Proofs.Tryw
namespace Go.Nk
open Go Go.Conc
open Go.ConcN (sumTo upd sumTo_upd upd_ne upd_same)
variable [Ban]
section
variable (P:Program)(Sb:Nat->Prop)(X:MemAct->Prop)(Stop:Frame->List Frame->World->Prop)
def OwnTo:Nat->Frame->List Frame->World->Prop
 |0,fr,cs,w=>∀d,Stop fr cs (w.at d)
 |n+1,fr,cs,w=>∀d,∃fr1 cs1 w1 es,stepG P true (G fr cs) (w.at d)= .go (G fr1 cs1) w1 es/\w.heap.size<=w1.heap.size/\(∀e∈es,EvL (Zu Sb) w1.heap.size e/\X (MemAct.ofEvent e))/\OwnTo n fr1 cs1 w1
end
section
variable {P:Program}{Sb:Nat->Prop}{X:MemAct->Prop}{Stop:Frame->List Frame->World->Prop}
theorem OwnTo.at{n:Nat}{fr:Frame}{cs:List Frame}{w:World}(h:OwnTo P Sb X Stop n fr cs w)(d:Nat):OwnTo P Sb X Stop n fr cs (w.at d):=by
 cases n with
 |zero=>exact λd'=>h d'
 |succ n=>exact λd'=>h d'
theorem Z7y(hX:∀e,Event.mute e=true->X (MemAct.ofEvent e)):∀(n:Nat){fr:Frame}{cs:List Frame}{gs:Array Goroutine}{w:World}{sl:Option (Nat×Nat)}{t:Trace}{q:Nat->Nat},OwnTo P Sb X Stop n fr cs w->MacM P Sb fr cs gs w t q->(∀op∈t,X op.act)->
 ∃N t' fr1 cs1 gs1 w1 sl1 q1,runNT P N (crowd gs w sl) t=(.next (crowd gs1 w1 sl1),t')/\Stop fr1 cs1 w1/\MacM P Sb fr1 cs1 gs1 w1 t' q1/\∀op∈t',X op.act:=by
 intro n
 induction n with
 |zero=>exact fun{fr cs gs w sl t q} h hM ht=>⟨0,t,fr,cs,gs,w,sl,q,rfl,h w.drawn,hM,ht⟩
 |succ n ih=>
  have inner:∀(k:Nat){fr:Frame}{cs:List Frame}{gs:Array Goroutine}{w:World}{sl:Option (Nat×Nat)}{t:Trace}{q:Nat->Nat},sumTo gs.size q<=k->OwnTo P Sb X Stop (n+1) fr cs w->MacM P Sb fr cs gs w t q->(∀op∈t,X op.act)->
   ∃N t' fr1 cs1 gs1 w1 sl1 q1,runNT P N (crowd gs w sl) t=(.next (crowd gs1 w1 sl1),t')/\Stop fr1 cs1 w1/\MacM P Sb fr1 cs1 gs1 w1 t' q1/\∀op∈t',X op.act:=by
   intro k
   induction k with
   |zero=>
    intro fr cs gs w sl t q hk h hM ht;rcases Z4G (sl:=sl) hM with⟨d,sl',Ad⟩|⟨gs',d,sl',ops,q',Ad,hM',A3,hmu⟩
    ·obtain⟨fr1,cs1,w1,es,Al,B1,G1,hn⟩:=h d;obtain⟨gs1,ops,Aj,Gm,_,O8⟩:=Z4H (sl:=sl') (hM.at d) Al B1 (λe he=>(G1 e he).1);have Hu:∀op∈t++ops,X op.act:=λop A2=>(UL.1 A2).elim (ht op) λh=>by obtain⟨e,he,ea⟩:=O8 op h;rw[ea];exact(G1 e he).2
     obtain⟨N,t',r⟩:=ih (sl:=sl') hn Gm Hu;obtain⟨fr2,cs2,gs2,w2,sl2,q2,h1,h2⟩:=r;exact⟨N+1,t',fr2,cs2,gs2,w2,sl2,q2,Z0F (Ad.trans Aj) h1,h2⟩
    ·omega
   |succ k ihk=>
    intro fr cs gs w sl t q hk h hM ht;rcases Z4G (sl:=sl) hM with⟨d,sl',Ad⟩|⟨gs',d,sl',ops,q',Ad,hM',A3,hmu⟩
    ·obtain⟨fr1,cs1,w1,es,Al,B1,G1,hn⟩:=h d;obtain⟨gs1,ops,Aj,Gm,_,O8⟩:=Z4H (sl:=sl') (hM.at d) Al B1 (λe he=>(G1 e he).1);have Hu:∀op∈t++ops,X op.act:=λop A2=>(UL.1 A2).elim (ht op) λh=>by obtain⟨e,he,ea⟩:=O8 op h;rw[ea];exact(G1 e he).2
     obtain⟨N,t',fr2,cs2,gs2,w2,sl2,q2,h1,h2⟩:=ih (sl:=sl') hn Gm Hu;exact⟨N+1,t',fr2,cs2,gs2,w2,sl2,q2,Z0F (Ad.trans Aj) h1,h2⟩
    ·obtain⟨N,t',fr2,cs2,gs2,w2,sl2,q2,h1,h2⟩:=ihk (sl:=sl') (by omega) (h.at d) hM' (λop A2=>(UL.1 A2).elim (ht op) λh=>by obtain⟨e,he,ea⟩:=hmu op h;rw[ea];exact hX e he);exact⟨N+1,t',fr2,cs2,gs2,w2,sl2,q2,Z0F Ad h1,h2⟩
  exact fun{fr cs gs w sl t q} h hM ht=>inner _ (XB _) h hM ht
end
def ZD(n:Nat)(m:Nat->Value)(ds:List Deferred):Act:=⟨Array.ofFn (n:=n) λi=>m i,ds⟩
def Zd(n:Nat)(m:Nat->Value):Operand->Value
 | .tmp t=>if t<n then m t else undef
 | .const v=>v
 | .global g=> .pointer (some ⟨g,0,none⟩)
 | .func f=> .func (.func f) #[] #[]
def upM(m:Nat->Value)(d:Nat)(v:Value):Nat->Value:=λi=>if d=i then v else m i
section
variable {m:Nat->Value}
omit [Ban] in
theorem actM_eval:(ZD n m ds).eval=Zd n m:=by
 funext o;cases o with
 |tmp t=>
  simp only[Act.eval,ZD,Zd,Array.getD];by_cases h:t<n
  ·simp[h]
  ·simp[h]
 |_=>rfl
omit [Ban] in
theorem Z2x(d:Nat)(v:Value):(ZD n m ds).put (some d) v=ZD n (upM m d v) ds:=by
 simp only[ZD,Act.put];congr 1;apply QQ
 ·simp
 ·intro i h1 h2;simp only[QJ,Array.size_ofFn] at h1;rw[Array.getElem_setIfInBounds (by simpa using h1)];simp only[Array.getElem_ofFn,upM]
omit [Ban] in
theorem Z1L{o:Oper}(h:o.guard=none)(y:Nat->Option Bool):Region.wanted o y=true:=by simp[Region.wanted,h]
end
section
variable {P:Program}{Sb:Nat->Prop}{X:MemAct->Prop}{Stop:Frame->List Frame->World->Prop}{N:Nat}{m:Nat->Value}{k:List Item}{cs:List Frame}{w:World}{rest:List Nat}{o:Oper}
theorem own_c{fr fr1:Frame}{cs1:List Frame}(law:∀w,stepG P true (G fr cs) w= .go (G fr1 cs1) w #[])(h:OwnTo P Sb X Stop N fr1 cs1 w):OwnTo P Sb X Stop (N+1) fr cs w:=
 λd=>⟨fr1,cs1,w.at d,#[],law _,XB _,λe he=>by simp at he,h.at d⟩
theorem own_v(hk:b.kind≠.early)(ho:ops[i]? =some o)(hd:o.dst=some d)(hg:o.guard=none)(B1:w.heap.size<=w'.heap.size)
 (hr:∀x,(execOp (Zd n m) o).run P (w.at x)= .ok (.value v) (w'.at x)/\∀e∈(execOp (Zd n m) o).events P (w.at x) #[],EvL (Zu Sb) w'.heap.size e/\X (MemAct.ofEvent e))
 (h:OwnTo P Sb X Stop N (b.at (ZD n (upM m d v) ds) (.inRegion ops rest::k)) cs w'):OwnTo P Sb X Stop (N+1) (b.at (ZD n m ds) (.inRegion ops (i::rest)::k)) cs w:=by
 intro x;obtain⟨h1,h2⟩:=hr x;have e:=stepG_value (main:=true) (b:=b) (k:=k) (cs:=cs) (rest:=rest) (a:=ZD n m ds) ho (Z1L hg _) hk (by rw[actM_eval];exact h1);rw[hd,Z2x] at e;exact⟨_,_,_,_,e,B1,λev Bb=>h2 ev (by have:=RB Bb;rwa [actM_eval] at this),h.at x⟩
theorem own_u(hk:b.kind≠.early)(ho:ops[i]? =some o)(hd:o.dst=none)(hg:o.guard=none)(B1:w.heap.size<=w'.heap.size)
 (hr:∀x,(execOp (Zd n m) o).run P (w.at x)= .ok .skip (w'.at x)/\∀e∈(execOp (Zd n m) o).events P (w.at x) #[],EvL (Zu Sb) w'.heap.size e/\X (MemAct.ofEvent e))
 (h:OwnTo P Sb X Stop N (b.at (ZD n m ds) (.inRegion ops rest::k)) cs w'):OwnTo P Sb X Stop (N+1) (b.at (ZD n m ds) (.inRegion ops (i::rest)::k)) cs w:=by
 intro x;obtain⟨h1,h2⟩:=hr x;have e:=stepG_none (main:=true) (b:=b) (k:=k) (cs:=cs) (rest:=rest) (a:=ZD n m ds) ho (Z1L hg _) hk (by rw[actM_eval];exact h1);rw[hd] at e;exact⟨_,_,_,_,e,B1,λev Bb=>h2 ev (by have:=RB Bb;rwa [actM_eval] at this),h.at x⟩
end
end Go.Nk
namespace Go.Proofs.Tryv
section
open Go Go.Nk Go.RowKit Go.Conc
open Go.Proofs.Tryq (theBan Zh ZH link payload wgLib Grew)
attribute [local instance] theBan
attribute [local instance] payload
def opsOf:Code->Array Oper
 | .region _ ops _=>ops
 |_=> #[]
def fstC:Code->Code
 | .seq a _=>a
 | .block _ c=>c
 | .loop c=>c
 |c=>c
def sndC:Code->Code
 | .seq _ b=>b
 |c=>c
noncomputable def body82:Code:=Tryz.f114.body.getD .skip
noncomputable def X82:Code:=fstC (sndC (sndC (sndC body82)))
noncomputable def L82:Code:=fstC (fstC (sndC X82))
noncomputable def B82:Code:=fstC (fstC (sndC (sndC L82)))
noncomputable def T82:Code:=sndC (sndC (sndC (sndC body82)))
noncomputable def q0:Array Oper:=opsOf (fstC body82)
noncomputable def q1:Array Oper:=opsOf (fstC (sndC body82))
noncomputable def q2:Array Oper:=opsOf (fstC (sndC (sndC body82)))
noncomputable def q3:Array Oper:=opsOf (fstC X82)
noncomputable def q4:Array Oper:=opsOf (fstC L82)
noncomputable def q5:Array Oper:=opsOf (fstC B82)
noncomputable def q6:Array Oper:=opsOf (fstC (sndC B82))
noncomputable def q7:Array Oper:=opsOf (sndC (sndC B82))
noncomputable def q8:Array Oper:=opsOf (sndC (sndC (sndC L82)))
noncomputable def q9:Array Oper:=opsOf (fstC T82)
noncomputable def q10:Array Oper:=opsOf (fstC (sndC T82))
theorem body82_eq:body82= .seq (.region 0 q0 false) (.seq (.region 1 q1 false) (.seq (.region 2 q2 false) (.seq (.seq (.region 3 q3 false) (.block 0 (.loop L82))) T82))):=rfl
theorem L82_eq:L82= .seq (.region 4 q4 false) (.seq (.cond (.tmp 16) .skip (.exit 0)) (.seq (.block 1 (.seq (.region 5 q5 false) (.seq (.region 6 q6 false) (.region 7 q7 false)))) (.region 8 q8 false))):=rfl
theorem T82_eq:T82= .seq (.region 9 q9 false) (.seq (.region 10 q10 false) .ret):=rfl
theorem f82_body:Tryz.f114.body=some body82:=rfl
theorem f82_ntmps:Tryz.f114.ntmps=23:=rfl
theorem f82_results:Tryz.f114.results= #[.tmp 2]:=rfl
theorem q0_size:q0.size=2:=by kernel_rfl
theorem q0_0:∃o,q0[0]? =some o/\o.dst=some 1/\o.op= .box 132 (.tmp 0)/\o.guard=none:=⟨_,rfl,rfl,rfl,rfl⟩
theorem q0_1:∃o,q0[1]? =some o/\o.dst=some 2/\o.op= .assign (.const (.slice none 0 0))/\o.guard=none:=⟨_,rfl,rfl,rfl,rfl⟩
theorem q1_size:q1.size=7:=by kernel_rfl
theorem q1_0:∃o,q1[0]? =some o/\o.dst=some 6/\o.op= .fieldAddr 132 (.tmp 1) 0/\o.guard=none:=⟨_,rfl,rfl,rfl,rfl⟩
theorem q1_1:∃o,q1[1]? =some o/\o.dst=some 7/\o.op= .fieldAddr 31 (.tmp 6) 1/\o.guard=none:=⟨_,rfl,rfl,rfl,rfl⟩
theorem q1_2:∃o,q1[2]? =some o/\o.dst=some 8/\o.op= .load 29 (.tmp 7)/\o.guard=none:=⟨_,rfl,rfl,rfl,rfl⟩
theorem q1_3:∃o,q1[3]? =some o/\o.dst=some 9/\o.op= .call {callee:= .builtin .len,args:= #[.tmp 8],argTypes:= #[29]}/\o.guard=none:=⟨_,rfl,rfl,rfl,rfl⟩
theorem q1_4:∃o,q1[4]? =some o/\o.dst=some 10/\o.op= .makeSlice 134 (.tmp 9) (.tmp 9)/\o.guard=none:=⟨_,rfl,rfl,rfl,rfl⟩
theorem q1_5:∃o,q1[5]? =some o/\o.dst=some 3/\o.op= .alloc 134/\o.guard=none:=⟨_,rfl,rfl,rfl,rfl⟩
theorem q1_6:∃o,q1[6]? =some o/\o.dst=none/\o.op= .store 134 (.tmp 3) (.tmp 10)/\o.guard=none:=⟨_,rfl,rfl,rfl,rfl⟩
theorem q2_size:q2.size=1:=by kernel_rfl
theorem q2_0:∃o,q2[0]? =some o/\o.dst=some 4/\o.op= .alloc 243/\o.guard=none:=⟨_,rfl,rfl,rfl,rfl⟩
theorem q3_size:q3.size=5:=by kernel_rfl
theorem q3_0:∃o,q3[0]? =some o/\o.dst=some 11/\o.op= .fieldAddr 132 (.tmp 1) 0/\o.guard=none:=⟨_,rfl,rfl,rfl,rfl⟩
theorem q3_1:∃o,q3[1]? =some o/\o.dst=some 12/\o.op= .fieldAddr 31 (.tmp 11) 1/\o.guard=none:=⟨_,rfl,rfl,rfl,rfl⟩
theorem q3_2:∃o,q3[2]? =some o/\o.dst=some 13/\o.op= .load 29 (.tmp 12)/\o.guard=none:=⟨_,rfl,rfl,rfl,rfl⟩
theorem q3_3:∃o,q3[3]? =some o/\o.dst=some 14/\o.op= .call {callee:= .builtin .len,args:= #[.tmp 13],argTypes:= #[29]}/\o.guard=none:=⟨_,rfl,rfl,rfl,rfl⟩
theorem q3_4:∃o,q3[4]? =some o/\o.dst=some 15/\o.op= .move (.const (.int .i64 0))/\o.guard=none:=⟨_,rfl,rfl,rfl,rfl⟩
theorem q4_size:q4.size=1:=by kernel_rfl
theorem q4_0:∃o,q4[0]? =some o/\o.dst=some 16/\o.op= .binOp .lss 3 (.tmp 15) (.tmp 14) 3/\o.guard=none:=⟨_,rfl,rfl,rfl,rfl⟩
theorem q5_size:q5.size=3:=by kernel_rfl
theorem q5_0:∃o,q5[0]? =some o/\o.dst=some 17/\o.op= .move (.tmp 15)/\o.guard=none:=⟨_,rfl,rfl,rfl,rfl⟩
theorem q5_1:∃o,q5[1]? =some o/\o.dst=some 5/\o.op= .alloc 3/\o.guard=none:=⟨_,rfl,rfl,rfl,rfl⟩
theorem q5_2:∃o,q5[2]? =some o/\o.dst=none/\o.op= .store 3 (.tmp 5) (.tmp 17)/\o.guard=none:=⟨_,rfl,rfl,rfl,rfl⟩
theorem q6_size:q6.size=1:=by kernel_rfl
theorem q6_0:∃o,q6[0]? =some o/\o.dst=some 18/\o.op= .call {callee:= .value (.func 138),args:= #[.tmp 4,.const (.int .i64 1)],argTypes:= #[243,3]}/\o.guard=none:=⟨_,rfl,rfl,rfl,rfl⟩
theorem q7_size:q7.size=2:=by kernel_rfl
theorem q7_0:∃o,q7[0]? =some o/\o.dst=some 19/\o.op= .makeFunc (.func 139) #[] #[.tmp 4,.tmp 1,.tmp 5,.tmp 3]/\o.guard=none:=⟨_,rfl,rfl,rfl,rfl⟩
theorem q7_1:∃o,q7[1]? =some o/\o.dst=none/\o.op= .go {callee:= .value (.tmp 19),args:= #[],argTypes:= #[]}/\o.guard=none:=⟨_,rfl,rfl,rfl,rfl⟩
theorem q8_size:q8.size=2:=by kernel_rfl
theorem q8_0:∃o,q8[0]? =some o/\o.dst=some 20/\o.op= .binOp .add 3 (.tmp 15) (.const (.int .i64 1)) 3/\o.guard=none:=⟨_,rfl,rfl,rfl,rfl⟩
theorem q8_1:∃o,q8[1]? =some o/\o.dst=some 15/\o.op= .move (.tmp 20)/\o.guard=none:=⟨_,rfl,rfl,rfl,rfl⟩
theorem q9_size:q9.size=1:=by kernel_rfl
theorem q9_0:∃o,q9[0]? =some o/\o.dst=some 21/\o.op= .call {callee:= .value (.func 142),args:= #[.tmp 4],argTypes:= #[243]}/\o.guard=none:=⟨_,rfl,rfl,rfl,rfl⟩
theorem q10_size:q10.size=2:=by kernel_rfl
theorem q10_0:∃o,q10[0]? =some o/\o.dst=some 22/\o.op= .load 134 (.tmp 3)/\o.guard=none:=⟨_,rfl,rfl,rfl,rfl⟩
theorem q10_1:∃o,q10[1]? =some o/\o.dst=some 2/\o.op= .assign (.tmp 22)/\o.guard=none:=⟨_,rfl,rfl,rfl,rfl⟩
end
section
open Go Go.Nk Go.RowKit Go.Conc
open Go.Proofs.Tryq (theBan Zh ZH link payload wgLib Grew Z2r)
attribute [local instance] theBan
attribute [local instance] payload
section
variable {o:Oper}{m:Nat->Value}{w:World}
theorem Ze5{cc:Array Value}(A2:o.op= .box 132 (.tmp 0))(h:m 0= .agg cc):(execOp (Zd 23 m) o).run Tryz.prog w= .ok (.value (.pointer (some ⟨w.heap.size,0,none⟩))) (w.alloc (.cells cc 132))/\∀e∈(execOp (Zd 23 m) o).events Tryz.prog w #[],False:=by
 have e:Zd 23 m (.tmp 0)= .agg cc:=h;unfold execOp;simp only[A2,e];constructor
 ·simp[go_sem,Instr.box,Value.cells]
 ·intro e he;simp[go_sem,Instr.box] at he
theorem Z9T{op:Op}(A2:o.op=op)(h:op= .assign (.const v)\/op= .move (.const v)):(execOp (Zd 23 m) o).run Tryz.prog w= .ok (.value v) w/\∀e∈(execOp (Zd 23 m) o).events Tryz.prog w #[],False:=by
 unfold execOp;rcases h with rfl|rfl
 all_goals
  simp only[A2];constructor
  ·simp[Zd]
  ·intro e he;simp at he
theorem Z9U{op:Op}(A2:o.op=op)(h:op= .assign (.tmp s)\/op= .move (.tmp s))(hs:s<23):(execOp (Zd 23 m) o).run Tryz.prog w= .ok (.value (m s)) w/\∀e∈(execOp (Zd 23 m) o).events Tryz.prog w #[],False:=by
 have e:Zd 23 m (.tmp s)=m s:=YZ hs;unfold execOp;rcases h with rfl|rfl
 all_goals
  simp only[A2,e];constructor
  ·simp
  ·intro e he;simp at he
theorem Z9V{a:Addr}(A2:o.op= .fieldAddr 132 (.tmp s) 0)(hs:s<23)(h:m s= .pointer (some a)):(execOp (Zd 23 m) o).run Tryz.prog w= .ok (.value (.pointer (some a))) w/\∀e∈(execOp (Zd 23 m) o).events Tryz.prog w #[],False:=by
 have e:Zd 23 m (.tmp s)= .pointer (some a):=(YZ hs).trans h;have e0:a.add 0=a:=rfl;unfold execOp;simp only[A2,e];constructor
 ·simp[go_sem,Instr.fieldAt,fieldPlace,e0]
 ·intro e he;simp[go_sem,Instr.fieldAt,fieldPlace] at he
theorem Z9W{a:Addr}(A2:o.op= .fieldAddr 31 (.tmp s) 1)(hs:s<23)(h:m s= .pointer (some a)):(execOp (Zd 23 m) o).run Tryz.prog w= .ok (.value (.pointer (some (a.add 4)))) w/\∀e∈(execOp (Zd 23 m) o).events Tryz.prog w #[],False:=by
 have e:Zd 23 m (.tmp s)= .pointer (some a):=(YZ hs).trans h;unfold execOp;simp only[A2,e];constructor
 ·simp[go_sem,Instr.fieldAt,fieldPlace]
 ·intro e he;simp[go_sem,Instr.fieldAt,fieldPlace] at he
theorem Zcm{t:TypeId}{a:Addr}(A2:o.op= .load t (.tmp s))(ht:t=29\/t=134)(hs:s<23)(h:m s= .pointer (some a))(hc:w.cell? a=some v):(execOp (Zd 23 m) o).run Tryz.prog w= .ok (.value v) w/\∀e∈(execOp (Zd 23 m) o).events Tryz.prog w #[],e=⟨.cell a,false,false⟩:=by
 have e:Zd 23 m (.tmp s)= .pointer (some a):=(YZ hs).trans h;unfold execOp;simp only[A2,e];rcases ht with rfl|rfl
 all_goals
  constructor
  ·simp[go_sem,Instr.loadAt,hc]
  ·intro e he;simp[go_sem,Instr.loadAt,hc] at he;exact he
theorem Ze6{b:Option Addr}{c:Nat}(A2:o.op= .call {callee:= .builtin .len,args:= #[.tmp s],argTypes:= #[29]})(hs:s<23)(h:m s= .slice b n c):(execOp (Zd 23 m) o).run Tryz.prog w= .ok (.value (.int .i64 n)) w/\∀e∈(execOp (Zd 23 m) o).events Tryz.prog w #[],False:=by
 have e:Zd 23 m (.tmp s)= .slice b n c:=(YZ hs).trans h;have em:(#[Operand.tmp s]:Array Operand).map (Zd 23 m)= #[.slice b n c]:=by simp only[TM,VC,VQ,e]
 unfold execOp;simp only[A2,resolve,em];constructor
 ·simp[go_sem,invoke,builtin,Builtin.len_]
 ·intro e he;simp[go_sem,invoke,builtin,Builtin.len_] at he
theorem r_mk(hn:n<=8)(A2:o.op= .makeSlice 134 (.tmp 9) (.tmp 9))(h:m 9= .int .i64 n):(execOp (Zd 23 m) o).run Tryz.prog w= .ok (.value (.slice (some ⟨w.heap.size,0,none⟩) n n)) (w.alloc (.cells (ZH w.heap.size n 0) 188))/\∀e∈(execOp (Zd 23 m) o).events Tryz.prog w #[],e=⟨.mark .noRoom,false,true⟩:=by
 have e:Zd 23 m (.tmp 9)= .int .i64 n:=h;have h8:Tryz.t188.bytes=8:=by kernel_rfl
 have h1:Tryz.t188.size=1:=by kernel_rfl
 have hz:Tryz.t188.zero=some (.pointer none):=by kernel_rfl
 have hi:Tryz.prog.info? 188=some Tryz.t188:=by kernel_rfl
 have hm:=run_makeSlice (P:=Tryz.prog) w 134 188 Tryz.t188 (.pointer none) Tryz.underlying134 hi hz .i64 .i64 n n (by omega) (by omega) (by rw[h1];omega) (by rw[h8];omega) (by omega);rw[h1] at hm;simp only[UF] at hm;rw[Z2r w.heap.size n] at hm;unfold execOp;simp only[A2,e];constructor
 ·simp[go_sem,hm]
 ·intro e he;simp[go_sem,Instr.makeSlice] at he;have hw:IntKind.i64.wrap (n:Int)=n:=by rw[QU];omega
  have he:=he.2;rw[hw,h8,UF] at he;unfold askRoom at he;simp[go_sem] at he;exact he.2
theorem Z6D{t:TypeId}(A2:o.op= .alloc t)(ht:(t=134/\z= #[.slice none 0 0])\/(t=243/\z= #[.int .u64 0,.int .u32 0])\/(t=3/\z= #[.int .i64 0])):(execOp (Zd 23 m) o).run Tryz.prog w= .ok (.value (.pointer (some ⟨w.heap.size,0,none⟩))) (w.alloc (.cells z t))/\∀e∈(execOp (Zd 23 m) o).events Tryz.prog w #[],False:=by
 unfold execOp;rcases ht with⟨rfl,rfl⟩|⟨rfl,rfl⟩|⟨rfl,rfl⟩
 all_goals
  simp only[A2];constructor
  ·simp[go_sem,Instr.alloc,Value.cells]
  ·intro e he;simp[go_sem,Instr.alloc] at he
theorem Z6E{t:TypeId}{a:Addr}(A2:o.op= .store t (.tmp s) (.tmp s'))(hs:s<23)(hs':s'<23)(h:m s= .pointer (some a))(h':m s'=v)(ht:(t=134/\∃b n c,v= .slice b n c)\/(t=3/\∃n,v= .int .i64 n))(hc:w.cell? a=some u)(hz:w.frozen? a=false):
 (execOp (Zd 23 m) o).run Tryz.prog w= .ok .skip (w.setCell a v)/\∀e∈(execOp (Zd 23 m) o).events Tryz.prog w #[],e=⟨.cell a,true,false⟩:=by
 have e:Zd 23 m (.tmp s)= .pointer (some a):=(YZ hs).trans h;have e':Zd 23 m (.tmp s')=v:=(YZ hs').trans h';unfold execOp;rcases ht with⟨rfl,b,n,c,rfl⟩|⟨rfl,n,rfl⟩
 ·simp only[A2,e,e'];constructor
  ·simp[go_sem,Instr.storeAt,stored,hc,hz]
  ·intro e he;simp[go_sem,Instr.storeAt,events_store Tryz.prog w #[] a (.slice b n c) .plain rfl,storedEv,hc,hz] at he;exact he
 ·simp only[A2,e,e'];constructor
  ·simp[go_sem,Instr.storeAt,stored,hc,hz]
  ·intro e he;simp[go_sem,Instr.storeAt,storedEv,hc,hz] at he;exact he
theorem Ze7(A2:o.op= .binOp .lss 3 (.tmp 15) (.tmp 14) 3)(h:m 15= .int .i64 i)(h':m 14= .int .i64 n):(execOp (Zd 23 m) o).run Tryz.prog w= .ok (.value (.bool (decide ((i:Int)<n)))) w/\∀e∈(execOp (Zd 23 m) o).events Tryz.prog w #[],False:=by
 have e:Zd 23 m (.tmp 15)= .int .i64 i:=h;have e':Zd 23 m (.tmp 14)= .int .i64 n:=h';unfold execOp;simp only[A2,e,e'];constructor
 ·simp[go_sem,eqGuard,Go.binOp]
 ·intro e he;simp[go_sem,eqGuard,Go.binOp] at he
theorem Ze8(hi:i<=8)(A2:o.op= .binOp .add 3 (.tmp 15) (.const (.int .i64 1)) 3)(h:m 15= .int .i64 i):(execOp (Zd 23 m) o).run Tryz.prog w= .ok (.value (.int .i64 ((i+1:Nat):Int))) w/\∀e∈(execOp (Zd 23 m) o).events Tryz.prog w #[],False:=by
 have e:Zd 23 m (.tmp 15)= .int .i64 i:=h;have e':Zd 23 m (.const (.int .i64 1))= .int .i64 1:=rfl;have hw:IntKind.i64.wrap ((i:Int)+1)=i+1:=by rw[QU];omega
 unfold execOp;simp only[A2,e,e'];constructor
 ·simp[go_sem,eqGuard,Go.binOp,hw]
 ·intro e he;simp[go_sem,eqGuard,Go.binOp] at he
end
end
end Go.Proofs.Tryv
