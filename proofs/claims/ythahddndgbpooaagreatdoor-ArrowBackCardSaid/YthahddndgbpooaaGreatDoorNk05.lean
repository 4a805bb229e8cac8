import Derived.Test.YthahddndgbpooaaGreatDoorNkA
import Derived.Test.YthahddndgbpooaaGreatDoorNk04
import Derived.Conc.Beside
import Derived.Conc.CrowdRun
set_option linter.all false
open Go Go.Conc
variable {a:Addr}{gs:Array Goroutine}{fr' fr1':Frame}{E:Frame->List Frame->World->Prop}{bot' cs' cs1':List Frame}{m m':Machine}{Gg b i j r:Nat}{q ρ:Nat->Nat}{Fz o:Nat->Prop}{ops t' u:Trace}{w w0 w1 w₁ w₂:World}
namespace Go.Nk
section
open Go.ConcN (PermW RelBy fork_knows Deaf_absent)
section
variable (N0:Nat)(Sh Sn:Loc->Prop)(Own Rd:Nat->Loc->Prop)
structure ApartN(j:Nat):Prop where
 own:∀k k' l,k<j->k'<j->Own k l->Own k' l->k=k'
 ownRd:∀k k' l,k<j->k'<j->Own k l->¬Rd k' l
 ownSh:∀k l,k<j->Own k l->¬Sh l/\¬Sn l
 rdSh:∀k l,k<j->Rd k l->¬Sh l/\¬Sn l
structure TN(t:Trace)(j:Nat):Prop where
 quiet:Quiet Sh t
 own:∀k,k<j->∀l,Own k l->Perm t (N0+k) l
 rd:∀k,k<j->∀l,Rd k l->PermW t (N0+k) l
 free:∀l,l.isMemory=true->¬Sh l->¬Sn l->(∀k,k<j->¬Own k l/\¬Rd k l)->Perm t 0 l
 mine:∀l,l.isMemory=true->¬Sh l->¬Sn l->(∀k,k<j->¬Own k l)->PermW t 0 l
 nr:∀said,¬Race said t
 gs:∀(i:Nat)(op:MemOp),t[i]? =some op->op.g<N0+j
def ZdS(j:Nat)(op:MemOp):Prop:=
 op.g=0/\∀x,op.act.touch? =some x->(Sh x.loc/\x.kind≠.plain)\/(¬Sh x.loc/\¬Sn x.loc/\(∀k,k<j->¬Own k x.loc)/\(x.write=true->∀k,k<j->¬Rd k x.loc))
def ZdT(k:Nat)(op:MemOp):Prop:=
 op.g=N0+k/\∀x,op.act.touch? =some x->(Sh x.loc/\x.kind≠.plain/\x.kind≠.said)\/Own k x.loc\/(Rd k x.loc/\x.write=false)
end
section
variable {N0:Nat}{Sh Sn:Loc->Prop}{Own Own' Rd:Nat->Loc->Prop}{t:Trace}
theorem TN.app0(hN:0<N0)(A:ApartN Sh Sn Own Rd j)(h:TN N0 Sh Sn Own Rd t j)(hu:∀op∈u,ZdS Sh Sn Own Rd j op):TN N0 Sh Sn Own Rd (t++u) j:=by
 refine⟨h.quiet.app λop A2 x hx hs=> ?_,λk kj l hl=>(h.own k kj l hl).app λop A2 b hb e=> ?_,λk kj l hl=>(h.rd k kj l hl).app λop A2 b hb e hw=> ?_,
  λl hm hs hn hl=>(h.free l hm hs hn hl).app λop A2 _ _ _=>(hu op A2).1,λl hm hs hn hl=>(h.mine l hm hs hn hl).app λop A2 _ _ _ _=>(hu op A2).1,λsaid=> ?_,λi op hi=> ?_⟩
 ·rcases(hu op A2).2 x hx with⟨_,hk⟩|⟨hn,_⟩
  ·exact⟨hk,λ_=>(hu op A2).1⟩
  ·exact absurd hs hn
 ·rcases(hu op A2).2 b hb with⟨hs,_⟩|⟨_,_,hn,_⟩
  ·exact absurd (e▸hs) (A.ownSh k l kj hl).1
  ·exact absurd (e▸hl) (hn k kj)
 ·rcases(hu op A2).2 b hb with⟨hs,_⟩|⟨_,_,_,hn⟩
  ·exact absurd (e▸hs) (A.rdSh k l kj hl).1
  ·exact absurd (e▸hl) (hn hw k kj)
 ·refine QW (h.nr said) (λop A2=>(hu op A2).1) (λi a ha op A2 b hb hc=> ?_);have hm:b.loc.isMemory=true:=hc.1▸hc.2.1;rcases(hu op A2).2 b hb with⟨hs,hk⟩|⟨hs,hn,Ez,F1⟩
  ·exact h.quiet.known hs hk (λ_=>rfl) i a ha hc
  ·cases Dc:b.write with
   |true=>exact h.free b.loc hm hs hn (λk kj=>⟨Ez k kj,F1 Dc k kj⟩) i a ha hc.1
   |false=>exact h.mine b.loc hm hs hn Ez i a ha hc.1 (hc.2.2.1.resolve_right (by simp[Dc]))
 ·rcases getElem?_append_cases hi with⟨_,hi'⟩|⟨_,M8⟩
  ·exact h.gs i op hi'
  ·rw[(hu op M8).1];omega
theorem TN.appW(A:ApartN Sh Sn Own Rd j)(h:TN N0 Sh Sn Own Rd t j){k:Nat}(kj:k<j)(hu:∀op∈u,ZdT N0 Sh Own Rd k op):TN N0 Sh Sn Own Rd (t++u) j:=by
 refine⟨h.quiet.app λop A2 x hx hs=> ?_,λk' kj' l hl=>(h.own k' kj' l hl).app λop A2 b hb e=> ?_,λk' kj' l hl=>(h.rd k' kj' l hl).app λop A2 b hb e hw=> ?_,
  λl hm hs hn hl=>(h.free l hm hs hn hl).app λop A2 b hb e=> ?_,λl hm hs hn hl=>(h.mine l hm hs hn hl).app λop A2 b hb e hw=> ?_,λsaid=> ?_,λi op hi=> ?_⟩
 ·rcases(hu op A2).2 x hx with⟨_,hk,hn⟩|ho|⟨hr,_⟩
  ·exact⟨hk,λe=>absurd e hn⟩
  ·exact absurd hs (A.ownSh k _ kj ho).1
  ·exact absurd hs (A.rdSh k _ kj hr).1
 ·rcases(hu op A2).2 b hb with⟨hs,_⟩|ho|⟨hr,_⟩
  ·exact absurd (e▸hs) (A.ownSh k' l kj' hl).1
  ·rw[(hu op A2).1,A.own k k' l kj kj' (e▸ho) hl]
  ·exact absurd (e▸hr) (A.ownRd k' k l kj' kj hl)
 ·rcases(hu op A2).2 b hb with⟨hs,_⟩|ho|⟨_,hr⟩
  ·exact absurd (e▸hs) (A.rdSh k' l kj' hl).1
  ·exact absurd hl (A.ownRd k k' l kj kj' (e▸ho))
  ·rw[hr] at hw;cases hw
 ·rcases(hu op A2).2 b hb with⟨hs',_⟩|ho|⟨hr,_⟩
  ·exact absurd (e▸hs') hs
  ·exact absurd (e▸ho) (hl k kj).1
  ·exact absurd (e▸hr) (hl k kj).2
 ·rcases(hu op A2).2 b hb with⟨hs',_⟩|ho|⟨_,hr⟩
  ·exact absurd (e▸hs') hs
  ·exact absurd (e▸ho) (hl k kj)
  ·rw[hr] at hw;cases hw
 ·refine QW (h.nr said) (λop A2=>(hu op A2).1) (λi a ha op A2 b hb hc=> ?_);rcases(hu op A2).2 b hb with⟨hs,hk,hn⟩|ho|⟨hr,Dc⟩
  ·exact h.quiet.known hs hk (λe=>absurd e hn) i a ha hc
  ·exact h.own k kj b.loc ho i a ha hc.1
  ·exact h.rd k kj b.loc hr i a ha hc.1 (hc.2.2.1.resolve_right (by simp[Dc]))
 ·rcases getElem?_append_cases hi with⟨_,hi'⟩|⟨_,M8⟩
  ·exact h.gs i op hi'
  ·rw[(hu op M8).1];omega
theorem TN.appMute(h:TN N0 Sh Sn Own Rd t j){g:Nat}(hg:g<N0+j)(hu:∀op∈u,op.g=g)(hn:∀op∈u,op.act.touch? =none):TN N0 Sh Sn Own Rd (t++u) j:=by
 have no:∀op∈u,∀b,op.act.touch? =some b->False:=λop A2 b hb=>by rw[hn op A2] at hb;cases hb
 refine⟨h.quiet.app λop A2 x hx _=>(no op A2 x hx).elim,λk kj l hl=>(h.own k kj l hl).app λop A2 b hb _=>(no op A2 b hb).elim,λk kj l hl=>(h.rd k kj l hl).app λop A2 b hb _ _=>(no op A2 b hb).elim,
  λl hm hs hn hl=>(h.free l hm hs hn hl).app λop A2 b hb _=>(no op A2 b hb).elim,λl hm hs hn hl=>(h.mine l hm hs hn hl).app λop A2 b hb _ _=>(no op A2 b hb).elim,
  λsaid=>QW (h.nr said) hu λi a _ op A2 b hb _=>(no op A2 b hb).elim,λi op hi=> ?_⟩
 rcases getElem?_append_cases hi with⟨_,hi'⟩|⟨_,M8⟩
 ·exact h.gs i op hi'
 ·rw[hu op M8];exact hg
theorem TN.grow(h:TN N0 Sh Sn Own Rd t j)(hO:∀k l,k<j->Own k l->Own' k l)(Bn:∀k l,k<j->Own' k l->Own k l\/∀i a,touchAt t i=some a->a.loc≠l):TN N0 Sh Sn Own' Rd t j:=
 ⟨h.quiet,λk kj l hl=>(Bn k l kj hl).elim (h.own k kj l) (λhn i a ha e=>absurd e (hn i a ha)),h.rd,λl hm hs hn hl=>h.free l hm hs hn λk kj=>⟨λho=>(hl k kj).1 (hO k l kj ho),(hl k kj).2⟩,
   λl hm hs hn hl=>h.mine l hm hs hn λk kj ho=>hl k kj (hO k l kj ho),h.nr,h.gs⟩
theorem TN.fork(hN:0<N0)(A:ApartN Sh Sn Own Rd (j+1))(Ee:∀l,Own j l->l.isMemory=true)(hm2:∀l,Rd j l->l.isMemory=true)(h:TN N0 Sh Sn Own Rd t j){x y:MemOp}(hx:x.g=0/\x.act= .go (N0+j))(hy:y.g=N0+j/\y.act= .start)(h0:Deaf t 0=0):
 TN N0 Sh Sn Own Rd (t++ #[x,y]) (j+1):=by
 have hk:Deaf t (N0+j)=0:=Deaf_absent λi op hi e=>by have:=h.gs i op hi;omega
 have Hx:∀op∈#[x,y],∀b,op.act.touch? =some b->False:=by
  intro op A2 b hb;simp only[List.mem_toArray,XE,XL,VO] at A2;rcases A2 with rfl|rfl
  ·rw[hx.2] at hb;cases hb
  ·rw[hy.2] at hb;cases hb
 have old:∀{i:Nat}{a:Touch},touchAt (t++ #[x,y]) i=some a->touchAt t i=some a:=by
  intro i a ha;obtain⟨z,hz,hza⟩:=touch_of ha;rcases getElem?_append_cases hz with⟨_,hz'⟩|⟨_,hzu⟩
  ·rw[touchAt_of hz'];exact hza
  ·exact(Hx z hzu a hza).elim
 refine⟨h.quiet.app λop A2 b hb _=>(Hx op A2 b hb).elim,λk kj l hl=> ?_,λk kj l hl=> ?_,
  λl hm hs hn hl=>(h.free l hm hs hn λk kj=>hl k (by omega)).app λop A2 b hb _=>(Hx op A2 b hb).elim,λl hm hs hn hl=>(h.mine l hm hs hn λk kj=>hl k (by omega)).app λop A2 b hb _ _=>(Hx op A2 b hb).elim,λsaid=> ?_,λi op hi=> ?_⟩
 ·rcases XY k j with A3|Fl
  ·exact(h.own k A3 l hl).app λop A2 b hb _=>(Hx op A2 b hb).elim
  ·obtain rfl:k=j:=by omega
   obtain⟨n1,n2⟩:=A.ownSh _ l kj hl;exact λi a ha e=>fork_knows hx hy h0 hk (h.free l (Ee l hl) n1 n2 (λk' k'j=>⟨λho=>by have:=A.own _ _ l (by omega) (by omega) ho hl;omega,A.ownRd _ _ l kj (by omega) hl⟩) i a (old ha) e)
 ·rcases XY k j with A3|Fl
  ·exact(h.rd k A3 l hl).app λop A2 b hb _=>(Hx op A2 b hb).elim
  ·obtain rfl:k=j:=by omega
   obtain⟨n1,n2⟩:=A.rdSh _ l kj hl;exact λi a ha e hw=>fork_knows hx hy h0 hk (h.mine l (hm2 l hl) n1 n2 (λk' k'j ho=>A.ownRd _ _ l (by omega) kj ho hl) i a (old ha) e hw)
 ·have e:t++ #[x,y]=(t++ #[x])++ #[y]:=by apply Array.ext';simp
  rw[e]
  refine QW (g:=N0+j) (QW (g:=0) (h.nr said) (λop A2=>by simp at A2;rw[A2];exact hx.1) (λi a _ op A2 b hb _=>(Hx op (by simp at A2⊢;exact .inl A2) b hb).elim))
   (λop A2=>by simp at A2;rw[A2];exact hy.1) (λi a _ op A2 b hb _=>(Hx op (by simp at A2⊢;exact .inr A2) b hb).elim)
 ·rcases getElem?_append_cases hi with⟨_,hi'⟩|⟨_,M8⟩
  ·have:=h.gs i op hi';omega
  ·simp only[List.mem_toArray,XE,XL,VO] at M8;rcases M8 with rfl|rfl
   ·rw[hx.1];omega
   ·rw[hy.1];omega
structure RelN(Sh:Loc->Prop)(a:Addr)(t:Trace)(g r:Nat):Prop where
 by_:RelBy a t g r
 late:∀i x,r<i->t.g? i=some g->touchAt t i=some x->Sh x.loc/\x.kind= .atomic
theorem Z4F{t:Trace}{op:MemOp}(h:t[i]? =some op):t.g? i=some op.g:=by simp[Trace.g?,h]
theorem RelN.app{g:Nat}(h:RelN Sh a t g r)(h':RelBy a (t++u) g r)(hu:∀op∈u,op.g=g->∀x,op.act.touch? =some x->Sh x.loc/\x.kind= .atomic):RelN Sh a (t++u) g r:=by
 refine⟨h',λi x hi hg hx=> ?_⟩;obtain⟨op,ho,No⟩:=touch_of hx;rcases getElem?_append_cases ho with⟨A3,ho'⟩|⟨_,F2⟩
 ·exact h.late i x hi (by rw[Z4F ho',<-Z4F ho];exact hg) (by rw[touchAt_of ho'];exact No)
 ·refine hu op F2 ?_ x No;rw[Z4F ho] at hg;exact YT hg
structure OldK(N0:Nat)(Sn:Loc->Prop)(t:Trace):Prop where
 known:∀i a g,t.g? i=some g->g<N0->touchAt t i=some a->a.loc.isMemory=true->Knows t 0 i\/(Sn a.loc/\a.kind= .atomic)
 over:∀i g,t.g? i=some g->g≠0->g<N0->t.counts i->∃j,t.g? j=some 0/\HappensBefore t i j
theorem OldK.app(h:OldK N0 Sn t)(hu:∀op∈u,op.g=0\/N0<=op.g\/op.act.touch? =none):OldK N0 Sn (t++u):=by
 refine⟨λi a g hg A3 ha hm=> ?_,λi g hg A9 A3 hc=> ?_⟩
 ·obtain⟨x,hx,Fx⟩:=touch_of ha;rcases getElem?_append_cases hx with⟨_,hx'⟩|⟨_,hxu⟩
  ·exact(h.known i a g (by rw[Z4F hx',<-Z4F hx];exact hg) A3 (by rw[touchAt_of hx'];exact Fx) hm).imp (·.app u) id
  ·rw[Z4F hx] at hg;have hg:=YT hg;rcases hu x hxu with h0|h0|h0
   ·have:=knows_own hx;rw[h0] at this;exact .inl this
   ·omega
   ·rw[h0] at Fx;cases Fx
 ·obtain⟨x,hx,hxm,Wr⟩:=hc;obtain⟨op,A2,No⟩:=touch_of hx;rw[Z4F A2] at hg;have hg:=YT hg;rcases getElem?_append_cases A2 with⟨hi,Ws⟩|⟨_,Wt⟩
  ·obtain⟨q,hq,hb⟩:=h.over i g (by rw[Z4F Ws,hg]) A9 A3 ((counts_old hi).1 ⟨x,hx,hxm,Wr⟩);have hql:q<t.size:=by
    unfold Trace.g? at hq;obtain⟨z,hz,_⟩:=XT.1 hq;exact lt_size_of_getElem? hz
   exact⟨q,by simpa[Trace.g?,getElem?_append_old hql] using hq,hb_app u hb⟩
  ·rcases hu op Wt with h0|h0|h0
   ·omega
   ·omega
   ·rw[h0] at No;cases No
end
end
section
open Go.ConcN (ShN WgLive PayAt Has CTag RW AtK1 AtR0 upd)
open Go.ConcR (KK WgAt stA smA rd wr mk Payload DC0)
variable [Payload]
def LB(S:Nat->Prop)(l:Loc):Prop:=(∃a,l= .cell a/\S a.block)\/∃r,l= .obj r/\S r
def Zu(Sb:Nat->Prop)(l:Loc):Prop:=∃a,l= .cell a/\Sb a.block
def Z0r(Wg:Nat)(e:Event):Prop:=e.loc≠.mark .disable/\e.loc≠.mark .enable/\e.loc≠.mark (.release (stA Wg))
section
variable (ty:TypeId)(Wg C n:Nat)(Sb:Nat->Prop)
structure RWo(k:Nat)(Rd o:Nat->Prop)(w w₁:World):Prop where
 own:∀b,o b->w₁.heap[b]? =w.heap[b]?
 rd:∀b,Rd b->w₁.heap[b]? =w.heap[b]?
 size:w.heap.size<=w₁.heap.size
 live:WgLive ty Wg w->WgLive ty Wg w₁
 pay:PayAt C n w->PayAt C n w₁
 cell:w₁.cell? ⟨C,k,none⟩=w.cell? ⟨C,k,none⟩
def EvWo(k:Nat)(Rd o:Nat->Prop)(e:Event):Prop:=
 (∀x,(MemAct.ofEvent e).touch? =some x->(ShN Wg x.loc/\x.kind≠.plain/\x.kind≠.said)\/LB o x.loc\/x.loc= .cell ⟨C,k,none⟩\/(LB Rd x.loc/\¬Zu Sb x.loc/\x.write=false))/\Z0r Wg e
structure DWo(k:Nat)(Rd o:Nat->Prop)(w w':World)(es:Array Event):Prop where
 stay:∀b,b<w.heap.size->¬o b->b≠C->w'.heap[b]? =w.heap[b]?
 pay:PayAt C n w->PayAt C n w'
 cells:∀i,i≠k->w'.cell? ⟨C,i,none⟩=w.cell? ⟨C,i,none⟩
 size:w.heap.size<=w'.heap.size
 tape:w'.tape=w.tape
 os:w'.os=w.os
 output:w'.output=w.output
 evs:∀e∈es,EvWo Wg C Sb k Rd (grow o w w') e/\(MemAct.ofEvent e).low w'.heap.size
structure RMo(o:Nat->Prop)(w w₁:World):Prop where
 own:∀b,o b->w₁.heap[b]? =w.heap[b]?
 size:w.heap.size<=w₁.heap.size
 live:WgLive ty Wg w->WgLive ty Wg w₁
 pay:PayAt C n w->PayAt C n w₁
 tape:w₁.tape=w.tape
 os:w₁.os=w.os
 output:w₁.output=w.output
def EvMo(Giv o:Nat->Prop)(e:Event):Prop:=
 (∀x,(MemAct.ofEvent e).touch? =some x->(ShN Wg x.loc/\x.kind≠.plain)\/(LB o x.loc/\¬Zu Sb x.loc/\(x.write=true->¬LB Giv x.loc)))/\Z0r Wg e
structure DMo(Giv o:Nat->Prop)(w w':World)(es:Array Event):Prop where
 stay:∀b,b<w.heap.size->(¬o b\/Giv b)->w'.heap[b]? =w.heap[b]?
 size:w.heap.size<=w'.heap.size
 tape:w'.tape=w.tape
 os:w'.os=w.os
 output:w'.output=w.output
 evs:∀e∈es,EvMo Wg Sb Giv (grow o w w') e/\(MemAct.ofEvent e).low w'.heap.size
end
section
variable (P:Program)(ty:TypeId)(Wg C n:Nat)(Sb:Nat->Prop)(Res:Nat->(Nat->Prop)->Value->World->Prop)
def SW(k:Nat)(o:Nat->Prop)(g:Goroutine)(w:World):Prop:=∃v,Res k o v w/\AtR0 P ty Wg C n 0 (k+1) v g w
def Z9l(k:Nat)(Rd:Nat->Prop)(g:Goroutine)(w:World):Prop:=∃r,GoT P false (RWo ty Wg C n k Rd) (DWo Wg C n Sb k Rd) (SW P ty Wg C n Res k) r (λ_=>False) g w
variable (End AnchW:(Nat->Prop)->Goroutine->World->Prop)
section
variable (Giv:Nat->Prop)
def MAcq(o:Nat->Prop)(g:Goroutine)(w:World):Prop:=
 g.status= .running/\∃g',stepG P true g w= .go g' w #[mk (.acquire (stA Wg))]/\((fun(o:Nat->Prop)(g:Goroutine)(w:World)=>∃r,GoT P true (RMo ty Wg C n) (DMo Wg Sb Giv) End r o g w)) o g' w
def MKe(o:Nat->Prop)(g:Goroutine)(w:World):Prop:=
 g.status= .running/\∃g',stepG P true g w= .go g' w #[mk .enable]/\((fun(o:Nat->Prop)(g:Goroutine)(w:World)=>∃r,GoT P true (RMo ty Wg C n) (DMo Wg Sb Giv) (MAcq P ty Wg C n Sb End Giv) r o g w)) o g' w
def MW4(o:Nat->Prop)(g:Goroutine)(w:World):Prop:=
 g.status= .running/\(WgAt ty Wg w 0 0->∃g',stepG P true g w= .go g' w #[rd (stA Wg)]/\((fun(o:Nat->Prop)(g:Goroutine)(w:World)=>∃r,GoT P true (RMo ty Wg C n) (DMo Wg Sb Giv) (MKe P ty Wg C n Sb End Giv) r o g w)) o g' w)
def MW3(o:Nat->Prop)(g:Goroutine)(w:World):Prop:=
 g.status= .running/\g.offers=none/\((∃st,WgAt ty Wg w st 0)->stepG P true g w= .go {g with status:= .blocked} w #[])/\
  (WgAt ty Wg w 0 1->∃g',stepG P true g w= .go g' (w.setCell (smA Wg) (.int .u32 0)) (semEvents (smA Wg))/\((fun(o:Nat->Prop)(g:Goroutine)(w:World)=>∃r,GoT P true (RMo ty Wg C n) (DMo Wg Sb Giv) (MW4 P ty Wg C n Sb End Giv) r o g w)) o g' (w.setCell (smA Wg) (.int .u32 0)))
def MW2(vs:Nat)(o:Nat->Prop)(g:Goroutine)(w:World):Prop:=
 g.status= .running/\∀v:Nat,v<2147483648->WgAt ty Wg w (v*KK) 0->
  (v=vs->∃g',stepG P true g w= .go g' (w.setCell (stA Wg) (.int .u64 (v*KK+1))) #[rd (stA Wg),wr (stA Wg)]/\((fun(o:Nat->Prop)(g:Goroutine)(w:World)=>∃r,GoT P true (RMo ty Wg C n) (DMo Wg Sb Giv) (MW3 P ty Wg C n Sb End Giv) r o g w)) o g' (w.setCell (stA Wg) (.int .u64 (v*KK+1))))/\
  (v≠vs->∃g',stepG P true g w= .go g' w #[rd (stA Wg)]/\((fun(o:Nat->Prop)(g:Goroutine)(w:World)=>∃r,GoT P true (RMo ty Wg C n) (DMo Wg Sb Giv) AnchW r o g w)) o g' w)
def MW1(o:Nat->Prop)(g:Goroutine)(w:World):Prop:=
 g.status= .running/\∀v:Nat,v<2147483648->WgAt ty Wg w (v*KK) 0->∃g',stepG P true g w= .go g' w #[rd (stA Wg)]/\
  (v=0->((fun(o:Nat->Prop)(g:Goroutine)(w:World)=>∃r,GoT P true (RMo ty Wg C n) (DMo Wg Sb Giv) (MKe P ty Wg C n Sb End Giv) r o g w)) o g' w)/\(v≠0->((fun(o:Nat->Prop)(g:Goroutine)(w:World)=>∃r,GoT P true (RMo ty Wg C n) (DMo Wg Sb Giv) (MW2 P ty Wg C n Sb End AnchW Giv v) r o g w)) o g' w)
def MKd(o:Nat->Prop)(g:Goroutine)(w:World):Prop:=
 g.status= .running/\∃g',stepG P true g w= .go g' w #[mk .disable]/\((fun(o:Nat->Prop)(g:Goroutine)(w:World)=>∃r,GoT P true (RMo ty Wg C n) (DMo Wg Sb Giv) AnchW r o g w)) o g' w
def MGo(j:Nat)(Next:(Nat->Prop)->Goroutine->World->Prop)(o:Nat->Prop)(g:Goroutine)(w:World):Prop:=
 g.status= .running/\∃g' child,stepG P true g w= .spawn g' child w #[]/\child.status= .running/\(PayAt C n w->Z9l P ty Wg C n Sb Res j o child w)/\Next o g' w
def MKeS(j:Nat)(Next:(Nat->Prop)->Goroutine->World->Prop)(o:Nat->Prop)(g:Goroutine)(w:World):Prop:=
 g.status= .running/\∃g',stepG P true g w= .go g' w #[mk .enable]/\((fun(o:Nat->Prop)(g:Goroutine)(w:World)=>∃r,GoT P true (RMo ty Wg C n) (DMo Wg Sb Giv) (MGo P ty Wg C n Sb Res j Next) r o g w)) o g' w
def MA1(j:Nat)(Next:(Nat->Prop)->Goroutine->World->Prop)(o:Nat->Prop)(g:Goroutine)(w:World):Prop:=
 g.status= .running/\∀v:Nat,v<2147483647->WgAt ty Wg w (v*KK) 0->
  ∃g',stepG P true g w= .go g' (w.setCell (stA Wg) (.int .u64 ((v+1)*KK))) #[rd (stA Wg),wr (stA Wg)]/\((fun(o:Nat->Prop)(g:Goroutine)(w:World)=>∃r,GoT P true (RMo ty Wg C n) (DMo Wg Sb Giv) (MKeS P ty Wg C n Sb Res Giv j Next) r o g w)) o g' (w.setCell (stA Wg) (.int .u64 ((v+1)*KK)))
def ZdU(j:Nat)(Next:(Nat->Prop)->Goroutine->World->Prop)(o:Nat->Prop)(g:Goroutine)(w:World):Prop:=
 g.status= .running/\∃g',stepG P true g w= .go g' w #[mk .disable]/\((fun(o:Nat->Prop)(g:Goroutine)(w:World)=>∃r,GoT P true (RMo ty Wg C n) (DMo Wg Sb Giv) (MA1 P ty Wg C n Sb Res Giv j Next) r o g w)) o g' w
end
def SpawnsN:Nat->(Nat->Prop)->(Nat->Prop)->Goroutine->World->Prop
 |0,Giv,o,g,w=>∃r,GoT P true (RMo ty Wg C n) (DMo Wg Sb Giv) (MKd P ty Wg C n Sb AnchW Giv) r o g w
 |r+1,Giv,o,g,w=>∃t,GoT P true (RMo ty Wg C n) (DMo Wg Sb Giv) (ZdU P ty Wg C n Sb Res Giv (n - (r+1)) (λo g w=>SpawnsN r o o g w)) t o g w
inductive CS:CTag->Nat->(Nat->Prop)->(Nat->Prop)->Tr×Nat->Nat->Goroutine->World->Prop
 |skd {r:Nat} {f:Tr} {Giv o:Nat->Prop} {g:Goroutine} {w:World}:r<n->GoT P true (RMo ty Wg C n) (DMo Wg Sb Giv) (ZdU P ty Wg C n Sb Res Giv (n - (r+1)) (λo g w=>SpawnsN P ty Wg C n Sb Res AnchW r o o g w)) f o g w->CS (.sp r 5) (n - (r+1)) Giv o (f,0) 0 g w
 |sa1 {r:Nat} {f:Tr} {Giv o:Nat->Prop} {g:Goroutine} {w:World}:r<n->GoT P true (RMo ty Wg C n) (DMo Wg Sb Giv) (MA1 P ty Wg C n Sb Res Giv (n - (r+1)) (λo g w=>SpawnsN P ty Wg C n Sb Res AnchW r o o g w)) f o g w->CS (.sp r 4) (n - (r+1)) Giv o (f,0) 1 g w
 |ske {r:Nat} {f:Tr} {Giv o:Nat->Prop} {g:Goroutine} {w:World}:r<n->GoT P true (RMo ty Wg C n) (DMo Wg Sb Giv) (MKeS P ty Wg C n Sb Res Giv (n - (r+1)) (λo g w=>SpawnsN P ty Wg C n Sb Res AnchW r o o g w)) f o g w->CS (.sp r 3) (n - (r+1)) Giv o (f,0) 1 g w
 |sgo {r:Nat} {f:Tr} {Giv o:Nat->Prop} {g:Goroutine} {w:World}:r<n->GoT P true (RMo ty Wg C n) (DMo Wg Sb Giv) (MGo P ty Wg C n Sb Res (n - (r+1)) (λo g w=>SpawnsN P ty Wg C n Sb Res AnchW r o o g w)) f o g w->CS (.sp r 2) (n - (r+1)) Giv o (f,0) 0 g w
 |kd {f:Tr} {Giv o:Nat->Prop} {g:Goroutine} {w:World}:GoT P true (RMo ty Wg C n) (DMo Wg Sb Giv) (MKd P ty Wg C n Sb AnchW Giv) f o g w->CS .kd n Giv o (f,0) 0 g w
 |anch {f:Tr} {Giv o:Nat->Prop} {g:Goroutine} {w:World}:GoT P true (RMo ty Wg C n) (DMo Wg Sb Giv) AnchW f o g w->CS .anch n Giv o (f,0) 1 g w
 |w1 {f:Tr} {Giv o:Nat->Prop} {g:Goroutine} {w:World}:GoT P true (RMo ty Wg C n) (DMo Wg Sb Giv) (MW1 P ty Wg C n Sb End AnchW Giv) f o g w->CS .w1 n Giv o (f,0) 1 g w
 |w2 {vs:Nat} {f:Tr} {Giv o:Nat->Prop} {g:Goroutine} {w:World}:GoT P true (RMo ty Wg C n) (DMo Wg Sb Giv) (MW2 P ty Wg C n Sb End AnchW Giv vs) f o g w->CS (.w2 vs) n Giv o (f,0) 1 g w
 |w3 {f:Tr} {Giv o:Nat->Prop} {g:Goroutine} {w:World}:GoT P true (RMo ty Wg C n) (DMo Wg Sb Giv) (MW3 P ty Wg C n Sb End Giv) f o g w->CS .w3 n Giv o (f,1) 1 g w
 |blk {f:Tr} {Giv o:Nat->Prop} {g:Goroutine} {w:World}:(∀w₁,RMo ty Wg C n o w w₁->MW3 P ty Wg C n Sb End Giv o g w₁)->CS .blk n Giv o (f,0) 1 {g with status:= .blocked} w
 |w4 {f:Tr} {Giv o:Nat->Prop} {g:Goroutine} {w:World}:GoT P true (RMo ty Wg C n) (DMo Wg Sb Giv) (MW4 P ty Wg C n Sb End Giv) f o g w->CS .w4 n Giv o (f,0) 1 g w
 |ke {f:Tr} {Giv o:Nat->Prop} {g:Goroutine} {w:World}:GoT P true (RMo ty Wg C n) (DMo Wg Sb Giv) (MKe P ty Wg C n Sb End Giv) f o g w->CS .ke n Giv o (f,0) 1 g w
 |acq {f:Tr} {Giv o:Nat->Prop} {g:Goroutine} {w:World}:GoT P true (RMo ty Wg C n) (DMo Wg Sb Giv) (MAcq P ty Wg C n Sb End Giv) f o g w->CS .acq n Giv o (f,0) 0 g w
 |ret {f:Tr} {Giv o:Nat->Prop} {g:Goroutine} {w:World}:GoT P true (RMo ty Wg C n) (DMo Wg Sb Giv) End f o g w->CS .ret n Giv o (f,0) 0 g w
inductive WS(k:Nat)(Rd:Nat->Prop)(v:Value):Nat->(Nat->Prop)->Tr->Nat->Goroutine->World->Prop
 |work {r:Tr} {o:Nat->Prop} {g:Goroutine} {w:World}:GoT P false (RWo ty Wg C n k Rd) (DWo Wg C n Sb k Rd) (SW P ty Wg C n Res k) r o g w->WS k Rd v 7 o r 0 g w
 |late {s m d:Nat} {o:Nat->Prop} {g:Goroutine} {w:World}:s<=6->Go.ConcN.WSit P ty Wg C n (λ_ _=>False) (λ_ _=>False) 0 (k+1) v s m d g w->WS k Rd v s o (.ofNat m) d g w
end
section
variable {P:Program}{ty:TypeId}{Wg C n:Nat}{Sb:Nat->Prop}{Res:Nat->(Nat->Prop)->Value->World->Prop}{End AnchW:(Nat->Prop)->Goroutine->World->Prop}{k:Nat}{Rd Giv:Nat->Prop}
theorem RWo.refl(o:Nat->Prop)(w:World):RWo ty Wg C n k Rd o w w:=⟨λ_ _=>rfl,λ_ _=>rfl,XB _,id,id,rfl⟩
theorem RWo.trans(h:RWo ty Wg C n k Rd o w w₁)(h':RWo ty Wg C n k Rd o w₁ w₂):RWo ty Wg C n k Rd o w w₂:=
 ⟨λb hb=>(h'.own b hb).trans (h.own b hb),λb hb=>(h'.rd b hb).trans (h.rd b hb),XD h.size h'.size,h'.live∘h.live,h'.pay∘h.pay,h'.cell.trans h.cell⟩
theorem RWo.rw(h:RWo ty Wg C n k Rd o w w₁):RW ty Wg C n 0 k w w₁:=⟨λb hb=>by omega,h.live,h.pay,h.cell⟩
theorem RWo.at(w:World)(d:Nat):RWo ty Wg C n k Rd o w (w.at d):=⟨λ_ _=>rfl,λ_ _=>rfl,XB _,id,id,rfl⟩
theorem RMo.refl(o:Nat->Prop)(w:World):RMo ty Wg C n o w w:=⟨λ_ _=>rfl,XB _,id,id,rfl,rfl,rfl⟩
theorem RMo.trans(h:RMo ty Wg C n o w w₁)(h':RMo ty Wg C n o w₁ w₂):RMo ty Wg C n o w w₂:=
 ⟨λb hb=>(h'.own b hb).trans (h.own b hb),XD h.size h'.size,h'.live∘h.live,h'.pay∘h.pay,h'.tape.trans h.tape,h'.os.trans h.os,h'.output.trans h.output⟩
theorem RMo.at(w:World)(d:Nat):RMo ty Wg C n o w (w.at d):=⟨λ_ _=>rfl,XB _,id,id,rfl,rfl,rfl⟩
theorem WS.rely{v:Value}{s d:Nat}{r:Tr}{g:Goroutine}(h:WS P ty Wg C n Sb Res k Rd v s o r d g w)(hr:RWo ty Wg C n k Rd o w w₁):WS P ty Wg C n Sb Res k Rd v s o r d g w₁:=by
 cases h with
 |work h=>exact .work (h.rely (λ_ _ _ _ h1 h2=>h1.trans h2) hr)
 |late hs h=>exact .late hs (h.rely hr.rw)
theorem WS.status{v:Value}{s d:Nat}{r:Tr}{g:Goroutine}(h:WS P ty Wg C n Sb Res k Rd v s o r d g w):g.status= .running\/g.status= .finished:=by
 cases h with
 |work h=>exact .inl (h.running RWo.refl (λ_ _ _ ⟨_,_,x⟩=>x.1))
 |late hs h=>exact h.status
theorem WS.running_of{v:Value}{s d:Nat}{r:Tr}{g:Goroutine}(h:WS P ty Wg C n Sb Res k Rd v s o r d g w)(hs:s≠1):g.status= .running:=by
 cases h with
 |work h=>exact h.running RWo.refl (λ_ _ _ ⟨_,_,x⟩=>x.1)
 |late _ h=>exact h.running_of hs
theorem WS.woken{v:Value}{s d:Nat}{r:Tr}{g:Goroutine}(h:WS P ty Wg C n Sb Res k Rd v s o r d g w)(a a':Goroutine)(w':World):Go.Conc.woken P a a' w' g=g:=by
 unfold Go.Conc.woken;split
 ·exact again_running _ h.status
 ·rfl
theorem CS.rely{tag:CTag}{j d:Nat}{f:Tr×Nat}{a:Goroutine}(h:CS P ty Wg C n Sb Res End AnchW tag j Giv o f d a w)(hr:RMo ty Wg C n o w w₁):CS P ty Wg C n Sb Res End AnchW tag j Giv o f d a w₁:=by
 have tr:∀o x y z,RMo ty Wg C n o x y->RMo ty Wg C n o y z->RMo ty Wg C n o x z:=λ_ _ _ _ h1 h2=>h1.trans h2
 cases h with
 |skd hn h=>exact .skd hn (h.rely tr hr)
 |sa1 hn h=>exact .sa1 hn (h.rely tr hr)
 |ske hn h=>exact .ske hn (h.rely tr hr)
 |sgo hn h=>exact .sgo hn (h.rely tr hr)
 |kd h=>exact .kd (h.rely tr hr)
 |anch h=>exact .anch (h.rely tr hr)
 |w1 h=>exact .w1 (h.rely tr hr)
 |w2 h=>exact .w2 (h.rely tr hr)
 |w3 h=>exact .w3 (h.rely tr hr)
 |blk h=>exact .blk (λw₂ h₂=>h w₂ (hr.trans h₂))
 |w4 h=>exact .w4 (h.rely tr hr)
 |ke h=>exact .ke (h.rely tr hr)
 |acq h=>exact .acq (h.rely tr hr)
 |ret h=>exact .ret (h.rely tr hr)
theorem CS.status(Dw:∀o g w,AnchW o g w->g.status= .running)(Br:∀o g w,End o g w->g.status= .running){tag:CTag}{j d:Nat}{f:Tr×Nat}{a:Goroutine}(h:CS P ty Wg C n Sb Res End AnchW tag j Giv o f d a w):(a.status= .running/\tag≠.blk)\/(a.status= .blocked/\tag= .blk):=by
 cases h with
 |skd _ h=>exact .inl ⟨h.running RMo.refl (λ_ _ _ x=>x.1),by simp⟩
 |sa1 _ h=>exact .inl ⟨h.running RMo.refl (λ_ _ _ x=>x.1),by simp⟩
 |ske _ h=>exact .inl ⟨h.running RMo.refl (λ_ _ _ x=>x.1),by simp⟩
 |sgo _ h=>exact .inl ⟨h.running RMo.refl (λ_ _ _ x=>x.1),by simp⟩
 |kd h=>exact .inl ⟨h.running RMo.refl (λ_ _ _ x=>x.1),by simp⟩
 |anch h=>exact .inl ⟨h.running RMo.refl Dw,by simp⟩
 |w1 h=>exact .inl ⟨h.running RMo.refl (λ_ _ _ x=>x.1),by simp⟩
 |w2 h=>exact .inl ⟨h.running RMo.refl (λ_ _ _ x=>x.1),by simp⟩
 |w3 h=>exact .inl ⟨h.running RMo.refl (λ_ _ _ x=>x.1),by simp⟩
 |blk h=>exact .inr ⟨rfl,rfl⟩
 |w4 h=>exact .inl ⟨h.running RMo.refl (λ_ _ _ x=>x.1),by simp⟩
 |ke h=>exact .inl ⟨h.running RMo.refl (λ_ _ _ x=>x.1),by simp⟩
 |acq h=>exact .inl ⟨h.running RMo.refl (λ_ _ _ x=>x.1),by simp⟩
 |ret h=>exact .inl ⟨h.running RMo.refl Br,by simp⟩
theorem CS.wokenBy(Dw:∀o g w,AnchW o g w->g.status= .running)(Br:∀o g w,End o g w->g.status= .running){tag:CTag}{j d:Nat}{f:Tr×Nat}{a:Goroutine}(h:CS P ty Wg C n Sb Res End AnchW tag j Giv o f d a w)(hr:RMo ty Wg C n o w w₁)(g g':Goroutine):
 ∃tag' f',CS P ty Wg C n Sb Res End AnchW tag' j Giv o f' d (woken P g g' w₁ a) w₁/\(tag'=tag\/(tag= .blk/\tag'= .w3))/\(mayWake P g=true->g'.status= .running->tag'≠.blk):=by
 have h':=h.rely hr;unfold Go.Conc.woken;split
 ·rcases h'.status Dw Br with⟨hs,A9⟩|⟨_,rfl⟩
  ·exact⟨tag,f,by rw[again_running _ (.inl hs)];exact h',.inl rfl,λ_ _=>A9⟩
  ·cases h' with
   |blk hb=>
    have h3:=hb w₁ (.refl _ w₁);exact⟨.w3,(.leaf,1),by rw[Go.ConcR.again_blocked h3.1 h3.2.1];exact .w3 (GoT.stop _ hb),.inr ⟨rfl,rfl⟩,λ_ _=>by simp⟩
 ·rename_i hc;exact⟨tag,f,h',.inl rfl,λh1 h2=>absurd (by simp[h1,h2]) hc⟩
end
end
section
open Go.ConcN (ShN WgLive PayAt Has)
open Go.ConcR (Payload stA)
variable [Ban]
section
variable {P:Program}{fs:Array Func}{Gs:Nat->Bool}
theorem Zb9{fr:Frame}{cs:List Frame}{V:World}(h:Pan P fs Gs fr cs V):
 (∃o V1 es,stepG (Z6 P fs) true (G fr cs) V= .ended o V1 es)\/(∃fr1 cs1 V1 es,stepG (Z6 P fs) true (G fr cs) V= .go (G fr1 cs1) V1 es/\Pan P fs Gs fr1 cs1 V1)\/
 ∃c,stepG (Z6 P fs) true (G fr cs) V= .go (G (trap.raise c) []) V:=by
 obtain⟨c,hm⟩:=h.mode;have e1:stepG (Z6 P fs) true (G fr cs) V=unwind (Z6 P fs) true fr cs none V:=by simp only[G,stepG,hm]
 have hd:=h.defers;cases Eo:fr.defers with
 |nil=>
  obtain⟨fn,code,t1,t2,t3,t4⟩:=h.tm;have Is:fr.catches (Z6 P fs)=false:=by unfold Frame.catches;rw[t2]
  cases hc:h.cso with
  |nil=>
   right;right
   refine⟨c,?_⟩;rw[e1];simp only[unwind,Eo,hm,Is,YR,XZ];rfl
  |cons hf hb Ag=>
   rename_i f cs0;right;left;have e2:stepG (Z6 P fs) true (G fr (f::cs0)) V= .go (G (f.raise c) cs0) V:=by
    rw[e1];simp only[unwind,Eo,hm,Is,YR,XZ];rfl
   exact⟨_,_,_,_,e2,h.sim,h.loops,by rw[Z38];exact hf.tm,by rw[Z0x];exact hf.defers,Ag,Z0W _ _⟩
 |cons d ds=>
  rw[Eo] at hd;obtain⟨r,ds',rfl,hr,e,R0⟩:=Z9j hd;simp only[id,SH,true_and] at e;subst e;have bad:∀hh V1 es,(Instr.takeDeferred r).runT (Z6 P fs) V #[]=(.halt hh V1,es)->∃o V1 es,stepG (Z6 P fs) true (G fr cs) V= .ended o V1 es:=by
   intro hh V1 es hx;refine⟨.stuck "the deferred calls of a range-over-func loop have been taken" (fr.pos (Z6 P fs)),V1,seen (Z6 P fs) fr.fn es++ #[],?_⟩;rw[e1];simp only[unwind,Eo,hx];rfl
  rcases ZcO (P:=Z6 P fs) (Z1f (fs:=fs) (P:=Z6 P fs) (Gs:=Gs) (ρ:=id) hr) h.sim h.loops with⟨hh,V1,es,hx,_⟩|⟨V1,w1,new,es,Bi,hΛ1,hF,⟨v,v',L1,hx,hy,C8,hv⟩|⟨v,v',hx,_⟩⟩
  ·exact .inl (bad _ _ _ hx)
  ·right;left
   have hx:(Instr.takeDeferred r).runT (Z6 P fs) V #[]=(.ok v V1,es):=hx;have Bm:=hy.2 V.tape (λ_ _ _=>rfl);have Bm:(Instr.takeDeferred r).runT (Z6 P fs) V #[]=(.ok v' (retape V.tape w1),new):=Bm;rw[hx] at Bm;injection Bm with q1 q2;injection q1 with q3 q4;subst q3;have e4:Nk.retape V.tape w1=w1:=by unfold Nk.retape;rw[<-hy.1.2]
   rw[e4] at q4;subst q4;have e2:stepG (Z6 P fs) true (G fr cs) V= .go (G {fr with defers:=v++ds} cs) V1 (seen (Z6 P fs) fr.fn es++ #[]):=by
    rw[e1];simp only[unwind,Eo,hx];rfl
   exact⟨{fr with defers:=v++ds},cs,V1,_,e2,Bi,hΛ1,h.tm,(hv.up C8).append (R0.up hF.live),h.cso.up hF.live,⟨c,hm⟩⟩
  ·exact .inl (bad _ _ _ hx)
theorem Z9m(P:Program)(V:World)(c:List PanicEntry):∃o es,stepG P true (G (trap.raise c) []) V= .ended o V es:=⟨_,_,rfl⟩
theorem Z49(P:Program)(V:World)(v:Value):∃o es,stepG P true (G (trap.finish v) []) V= .ended o V es:=⟨_,_,rfl⟩
theorem Z0T(hE:IsEnd E){fr:Frame}{cs:List Frame}{V:World}(h:Halts (Z6 P fs) E fr cs V):Pan P fs Gs fr cs V->False:=by
 induction h with
 |done t he=>
  intro hp;obtain⟨c,hc⟩:=hp.mode;have:=(hE.at_ _ _ _ he).2;rw[hc] at this;cases this
 | @step fr cs V nf nc nV ne hs hh ih=>
   intro hp;have h1:=hs V.tape;rw[Z04] at h1;rcases Zb9 hp with⟨o,V1,es,e⟩|⟨fr1,cs1,V1,es,e,Ep⟩|⟨c,e⟩
   ·rw[e] at h1;cases h1
   ·rw[e] at h1;injection h1 with g1 g2 g3;obtain⟨e1,e2⟩:=Z16 g1;refine ih V.tape ?_;rw[<-e1,<-e2,<-g2];exact Ep
   ·rw[e] at h1;injection h1 with g1 g2 g3;obtain⟨e1,e2⟩:=Z16 g1;have h2:=hh V.tape;rw[<-e1,<-e2,<-g2] at h2;cases h2 with
    |done t he=>have:=(hE.at_ _ _ _ he).1;cases this
    |step nf nc nV ne Cn _=>
     obtain⟨o,es,e3⟩:=Z9m (Z6 P fs) V c;have h4:=Cn V.tape;rw[Z04] at h4;rw[e3] at h4;cases h4
theorem Z5v(hE:IsEnd E){fr:Frame}{V:World}(hf:FrR (Z6 P fs) fs Gs id (Live V) fr fr)(hm:fr.mode= .returning)(hd:fr.defers=[])(h:Halts (Z6 P fs) E fr [trap] V):∃t,E fr [trap] (retape t V):=by
 cases h with
 |done t he=>exact⟨t,he⟩
 |step nf nc nV ne hs hh=>
  exfalso;obtain⟨fn,code,t1,t2,t3,t4⟩:=hf.tm;have h1:=hs V.tape;rw[Z04] at h1;have e1:stepG (Z6 P fs) true (G fr [trap]) V=unwind (Z6 P fs) true fr [trap] none V:=by simp only[G,stepG,hm]
  cases hx:(results fn fr.tmps).runT (Z6 P fs) V #[] with
  |mk r es=>
   cases r with
   |halt hhh V1=>
    have e2:∃o es',stepG (Z6 P fs) true (G fr [trap]) V= .ended o V1 es':=by
     rw[e1];simp only[unwind,hd,hm,t2,hx];cases hhh<;>exact⟨_,_,rfl⟩
    obtain⟨o,es',e2⟩:=e2;rw[e2] at h1;cases h1
   |ok v V1=>
    have e2:stepG (Z6 P fs) true (G fr [trap]) V= .go (G (trap.finish v) []) V1 (seen (Z6 P fs) fr.fn es++ #[]):=by
     rw[e1];simp only[unwind,hd,hm,t2,hx,doReturn,hf.kind.1];rfl
    rw[e2] at h1;injection h1 with g1 g2 g3;obtain⟨q1,q2⟩:=Z16 g1;have h2:=hh V.tape;rw[<-q1,<-q2,<-g2] at h2;cases h2 with
    |done t he=>have:=(hE.at_ _ _ _ he).1;cases this
    |step nf nc nV ne Cn _=>
     obtain⟨o,es,e3⟩:=Z49 (Z6 P fs) V1 v;have h4:=Cn V1.tape;rw[Z04] at h4;rw[e3] at h4;cases h4
def reN(ρ:Nat->Nat)(V w:World)(b:Nat):Nat:=if b<V.heap.size then ρ b else w.heap.size+(b - V.heap.size)
def reT(V w:World):Nat->Question->Nat:=λi=>w.tape (w.drawn+(i - V.drawn))
theorem Z29{V:World}(h:b<V.heap.size):reN ρ V w b=ρ b:=YZ h
theorem Z9n{V:World}(h:Emb ρ Gg Fz V w):Sim (reN ρ V w) Gg Fz (retape (reT V w) V) w:=by
 have hm:∀b,Live V b->Live V b/\reN ρ V w b=ρ b:=λb hb=>⟨hb,Z29 hb.lt⟩
 refine{obj:=λb o hb hl=> ?_,inj:=λb b' hb hb' he=> ?_,fz:=h.fz,low:=λb hb=> ?_,gV:=h.gV,gw:=h.gw,tape:=λi=> ?_,next:=λj=> ?_}
 ·have By:Live V b:=⟨o,hb,hl⟩;obtain⟨o',hw,h1,h2⟩:=h.obj b o hb hl;refine⟨o',by rw[Z29 By.lt];exact hw,λhf=>(h1 hf).mono hm,λhf=>⟨(h2 hf).1.mono hm,(h2 hf).2⟩⟩
 ·have hb:Live V b:=hb;have hb':Live V b':=hb';rw[Z29 hb.lt,Z29 hb'.lt] at he;exact h.inj b b' hb hb' he
 ·have hb:Live V b:=hb;rw[Z29 hb.lt];exact h.low b hb
 ·show reN ρ V w (V.heap.size+j)=_;unfold reN;rw[XA (by omega)];omega
 ·show w.tape (w.drawn+(V.drawn+i - V.drawn))=_;rw[Nat.add_sub_cancel_left]
theorem Zba{V:World}(h:Emb ρ Gg Fz V w)(hs:w.heap.size<=w₁.heap.size)(hk:∀b,Live V b->w₁.heap[ρ b]? =w.heap[ρ b]?):Emb ρ Gg Fz V w₁:=
 ⟨λb o hb hl=>let ⟨o',hw,x⟩:=h.obj b o hb hl;⟨o',(hk b ⟨o,hb,hl⟩).trans hw,x⟩,h.inj,h.fz,h.low,h.gV,XD h.gw hs⟩
end
section
variable [Payload]
variable {P:Program}{fs:Array Func}{Gs:Nat->Bool}
structure AtSim(P:Program)(fs:Array Func)(Gs:Nat->Bool)(E:Frame->List Frame->World->Prop)(Fz:Nat->Prop)(Sb:Nat->Prop)(Rd:Nat->Prop)(κ:Nat->Option Nat)(bot':List Frame)(o:Nat->Prop)(ρ:Nat->Nat)(V:World)(fr fr':Frame)(w:World):Prop where
 fin:∃t,E fr [trap] (retape t V)
 fro:FrR P fs Gs ρ (Live V) fr fr'
 emb:Emb ρ P.globals.size Fz V w
 loops:LoopsOk (ZE P fs Gs) V
 mode:fr.mode= .returning/\fr.defers=[]
 own:∀b,Live V b->¬Fz b->o (ρ b)
 rd:∀b,Live V b->Fz b->Rd (ρ b)/\¬Sb (ρ b)
 known:∀b c,κ b=some c->Live V b/\ρ b=c
theorem ZcQ(ty:TypeId){Wg C n k:Nat}{Sb Rd:Nat->Prop}(hs:Solo P fs Gs)(Gl:Z3T P fs)(Ez:∀f,Ent P fs f->Tm P fs Gs f)(hE:IsEnd E){Fz:Nat->Prop}{κ:Nat->Option Nat}{bot':List Frame}{fr:Frame}{cs:List Frame}{V:World}(h:Halts (Z6 P fs) E fr cs V):
 ∀{ρ:Nat->Nat}{fr':Frame}{cs':List Frame}{w:World}{o:Nat->Prop},Self P fs Gs fr cs V->FrR P fs Gs ρ (Live V) fr fr'->CsR P fs Gs ρ (Live V) [trap] bot' cs cs'->(cs=[trap]->fr.roundOf=none)->Emb ρ P.globals.size Fz V w->LoopsOk (ZE P fs Gs) V->
  (∀g,Gs g=true->Live V g/\ρ g=g)->(∀b c,κ b=some c->Live V b/\ρ b=c)->(∀b,Live V b->¬Fz b->o (ρ b))->(∀b,Live V b->Fz b->Rd (ρ b)/\¬Sb (ρ b))->C<w.heap.size->¬o C->
  ∃r,GoT P false (RWo ty Wg C n k Rd) (DWo Wg C n Sb k Rd) (λo g w=>∃ρ V fr fr',g=G fr' bot'/\AtSim P fs Gs E Fz Sb Rd κ bot' o ρ V fr fr' w) r o (G fr' cs') w:=by
 have keep:∀{ρ:Nat->Nat}{V w w₁:World}{o:Nat->Prop},Emb ρ P.globals.size Fz V w->(∀b,Live V b->¬Fz b->o (ρ b))->(∀b,Live V b->Fz b->Rd (ρ b)/\¬Sb (ρ b))->RWo ty Wg C n k Rd o w w₁->Emb ρ P.globals.size Fz V w₁:=by
  intro ρ V w w₁ o he ho hr hw;refine Zba he hw.size λb hb=> ?_
  by_cases hf:Fz b
  ·exact hw.rd _ (hr b hb hf).1
  ·exact hw.own _ (ho b hb hf)
 have atBot:∀{fr:Frame}{V:World},(∃t,E fr [trap] (retape t V))->fr.mode= .returning/\fr.defers=[]->∀{ρ:Nat->Nat}{fr':Frame}{w:World}{o:Nat->Prop},FrR P fs Gs ρ (Live V) fr fr'->Emb ρ P.globals.size Fz V w->LoopsOk (ZE P fs Gs) V->
  (∀b c,κ b=some c->Live V b/\ρ b=c)->(∀b,Live V b->¬Fz b->o (ρ b))->(∀b,Live V b->Fz b->Rd (ρ b)/\¬Sb (ρ b))->
  ∃r,GoT P false (RWo ty Wg C n k Rd) (DWo Wg C n Sb k Rd) (λo g w=>∃ρ V fr fr',g=G fr' bot'/\AtSim P fs Gs E Fz Sb Rd κ bot' o ρ V fr fr' w) r o (G fr' bot') w:=
  λht hm _ _ _ _ hf he hl hκ ho hr=>⟨.leaf,λw₁ hw=>⟨_,_,_,_,rfl,ht,hf,keep he ho hr hw,hl,hm,ho,hr,hκ⟩⟩
 induction h with
 | @done fr cs V t he=>
   intro ρ fr' cs' w o B0 hf hc hb Hy hΛ hG hκ ho hr _ _;obtain⟨rfl,hm⟩:=hE.at_ _ _ _ he;obtain rfl:=hc.bot_iff rfl;have hd:fr.defers=[]:=hE.defers _ _ _ he;exact atBot ⟨t,he⟩ ⟨hm,hd⟩ hf Hy hΛ hκ ho hr
 | @step fr cs V nf nc nV ne Ai hh ih=>
   intro ρ fr' cs' w o B0 hf hc hb Hy hΛ hG hκ ho hr hCs Pq;by_cases F3:cs=[trap]/\fr.mode= .returning/\fr.defers=[]
   ·obtain⟨rfl,hm,hd⟩:=F3;obtain rfl:=hc.bot_iff rfl;exact atBot (Z5v hE B0.fro hm hd (.step nf nc nV ne Ai hh)) ⟨hm,hd⟩ hf Hy hΛ hκ ho hr
   ·refine GoT.step rfl λw₁ hw=> ?_
    have Ma:=keep Hy ho hr hw;have Np:=Z9n Ma;have hm:∀b,Live V b->Live V b/\reN ρ V w₁ b=ρ b:=λb hb=>⟨hb,Z29 hb.lt⟩
    have Ad:=Ai (reT V w₁);rcases Z1i hs (V:=retape (reT V w₁) V) (λg hg=>(hG g hg).1) (B0.retape _) with Bp|⟨fr1,cs1,V1,es,e,Cr,Gv,hwV,_⟩|C2
    ·exfalso;rcases Bp with⟨o,V1,es,e⟩|⟨fr1,V1,es,e,hp⟩
     ·rw[e] at Ad;cases Ad
     ·rw[e] at Ad;injection Ad with g1 g2 g3;obtain⟨q1,q2⟩:=Z16 g1;have h2:=hh (reT V w₁);rw[<-q1,<-q2,<-g2] at h2;exact Z0T hE h2 hp
    ·rw[e] at Ad;injection Ad with g1 g2 g3;obtain⟨q1,q2⟩:=Z16 g1;have lock:=Z3u (V:=retape (reT V w₁) V) (w:=w₁) (bot:=[trap]) (bot':=bot') Gl (λg hg=>⟨(hG g hg).1,(hm g (hG g hg).1).2.trans (hG g hg).2⟩) (mn:=true) (mn':=false) Np hΛ (hf.mono hm) (hc.mono hm) hb;rcases lock with(⟨ou,V2,es2,e2,_⟩|⟨fr2,V2,es1,fr2',w1,es2,e2,_,A7,_⟩)|⟨fr2,cs2,V2,es1,fr2',cs2',w1,es2,e2,⟨Wu,e3⟩,ht,E3,As,Ey,hΛ2,hF⟩|C2
     ·rw[e] at e2;cases e2
     ·rw[e] at e2;injection e2 with g1' g2' g3';obtain⟨rfl,_⟩:=Z16 g1';obtain⟨c,hc⟩:=A7;rcases Cr.fro.mode.2 with hm|hm<;>(rw[hc] at hm;cases hm)
     ·rw[e] at e2;injection e2 with g1' g2' g3';obtain⟨rfl,rfl⟩:=Z16 g1';subst g2';have e3:=e3 w₁.tape (λ_ _ _=>rfl);have e4:retape w₁.tape w1=w1:=(by unfold retape;rw[<-Wu.2]);simp only[Z04] at e3;rw[e4] at e3;have R1:C<w₁.heap.size:=YS hCs hw.size;have fzlt:∀b,Fz b->b<V.heap.size:=Ma.fz;have B6:∀b,Live V b->reN ρ V w₁ b=ρ b:=λb hb=>(hm b hb).2
      have Co:∀b,Live V1 b->¬Fz b->grow o w₁ w1 (reN ρ V w₁ b):=by
       intro b hb Ch;rcases hF.newly b hb with h0|h0
       ·have h0:Live V b:=h0;rw[B6 b h0];exact .inl (ho b h0 Ch)
       ·have h0:V.heap.size<=b:=h0;refine .inr ⟨?_,Ey.lt hb⟩;unfold reN;rw[XA (by omega)];omega
      have R2:∀b,Live V1 b->Fz b->Rd (reN ρ V w₁ b)/\¬Sb (reN ρ V w₁ b):=by
       intro b hb Kd;have A3:=fzlt b Kd;rcases hF.newly b hb with h0|h0
       ·have h0:Live V b:=h0;rw[B6 b h0];exact hr b h0 Kd
       ·have h0:V.heap.size<=b:=h0;omega
      have hD:DWo Wg C n Sb k Rd o w₁ w1 es2:=by
       have stayC:w1.heap[C]? =w₁.heap[C]? :=hF.stay C R1 λb hb Ch e=>Pq (by have hb:Live V b:=hb;rw[B6 b hb] at e;rw[<-e];exact ho b hb Ch)
       refine⟨λb Dx Ef _=>hF.stay b Dx λb' hb' Ch e=>Ef (by have hb':Live V b':=hb';rw[B6 b' hb'] at e;rw[<-e];exact ho b' hb' Ch),fun⟨cc,Ew,E3⟩=>⟨cc,stayC.trans Ew,E3⟩,λi _=>by simp[World.cell?,stayC],hF.size,hF.tape,hF.os,hF.output,λev Bb=> ?_⟩;rcases hF.evs ev Bb with⟨ad,wr,rfl,hl,Wv⟩|⟨r,wr,rfl,hl,Ch⟩|rfl
       ·have A3:(Zl (reN ρ V w₁) ad).block<w1.heap.size:=Ey.lt hl;refine⟨⟨λx hx=> ?_,by simp[Z0r]⟩,A3⟩;simp only[ofEvent_cell0,MemAct.touch?,XJ] at hx;subst hx;by_cases Kd:Fz ad.block
        ·right;right;right
         obtain⟨h1,h2⟩:=R2 _ hl Kd;refine⟨.inl ⟨_,rfl,h1⟩,?_,?_⟩
         ·rintro⟨ad',e,Fy⟩;cases e;exact h2 Fy
         ·cases wr with
          |false=>rfl
          |true=>exact absurd Kd (Wv rfl)
        ·right;left
         exact .inl ⟨_,rfl,Co _ hl Kd⟩
       ·have A3:reN ρ V w₁ r<w1.heap.size:=Ey.lt hl;have eo:MemAct.ofEvent ⟨.obj (reN ρ V w₁ r),wr,false⟩= .access ⟨.obj (reN ρ V w₁ r),wr,false⟩:=(by cases wr<;>rfl);refine⟨⟨λx hx=> ?_,by simp[Z0r]⟩,by rw[eo];exact A3⟩;rw[eo] at hx;simp only[MemAct.touch?,XJ] at hx;subst hx;right;left;exact .inr ⟨_,rfl,Co _ hl Ch⟩
       ·exact⟨⟨λx hx=>(by simp[MemAct.ofEvent,MemAct.touch?] at hx),by simp[Z0r]⟩,trivial⟩
      have Al:¬grow o w₁ w1 C:=by
       rintro(h1|⟨h1,_⟩)
       ·exact Pq h1
       ·omega
      have e5:nf (reT V w₁)=fr1:=q1.symm;have e6:nc (reT V w₁)=cs1:=q2.symm;have e7:nV (reT V w₁)=V1:=g2.symm;have:=ih (reT V w₁) (ρ:=reN ρ V w₁) (fr':=fr2') (cs':=cs2') (w:=w1) (o:=grow o w₁ w1);rw[e5,e6,e7] at this;obtain⟨r,hr'⟩:=this Cr (Z9i ht.1 Ez) E3 As Ey.toEmb hΛ2 (λg hg=>⟨hF.live g (hG g hg).1,(B6 g (hG g hg).1).trans (hG g hg).2⟩) (λb c Pm=>⟨hF.live b (hκ b c Pm).1,(B6 b (hκ b c Pm).1).trans (hκ b c Pm).2⟩) Co R2 (YS R1 hF.size) Al;exact⟨_,_,_,r,e3,hD,hr'⟩
     ·exact absurd ⟨C2.1,C2.2.2.1,C2.2.2.2⟩ F3
    ·exact absurd C2 F3
end
end
section
open Go.ConcN (sumTo upd sumTo_upd upd_ne upd_same)
variable [Ban]
section
variable (P:Program)(fs:Array Func)(Gs:Nat->Bool)
structure RelM(bot':List Frame)(w0:World)(ρ:Nat->Nat)(Sb:Nat->Prop)(fr:Frame)(cs:List Frame)(V:World)(fr':Frame)(cs':List Frame)(w:World):Prop where
 self:Self P fs Gs fr cs V
 top:Top P fs Gs ρ (Live V) fr fr'
 cso:CsR P fs Gs ρ (Live V) [trap] bot' cs cs'
 oth:cs=[trap]->FrR P fs Gs ρ (Live V) fr fr'
 hb:cs=[trap]->fr.roundOf=none
 emb:Emb ρ P.globals.size (λb=>Gs b=true) V w
 loops:LoopsOk (ZE P fs Gs) V
 glob:∀g,Gs g=true->Live V g/\ρ g=g
 shun:∀b,Live V b->¬Sb (ρ b)
 sbl:∀b,Sb b->b<w.heap.size
 old:∀b,b<w0.heap.size->w.heap[b]? =w0.heap[b]?
 far:∀b,Live V b->Gs b=false->w0.heap.size<=ρ b
 grown:w0.heap.size<=w.heap.size
 tape:w.tape=w0.tape
 os:w.os=w0.os
 output:w.output=w0.output
structure MacM(Sb:Nat->Prop)(fr':Frame)(cs':List Frame)(gs:Array Goroutine)(w:World)(t:Trace)(q:Nat->Nat):Prop where
 main:gs[0]? =some (G fr' cs')
 leave:Leavers P t gs q
 past:Past (Zu Sb) w.heap.size t
 who:∀op∈t,op.g<gs.size
end
inductive Path(P:Program):Frame->List Frame->World->Frame->List Frame->World->Prop
 |refl {fr cs V}:Path P fr cs V fr cs V
 |step {fr cs V fr1 cs1 V1 es fr2 cs2 V2} (t):¬(cs=[trap]/\fr.mode= .returning/\fr.defers=[])->stepG P true (G fr cs) (retape t V)= .go (G fr1 cs1) V1 es->Path P fr1 cs1 V1 fr2 cs2 V2->Path P fr cs V fr2 cs2 V2
section
variable {P:Program}{fs:Array Func}{Gs:Nat->Bool}
theorem Zbb{Sb:Nat->Prop}{V:World}{e:Event}(h:EvOk ρ Fz V e)(hs:∀b,Live V b->¬Sb (ρ b))(A3:∀b,Live V b->ρ b<w.heap.size):EvL (Zu Sb) w.heap.size e:=by
 rcases h with⟨a,wr,rfl,hl,_⟩|⟨r,wr,rfl,hl,_⟩|rfl
 ·refine evL_cell _ _ ?_ (A3 _ hl);rintro⟨x,hx,Aw⟩;cases hx;exact hs _ hl Aw
 ·refine⟨λx hx Bz=> ?_,by simp,by simp,?_⟩
  rotate_left
  ·cases wr<;>exact A3 _ hl
  simp only[MemAct.ofEvent,MemAct.touch?,XJ] at hx;subst hx;obtain⟨z,hz,_⟩:=Bz;cases hz
 ·exact⟨λx hx=>by simp[MemAct.ofEvent,MemAct.touch?] at hx,by simp,by simp,by simp[MemAct.ofEvent,MemAct.low]⟩
theorem Zbc(hs:Solo P fs Gs)(Gl:Z3T P fs)(hE:IsEnd E){ρ:Nat->Nat}{Sb:Nat->Prop}{fr:Frame}{cs:List Frame}{V:World}{fr':Frame}{cs':List Frame}{w:World}
 {nf:(Nat->Question->Nat)->Frame}{nc:(Nat->Question->Nat)->List Frame}{nV:(Nat->Question->Nat)->World}{ne:(Nat->Question->Nat)->Array Event}
 (Ai:∀t,stepG (Z6 P fs) true (G fr cs) (retape t V)= .go (G (nf t) (nc t)) (nV t) (ne t))(hh:∀t,Halts (Z6 P fs) E (nf t) (nc t) (nV t))
 (h:RelM P fs Gs bot' w0 ρ Sb fr cs V fr' cs' w)(hf:FrR P fs Gs ρ (Live V) fr fr')(hnb:¬(cs=[trap]/\fr.mode= .returning/\fr.defers=[])):
 ∃tp fr1' cs1' w1 es,stepG P true (G fr' cs') w= .go (G fr1' cs1') w1 es/\w.heap.size<=w1.heap.size/\(∀e∈es,EvL (Zu Sb) w1.heap.size e)/\
  RelM P fs Gs bot' w0 (reN ρ V w) Sb (nf tp) (nc tp) (nV tp) fr1' cs1' w1:=by
 have Np:=Z9n h.emb;have hm:∀b,Live V b->Live V b/\reN ρ V w b=ρ b:=λb hb=>⟨hb,Z29 hb.lt⟩
 have B6:∀b,Live V b->reN ρ V w b=ρ b:=λb hb=>(hm b hb).2
 have Ad:=Ai (reT V w);rcases Z1i hs (V:=retape (reT V w) V) (λg hg=>(h.glob g hg).1) (h.self.retape _) with Bp|⟨fr1,cs1,V1,es,e,Cr,Gv,hwV,_⟩|C2
 ·exfalso;rcases Bp with⟨o,V1,es,e⟩|⟨fr1,V1,es,e,hp⟩
  ·rw[e] at Ad;cases Ad
  ·rw[e] at Ad;injection Ad with g1 g2 g3;obtain⟨q1,q2⟩:=Z16 g1;have h2:=hh (reT V w);rw[<-q1,<-q2,<-g2] at h2;exact Z0T hE h2 hp
 ·rw[e] at Ad;injection Ad with g1 g2 g3;obtain⟨q1,q2⟩:=Z16 g1;have lock:=Z3u (V:=retape (reT V w) V) (w:=w) (bot:=[trap]) (bot':=bot') Gl (λg hg=>⟨(h.glob g hg).1,(hm g (h.glob g hg).1).2.trans (h.glob g hg).2⟩) (mn:=true) (mn':=true) Np h.loops (hf.mono hm) (h.cso.mono hm) h.hb;rcases lock with(⟨ou,V2,es2,e2,_⟩|⟨fr2,V2,es1,fr2',w1,es2,e2,_,A7,_⟩)|⟨fr2,cs2,V2,es1,fr2',cs2',w1,es2,e2,⟨Wu,e3⟩,ht,E3,As,Ey,hΛ2,hF⟩|C2
  ·rw[e] at e2;cases e2
  ·rw[e] at e2;injection e2 with g1' g2' g3';obtain⟨rfl,_⟩:=Z16 g1';obtain⟨c,hc⟩:=A7;rcases Cr.fro.mode.2 with hm|hm<;>(rw[hc] at hm;cases hm)
  ·rw[e] at e2;injection e2 with g1' g2' g3';obtain⟨rfl,rfl⟩:=Z16 g1';subst g2';have e3:=e3 w.tape (λ_ _ _=>rfl);have e4:retape w.tape w1=w1:=by unfold retape;rw[<-Wu.2]
   simp only[Z04] at e3;rw[e4] at e3;have Mb:∀b,Live V1 b->¬Sb (reN ρ V w b):=by
    intro b hb;rcases hF.newly b hb with h0|h0
    ·have h0:Live V b:=h0;rw[B6 b h0];exact h.shun b h0
    ·have h0:V.heap.size<=b:=h0;intro Fy;have:=h.sbl _ Fy;unfold reN at this;rw[XA (by omega)] at this;omega
   have hR:RelM P fs Gs bot' w0 (reN ρ V w) Sb (nf (reT V w)) (nc (reT V w)) (nV (reT V w)) fr2' cs2' w1:=by
    rw[<-q1,<-q2,<-g2];refine⟨Cr,ht.1,E3,ht.2,As,Ey.toEmb,hΛ2,λg hg=>⟨Gv g (h.glob g hg).1,(B6 g (h.glob g hg).1).trans (h.glob g hg).2⟩,Mb,λb hb=>YS (h.sbl b hb) hF.size,λb hb=> ?_,λb hb hg=> ?_,XD h.grown hF.size,hF.tape.trans h.tape,hF.os.trans h.os,hF.output.trans h.output⟩
    ·refine(hF.stay b (YS hb h.grown) λb' hb' Ch e=> ?_).trans (h.old b hb);have hb':Live V b':=hb';have hg:Gs b'=false:=(by cases hx:Gs b' with|false=>rfl|true=>exact absurd hx Ch);have:=h.far b' hb' hg;rw[B6 b' hb'] at e;omega
    ·rcases hF.newly b hb with h0|h0
     ·have h0:Live V b:=h0;rw[B6 b h0];exact h.far b h0 hg
     ·have h0:V.heap.size<=b:=h0;have:=h.grown;unfold reN;rw[XA (by omega)];omega
   exact⟨reT V w,fr2',cs2',w1,es2,e3,hF.size,λev Bb=>Zbb (hF.evs ev Bb) Mb (λb hb=>Ey.lt hb),hR⟩
  ·exact absurd ⟨C2.1,C2.2.2⟩ hnb
 ·exact absurd C2 hnb
theorem RelM.at{ρ:Nat->Nat}{Sb:Nat->Prop}{fr:Frame}{cs:List Frame}{V:World}{fr':Frame}{cs':List Frame}{w:World}(h:RelM P fs Gs bot' w0 ρ Sb fr cs V fr' cs' w)(d:Nat):RelM P fs Gs bot' w0 ρ Sb fr cs V fr' cs' (w.at d):=
 ⟨h.self,h.top,h.cso,h.oth,h.hb,⟨h.emb.obj,h.emb.inj,h.emb.fz,h.emb.low,h.emb.gV,h.emb.gw⟩,h.loops,h.glob,h.shun,h.sbl,h.old,h.far,h.grown,h.tape,h.os,h.output⟩
theorem Z4G{Sb:Nat->Prop}{sl:Option (Nat×Nat)}{t:Trace}(h:MacM P Sb fr' cs' gs w t q):
 (∃d sl',stepT P (crowd gs w sl)=runT P (crowd gs (w.at d) sl') 0)\/
 ∃gs' d sl' ops q',stepT P (crowd gs w sl)=(.next (crowd gs' (w.at d) sl'),ops)/\MacM P Sb fr' cs' gs' (w.at d) (t++ops) q'/\sumTo gs'.size q'<sumTo gs.size q/\∀op∈ops,∃e,Event.mute e=true/\op.act=MemAct.ofEvent e:=by
 have h0:=h.main;have hL:=h.leave;have Aj:(G fr' cs').status= .running:=rfl;have haw:∀g∈gs,awake g:=by
  intro g hg;obtain⟨i,hi,rfl⟩:=Array.mem_iff_getElem.1 hg;rcases TO i with rfl|D1
  ·have:gs[0]=G fr' cs':=by simpa[YN hi] using h0
   rw[this];exact awake_of (.inl Aj)
  ·exact awake_of ((hL.old i _ D1 (YN hi)).status.elim .inl λx=> .inr (.inr x))
 obtain⟨i,g,d,sl',hi,hg,Ai⟩:=crowd_pick (P:=P) (w:=w) (sl:=sl) haw ⟨0,_,h0,Aj⟩;rcases TO i with rfl|D1
 ·exact .inl ⟨d,sl',Ai⟩
 ·right
  have hq:=hL.old i g D1 hi;have Cj:(i==0)=false:=by simp;omega
  have A3:i<gs.size:=(YF.1 hi).1;cases Gw:q i with
  |zero=>rw[Gw] at hq;rw[hq.1] at hg;cases hg
  |succ k=>
   rw[Gw] at hq;rcases hq with⟨hf,_⟩|⟨_,g',es,hm,Nq,hq'⟩
   ·rw[hf] at hg;cases hg
   have It:=RH (P:=P) (sl:=sl') (i:=i) hi (by rw[Cj];exact Nq (w.at d));have B1:((gs.map (woken P g g' (w.at d))).setIfInBounds i g').size=gs.size:=by simp
   have hsum:sumTo gs.size (upd q i k)+(k+1)=sumTo gs.size q+k:=by
    have:=sumTo_upd q k id A3;simpa[Gw] using this
   refine⟨_,d,sl',_,upd q i k,Ai.trans It,⟨?_,⟨λj x hj hx=> ?_,λj hj=> ?_⟩,h.past.mute (by omega) hm,λop A2=> ?_⟩,by rw[B1];omega,λop A2=>by obtain⟨e,he,rfl⟩:=XN A2;exact⟨e,hm e he,rfl⟩⟩
   ·have A9:i≠0:=(by omega);rw[YO A9,Array.getElem?_map,h0];simp[woken_run Aj]
   ·by_cases Ay:i=j
    ·subst Ay;rw[YM (by simpa using A3)] at hx;obtain rfl:=YT hx;rw[VF,Deaf_own];exact hq'
    ·rw[YO Ay,Array.getElem?_map] at hx;obtain⟨y,hy,rfl⟩:=XT.1 hx;have hqj:=hL.old j y hj hy;rw[woken_quitsD hqj,upd_ne q k (SC Ay),SF t Ay _ (λop A2=>by obtain⟨e,_,rfl⟩:=XN A2;rfl)];exact hqj
   ·rw[SF t (g':=i) (by simp at hj;omega) _ (λop A2=>by obtain⟨e,_,rfl⟩:=XN A2;rfl)];exact hL.above j (by simpa using hj)
   ·rw[B1];rcases UL.1 A2 with A2|A2
    ·exact h.who op A2
    ·obtain⟨e,_,rfl⟩:=XN A2;exact A3
theorem Z4H{Sb:Nat->Prop}{sl:Option (Nat×Nat)}{t:Trace}{es:Array Event}(h:MacM P Sb fr' cs' gs w t q)
 (Al:stepG P true (G fr' cs') w= .go (G fr1' cs1') w1 es)(B1:w.heap.size<=w1.heap.size)(G1:∀e∈es,EvL (Zu Sb) w1.heap.size e):
 ∃gs' ops,runT P (crowd gs w sl) 0=(.next (crowd gs' w1 sl),ops)/\MacM P Sb fr1' cs1' gs' w1 (t++ops) q/\gs'.size=gs.size/\∀op∈ops,∃e∈es,op.act=MemAct.ofEvent e:=by
 have It:=RH (P:=P) (sl:=sl) (i:=0) h.main (show stepG P (0==0) (G fr' cs') w=_ from Al);have A3:0<gs.size:=(YF.1 h.main).1;refine⟨_,_,It,⟨by simp[A3],⟨λj x hj hx=> ?_,λj hj=> ?_⟩,(h.past.mono B1).own G1,λop A2=> ?_⟩,by simp,λop A2=>by obtain⟨e,he,rfl⟩:=XN A2;exact⟨e,he,rfl⟩⟩
 ·have A9:0≠j:=by omega
  rw[YO A9,Array.getElem?_map] at hx;obtain⟨y,hy,rfl⟩:=XT.1 hx;have hq:=h.leave.old j y hj hy;rw[woken_quitsD hq,SF t (by omega) _ (λop A2=>by obtain⟨e,_,rfl⟩:=XN A2;rfl)];exact hq
 ·rw[SF t (g':=0) (by simp at hj;omega) _ (λop A2=>by obtain⟨e,_,rfl⟩:=XN A2;rfl)];exact h.leave.above j (by simpa using hj)
 ·simp only[QJ,Array.size_map];rcases UL.1 A2 with A2|A2
  ·exact h.who op A2
  ·obtain⟨e,_,rfl⟩:=XN A2;exact A3
def Zcl(P:Program)(fs:Array Func)(Gs:Nat->Bool)(E:Frame->List Frame->World->Prop)(bot':List Frame)(w0:World)(m:Machine)(t:Trace):Prop:=
 ∃ρ Sb fr V fr' gs w sl q,m=crowd gs w sl/\RelM P fs Gs bot' w0 ρ Sb fr [trap] V fr' bot' w/\FrR P fs Gs ρ (Live V) fr fr'/\MacM P Sb fr' bot' gs w t q/\(∃t,E fr [trap] (retape t V))/\fr.mode= .returning/\fr.defers=[]
def Zbd(P:Program)(fs:Array Func)(Gs:Nat->Bool)(E:Frame->List Frame->World->Prop)(bot':List Frame)(w0:World):Prop:=
 ∀(f:FuncId)(a a':Array Value)(cs cs':List Frame)(V:World)(ρ:Nat->Nat)(Sb:Nat->Prop)(gs:Array Goroutine)(w:World)(sl:Option (Nat×Nat))(t:Trace)(q:Nat->Nat),
  ¬Tm P fs Gs f->Ent P fs f->(Ban.ban f=true->a.size=Ban.arity f)->AR ρ (Live V) a a'->cs≠[trap]->Halts (Z6 P fs) E (Frame.enter (Z6 P fs) f a .normal) cs V->
  RelM P fs Gs bot' w0 ρ Sb (Frame.enter (Z6 P fs) f a .normal) cs V (Frame.enter P f a' .normal) cs' w->MacM P Sb (Frame.enter P f a' .normal) cs' gs w t q->
  ∃N m' t' ρ1 Sb1 fr1 cs1 V1 fr1' cs1' gs1 w1 sl1 q1,runNT P N (crowd gs w sl) t=(.next m',t')/\m'=crowd gs1 w1 sl1/\Path (Z6 P fs) (Frame.enter (Z6 P fs) f a .normal) cs V fr1 cs1 V1/\cs1≠cs/\
   RelM P fs Gs bot' w0 ρ1 Sb1 fr1 cs1 V1 fr1' cs1' w1/\MacM P Sb1 fr1' cs1' gs1 w1 t' q1
theorem Z0F{P:Program}{t:Trace}{r:Stepped×Trace}(h:stepT P m=(.next m',ops)){N:Nat}(hr:runNT P N m' (t++ops)=r):runNT P (N+1) m t=r:=by
 simp only[runNT,h];exact hr
theorem runNT_add{P:Program}:∀{N N':Nat}{m:Machine}{t:Trace}{r:Stepped×Trace},runNT P N m t=(.next m',t')->runNT P N' m' t'=r->∃N'',runNT P N'' m t=r:=by
 intro N
 induction N with
 |zero=>
  intro N' m t r h hr;simp only[runNT,SI,VV] at h;obtain⟨rfl,rfl⟩:=h;exact⟨N',hr⟩
 |succ N ih=>
  intro N' m t r h hr;cases e:stepT P m with
  |mk s ops=>
   cases s with
   |next m₁=>
    rw[Z0F e rfl] at h;obtain⟨N'',hx⟩:=ih h hr;exact⟨N''+1,Z0F e hx⟩
   |ended o w1=>
    simp only[runNT,e,SI,reduceCtorEq,false_and] at h
theorem MacM.at{Sb:Nat->Prop}{fr':Frame}{cs':List Frame}{gs:Array Goroutine}{w:World}{t:Trace}{q:Nat->Nat}(h:MacM P Sb fr' cs' gs w t q)(d:Nat):MacM P Sb fr' cs' gs (w.at d) t q:=⟨h.main,h.leave,h.past,h.who⟩
theorem Z9o(hs:Solo P fs Gs)(Gl:Z3T P fs)(hE:IsEnd E)(hP:Zbd P fs Gs E bot' w0){fr:Frame}{cs:List Frame}{V:World}
 {nf:(Nat->Question->Nat)->Frame}{nc:(Nat->Question->Nat)->List Frame}{nV:(Nat->Question->Nat)->World}{ne:(Nat->Question->Nat)->Array Event}
 (Ai:∀t,stepG (Z6 P fs) true (G fr cs) (retape t V)= .go (G (nf t) (nc t)) (nV t) (ne t))(hh:∀t,Halts (Z6 P fs) E (nf t) (nc t) (nV t))
 (ih:∀tp,∀{fr2:Frame}{cs2:List Frame}{V2:World},Path (Z6 P fs) (nf tp) (nc tp) (nV tp) fr2 cs2 V2->∀{ρ:Nat->Nat}{Sb:Nat->Prop}{fr':Frame}{cs':List Frame}{gs:Array Goroutine}{w:World}{sl:Option (Nat×Nat)}{t:Trace}{q:Nat->Nat},
   RelM P fs Gs bot' w0 ρ Sb fr2 cs2 V2 fr' cs' w->MacM P Sb fr' cs' gs w t q->∃N m' t',runNT P N (crowd gs w sl) t=(.next m',t')/\Zcl P fs Gs E bot' w0 m' t')
 (F3:¬(cs=[trap]/\fr.mode= .returning/\fr.defers=[])){ρ:Nat->Nat}{Sb:Nat->Prop}{fr':Frame}{cs':List Frame}{gs:Array Goroutine}{w:World}{sl:Option (Nat×Nat)}{t:Trace}{q:Nat->Nat}
 (hR:RelM P fs Gs bot' w0 ρ Sb fr cs V fr' cs' w)(hM:MacM P Sb fr' cs' gs w t q)
 (hl:∀gs' d sl' ops q',sumTo gs'.size q'<sumTo gs.size q->stepT P (crowd gs w sl)=(.next (crowd gs' (w.at d) sl'),ops)->RelM P fs Gs bot' w0 ρ Sb fr cs V fr' cs' (w.at d)->MacM P Sb fr' cs' gs' (w.at d) (t++ops) q'->
   ∃N m' t',runNT P N (crowd gs w sl) t=(.next m',t')/\Zcl P fs Gs E bot' w0 m' t'):
 ∃N m' t',runNT P N (crowd gs w sl) t=(.next m',t')/\Zcl P fs Gs E bot' w0 m' t':=by
 have key:∀hf:FrR P fs Gs ρ (Live V) fr fr',∃N m' t',runNT P N (crowd gs w sl) t=(.next m',t')/\Zcl P fs Gs E bot' w0 m' t':=by
  intro hf;rcases Z4G (sl:=sl) hM with⟨d,sl',Ad⟩|⟨gs',d,sl',ops,q',Ad,hM',A3,_⟩
  ·obtain⟨tp,fr1',cs1',w1,es,Al,B1,G1,Ie⟩:=Zbc hs Gl hE Ai hh (hR.at d) hf F3;obtain⟨gs1,ops,Aj,Gm,_⟩:=Z4H (sl:=sl') (hM.at d) Al B1 G1;obtain⟨N,m',t',h1,h2⟩:=ih tp .refl (sl:=sl') Ie Gm;exact⟨N+1,m',t',Z0F (Ad.trans Aj) h1,h2⟩
  ·exact hl gs' d sl' ops q' A3 Ad (hR.at d) hM'
 cases htop:hR.top with
 |own hf=>exact key hf
 |other h1 h2 Pn h3=>
  by_cases Ag:cs=[trap]
  ·exact key (hR.oth Ag)
  ·obtain⟨N,m',t',ρ1,Sb1,fr1,cs1,V1,fr1',cs1',gs1,w1,sl1,q1,Aj,rfl,Iu,A9,Ie,Gm⟩:=hP _ _ _ cs cs' V ρ Sb gs w sl t q h1 h2 Pn h3 Ag (.step nf nc nV ne Ai hh) hR hM;cases Iu with
   |refl=>exact absurd rfl A9
   |step tp Gx e p=>
    have h1:=Ai tp;rw[e] at h1;injection h1 with g1 g2 g3;obtain⟨q1',q2'⟩:=Z16 g1;rw[q1',q2',g2] at p;obtain⟨N',m'',t'',h3,h4⟩:=ih tp p (sl:=sl1) Ie Gm;obtain⟨N'',h5⟩:=runNT_add Aj h3;exact⟨N'',m'',t'',h5,h4⟩
theorem Zbe(hs:Solo P fs Gs)(Gl:Z3T P fs)(hE:IsEnd E)(hP:Zbd P fs Gs E bot' w0){fr:Frame}{cs:List Frame}{V:World}(h:Halts (Z6 P fs) E fr cs V):
 ∀{fr2:Frame}{cs2:List Frame}{V2:World},Path (Z6 P fs) fr cs V fr2 cs2 V2->∀{ρ:Nat->Nat}{Sb:Nat->Prop}{fr':Frame}{cs':List Frame}{gs:Array Goroutine}{w:World}{sl:Option (Nat×Nat)}{t:Trace}{q:Nat->Nat},
  RelM P fs Gs bot' w0 ρ Sb fr2 cs2 V2 fr' cs' w->MacM P Sb fr' cs' gs w t q->∃N m' t',runNT P N (crowd gs w sl) t=(.next m',t')/\Zcl P fs Gs E bot' w0 m' t':=by
 have fin:∀{fr:Frame}{V:World},(∃t,E fr [trap] (retape t V))->fr.mode= .returning->fr.defers=[]->∀{ρ:Nat->Nat}{Sb:Nat->Prop}{fr':Frame}{cs':List Frame}{gs:Array Goroutine}{w:World}{sl:Option (Nat×Nat)}{t:Trace}{q:Nat->Nat},
  RelM P fs Gs bot' w0 ρ Sb fr [trap] V fr' cs' w->MacM P Sb fr' cs' gs w t q->∃N m' t',runNT P N (crowd gs w sl) t=(.next m',t')/\Zcl P fs Gs E bot' w0 m' t':=by
  intro fr V he hm hd ρ Sb fr' cs' gs w sl t q hR hM;obtain rfl:=hR.cso.bot_iff rfl;exact⟨0,_,_,rfl,ρ,Sb,fr,V,fr',gs,w,sl,q,rfl,hR,hR.oth rfl,hM,he,hm,hd⟩
 induction h with
 | @done fr cs V t he=>
   obtain⟨rfl,hm⟩:=hE.at_ _ _ _ he;intro fr2 cs2 V2 hp ρ Sb fr' cs' gs w sl t0 q hR hM;cases hp with
   |refl=>exact fin ⟨t,he⟩ hm (hE.defers _ _ _ he) hR hM
   |step _ A9 _ _=>exact absurd ⟨rfl,hm,hE.defers _ _ _ he⟩ A9
 | @step fr cs V nf nc nV ne Ai hh ih=>
   intro fr2 cs2 V2 hp ρ Sb fr' cs' gs w sl t q hR hM;cases hp with
   |step tp A9 e p=>
    have h1:=Ai tp;rw[e] at h1;injection h1 with g1 g2 g3;obtain⟨q1,q2⟩:=Z16 g1;rw[q1,q2,g2] at p;exact ih tp p hR hM
   |refl=>
    by_cases F3:cs=[trap]/\fr.mode= .returning/\fr.defers=[]
    ·obtain⟨rfl,hm,hd⟩:=F3;exact fin (Z5v hE hR.self.fro hm hd (.step nf nc nV ne Ai hh)) hm hd hR hM
    ·have inner:∀(k:Nat){ρ:Nat->Nat}{Sb:Nat->Prop}{fr':Frame}{cs':List Frame}{gs:Array Goroutine}{w:World}{sl:Option (Nat×Nat)}{t:Trace}{q:Nat->Nat},
      sumTo gs.size q<=k->RelM P fs Gs bot' w0 ρ Sb fr cs V fr' cs' w->MacM P Sb fr' cs' gs w t q->∃N m' t',runNT P N (crowd gs w sl) t=(.next m',t')/\Zcl P fs Gs E bot' w0 m' t':=by
      intro k
      induction k with
      |zero=>
       intro ρ Sb fr' cs' gs w sl t q hk hR hM;exact Z9o hs Gl hE hP Ai hh (λtp=>ih tp) F3 hR hM λgs' d sl' ops q' A3 _ _ _=>by omega
      |succ k ihk=>
       intro ρ Sb fr' cs' gs w sl t q hk hR hM
       exact Z9o hs Gl hE hP Ai hh (λtp=>ih tp) F3 hR hM λgs' d sl' ops q' A3 Ad hR' hM'=>by
        obtain⟨N,m',t',h1,h2⟩:=ihk (by omega) hR' hM';exact⟨N+1,m',t',Z0F Ad h1,h2⟩
     exact inner _ (XB _) hR hM
end
end
end Go.Nk
