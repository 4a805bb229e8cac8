import Derived.Test.YthahddndgbpooaaGreatDoorNk03
import Derived.Test.YthahddndgbpooaaGreatDoorProg
import Derived.WalkSpells
set_option linter.all false
set_option maxRecDepth 100000
set_option maxHeartbeats 1000000
open Go
open Go renaming World->I,Goroutine->J,Frame->U,Program->NO,Value->NM,TypeId->NT,Calls->NW,FuncId->NS
open Bool renaming true->Z,false->ND
open Option renaming some->NA,none->NB
open Go.Proofs.Tryz renaming prog->NX
open Go.Value renaming int->NE
open Go.IntKind renaming i64->NF
variable {args:Array NM}{fr' fr1':U}{E:U->List U->I->Prop}{fn:Func}{f:NS}{bot' cs' cs1':List U}{m m':Machine}{Gg b i:Nat}{q ρ:Nat->Nat}{Fz o:Nat->Prop}{p tr:Tmp}{ops t':Trace}{R:NM->I->Prop}{w0 w1 w₁ w₂:I}
namespace Go.Nk
section
open Go.Conc
open Go.ConcN (ShN WgLive PayAt Has CTag RW AtK1 AtR0 upd)
open Go.ConcR (KK WgAt stA smA rd wr mk Payload DC0)
variable [Payload]
def LB(S:Nat->Prop)(l:Loc):Prop:=(∃a,l= .cell a/\S a.block)\/∃r,l= .obj r/\S r
def Zu(Sb:Nat->Prop)(l:Loc):Prop:=∃a,l= .cell a/\Sb a.block
def T3(Wg:Nat)(e:Event):Prop:=e.loc≠.mark .disable/\e.loc≠.mark .enable/\e.loc≠.mark (.release (stA Wg))
section
variable (ty:NT)(Wg C n:Nat)(Sb:Nat->Prop)
structure RWo(k:Nat)(Rd o:Nat->Prop)(w w₁:I):Prop where
 own:∀b,o b->w₁.heap[b]? =w.heap[b]?
 rd:∀b,Rd b->w₁.heap[b]? =w.heap[b]?
 size:w.heap.size<=w₁.heap.size
 live:WgLive ty Wg w->WgLive ty Wg w₁
 pay:PayAt C n w->PayAt C n w₁
 cell:w₁.cell? ⟨C,k,NB⟩=w.cell? ⟨C,k,NB⟩
def EvWo(k:Nat)(Rd o:Nat->Prop)(e:Event):Prop:=
 (∀x,(MemAct.ofEvent e).touch? =NA x->(ShN Wg x.loc/\x.kind≠.plain/\x.kind≠.said)\/LB o x.loc\/x.loc= .cell ⟨C,k,NB⟩\/(LB Rd x.loc/\¬Zu Sb x.loc/\x.write=ND))/\T3 Wg e
structure DWo(k:Nat)(Rd o:Nat->Prop)(w w':I)(es:Array Event):Prop where
 stay:∀b,b<w.heap.size->¬o b->b≠C->w'.heap[b]? =w.heap[b]?
 pay:PayAt C n w->PayAt C n w'
 cells:∀i,i≠k->w'.cell? ⟨C,i,NB⟩=w.cell? ⟨C,i,NB⟩
 size:w.heap.size<=w'.heap.size
 tape:w'.tape=w.tape
 os:w'.os=w.os
 output:w'.output=w.output
 evs:∀e∈es,EvWo Wg C Sb k Rd (grow o w w') e/\(MemAct.ofEvent e).low w'.heap.size
structure RMo(o:Nat->Prop)(w w₁:I):Prop where
 own:∀b,o b->w₁.heap[b]? =w.heap[b]?
 size:w.heap.size<=w₁.heap.size
 live:WgLive ty Wg w->WgLive ty Wg w₁
 pay:PayAt C n w->PayAt C n w₁
 tape:w₁.tape=w.tape
 os:w₁.os=w.os
 output:w₁.output=w.output
def EvMo(Giv o:Nat->Prop)(e:Event):Prop:=
 (∀x,(MemAct.ofEvent e).touch? =NA x->(ShN Wg x.loc/\x.kind≠.plain)\/(LB o x.loc/\¬Zu Sb x.loc/\(x.write=Z->¬LB Giv x.loc)))/\T3 Wg e
structure DMo(Giv o:Nat->Prop)(w w':I)(es:Array Event):Prop where
 stay:∀b,b<w.heap.size->(¬o b\/Giv b)->w'.heap[b]? =w.heap[b]?
 size:w.heap.size<=w'.heap.size
 tape:w'.tape=w.tape
 os:w'.os=w.os
 output:w'.output=w.output
 evs:∀e∈es,EvMo Wg Sb Giv (grow o w w') e/\(MemAct.ofEvent e).low w'.heap.size
end
section
variable (P:NO)(ty:NT)(Wg C n:Nat)(Sb:Nat->Prop)(Res:Nat->(Nat->Prop)->NM->I->Prop)
def SW(k:Nat)(o:Nat->Prop)(g:J)(w:I):Prop:=∃v,Res k o v w/\AtR0 P ty Wg C n 0 (k+1) v g w
def LA(k:Nat)(Rd:Nat->Prop)(g:J)(w:I):Prop:=∃r,GoT P ND (RWo ty Wg C n k Rd) (DWo Wg C n Sb k Rd) (SW P ty Wg C n Res k) r (λ_=>False) g w
variable (End AnchW:(Nat->Prop)->J->I->Prop)
section
variable (Giv:Nat->Prop)
def MAcq(o:Nat->Prop)(g:J)(w:I):Prop:=
 g.status= .running/\∃a,stepG P Z g w= .go a w #[mk (.acquire (stA Wg))]/\((fun(o:Nat->Prop)(g:J)(w:I)=>∃r,GoT P Z (RMo ty Wg C n) (DMo Wg Sb Giv) End r o g w)) o a w
def MKe(o:Nat->Prop)(g:J)(w:I):Prop:=
 g.status= .running/\∃a,stepG P Z g w= .go a w #[mk .enable]/\((fun(o:Nat->Prop)(g:J)(w:I)=>∃r,GoT P Z (RMo ty Wg C n) (DMo Wg Sb Giv) (MAcq P ty Wg C n Sb End Giv) r o g w)) o a w
def MW4(o:Nat->Prop)(g:J)(w:I):Prop:=
 g.status= .running/\(WgAt ty Wg w 0 0->∃a,stepG P Z g w= .go a w #[rd (stA Wg)]/\((fun(o:Nat->Prop)(g:J)(w:I)=>∃r,GoT P Z (RMo ty Wg C n) (DMo Wg Sb Giv) (MKe P ty Wg C n Sb End Giv) r o g w)) o a w)
def MW3(o:Nat->Prop)(g:J)(w:I):Prop:=
 g.status= .running/\g.offers=NB/\((∃a,WgAt ty Wg w a 0)->stepG P Z g w= .go {g with status:= .blocked} w #[])/\
  (WgAt ty Wg w 0 1->∃a,stepG P Z g w= .go a (w.setCell (smA Wg) (NE .u32 0)) (semEvents (smA Wg))/\((fun(o:Nat->Prop)(g:J)(w:I)=>∃r,GoT P Z (RMo ty Wg C n) (DMo Wg Sb Giv) (MW4 P ty Wg C n Sb End Giv) r o g w)) o a (w.setCell (smA Wg) (NE .u32 0)))
def MW2(c:Nat)(o:Nat->Prop)(g:J)(w:I):Prop:=
 g.status= .running/\∀v:Nat,v<2147483648->WgAt ty Wg w (v*KK) 0->
  (v=c->∃a,stepG P Z g w= .go a (w.setCell (stA Wg) (NE .u64 (v*KK+1))) #[rd (stA Wg),wr (stA Wg)]/\((fun(o:Nat->Prop)(g:J)(w:I)=>∃r,GoT P Z (RMo ty Wg C n) (DMo Wg Sb Giv) (MW3 P ty Wg C n Sb End Giv) r o g w)) o a (w.setCell (stA Wg) (NE .u64 (v*KK+1))))/\
  (v≠c->∃a,stepG P Z g w= .go a w #[rd (stA Wg)]/\((fun(o:Nat->Prop)(g:J)(w:I)=>∃r,GoT P Z (RMo ty Wg C n) (DMo Wg Sb Giv) AnchW r o g w)) o a w)
def MW1(o:Nat->Prop)(g:J)(w:I):Prop:=
 g.status= .running/\∀v:Nat,v<2147483648->WgAt ty Wg w (v*KK) 0->∃a,stepG P Z g w= .go a w #[rd (stA Wg)]/\
  (v=0->((fun(o:Nat->Prop)(g:J)(w:I)=>∃r,GoT P Z (RMo ty Wg C n) (DMo Wg Sb Giv) (MKe P ty Wg C n Sb End Giv) r o g w)) o a w)/\(v≠0->((fun(o:Nat->Prop)(g:J)(w:I)=>∃r,GoT P Z (RMo ty Wg C n) (DMo Wg Sb Giv) (MW2 P ty Wg C n Sb End AnchW Giv v) r o g w)) o a w)
def MKd(o:Nat->Prop)(g:J)(w:I):Prop:=
 g.status= .running/\∃a,stepG P Z g w= .go a w #[mk .disable]/\((fun(o:Nat->Prop)(g:J)(w:I)=>∃r,GoT P Z (RMo ty Wg C n) (DMo Wg Sb Giv) AnchW r o g w)) o a w
def MGo(j:Nat)(Next:(Nat->Prop)->J->I->Prop)(o:Nat->Prop)(g:J)(w:I):Prop:=
 g.status= .running/\∃c a,stepG P Z g w= .spawn c a w #[]/\a.status= .running/\(PayAt C n w->LA P ty Wg C n Sb Res j o a w)/\Next o c w
def MKeS(j:Nat)(Next:(Nat->Prop)->J->I->Prop)(o:Nat->Prop)(g:J)(w:I):Prop:=
 g.status= .running/\∃a,stepG P Z g w= .go a w #[mk .enable]/\((fun(o:Nat->Prop)(g:J)(w:I)=>∃r,GoT P Z (RMo ty Wg C n) (DMo Wg Sb Giv) (MGo P ty Wg C n Sb Res j Next) r o g w)) o a w
def MA1(j:Nat)(Next:(Nat->Prop)->J->I->Prop)(o:Nat->Prop)(g:J)(w:I):Prop:=
 g.status= .running/\∀v:Nat,v<2147483647->WgAt ty Wg w (v*KK) 0->
  ∃a,stepG P Z g w= .go a (w.setCell (stA Wg) (NE .u64 ((v+1)*KK))) #[rd (stA Wg),wr (stA Wg)]/\((fun(o:Nat->Prop)(g:J)(w:I)=>∃r,GoT P Z (RMo ty Wg C n) (DMo Wg Sb Giv) (MKeS P ty Wg C n Sb Res Giv j Next) r o g w)) o a (w.setCell (stA Wg) (NE .u64 ((v+1)*KK)))
def KL(j:Nat)(Next:(Nat->Prop)->J->I->Prop)(o:Nat->Prop)(g:J)(w:I):Prop:=
 g.status= .running/\∃a,stepG P Z g w= .go a w #[mk .disable]/\((fun(o:Nat->Prop)(g:J)(w:I)=>∃r,GoT P Z (RMo ty Wg C n) (DMo Wg Sb Giv) (MA1 P ty Wg C n Sb Res Giv j Next) r o g w)) o a w
end
def SpawnsN:Nat->(Nat->Prop)->(Nat->Prop)->J->I->Prop
 |0,Giv,o,g,w=>∃r,GoT P Z (RMo ty Wg C n) (DMo Wg Sb Giv) (MKd P ty Wg C n Sb AnchW Giv) r o g w
 |r+1,Giv,o,g,w=>∃t,GoT P Z (RMo ty Wg C n) (DMo Wg Sb Giv) (KL P ty Wg C n Sb Res Giv (n - (r+1)) (λo g w=>SpawnsN r o o g w)) t o g w
inductive CS:CTag->Nat->(Nat->Prop)->(Nat->Prop)->Tr×Nat->Nat->J->I->Prop
 |skd {r:Nat} {f:Tr} {Giv o:Nat->Prop} {g:J} {w:I}:r<n->GoT P Z (RMo ty Wg C n) (DMo Wg Sb Giv) (KL P ty Wg C n Sb Res Giv (n - (r+1)) (λo g w=>SpawnsN P ty Wg C n Sb Res AnchW r o o g w)) f o g w->CS (.sp r 5) (n - (r+1)) Giv o (f,0) 0 g w
 |sa1 {r:Nat} {f:Tr} {Giv o:Nat->Prop} {g:J} {w:I}:r<n->GoT P Z (RMo ty Wg C n) (DMo Wg Sb Giv) (MA1 P ty Wg C n Sb Res Giv (n - (r+1)) (λo g w=>SpawnsN P ty Wg C n Sb Res AnchW r o o g w)) f o g w->CS (.sp r 4) (n - (r+1)) Giv o (f,0) 1 g w
 |ske {r:Nat} {f:Tr} {Giv o:Nat->Prop} {g:J} {w:I}:r<n->GoT P Z (RMo ty Wg C n) (DMo Wg Sb Giv) (MKeS P ty Wg C n Sb Res Giv (n - (r+1)) (λo g w=>SpawnsN P ty Wg C n Sb Res AnchW r o o g w)) f o g w->CS (.sp r 3) (n - (r+1)) Giv o (f,0) 1 g w
 |sgo {r:Nat} {f:Tr} {Giv o:Nat->Prop} {g:J} {w:I}:r<n->GoT P Z (RMo ty Wg C n) (DMo Wg Sb Giv) (MGo P ty Wg C n Sb Res (n - (r+1)) (λo g w=>SpawnsN P ty Wg C n Sb Res AnchW r o o g w)) f o g w->CS (.sp r 2) (n - (r+1)) Giv o (f,0) 0 g w
 |kd {f:Tr} {Giv o:Nat->Prop} {g:J} {w:I}:GoT P Z (RMo ty Wg C n) (DMo Wg Sb Giv) (MKd P ty Wg C n Sb AnchW Giv) f o g w->CS .kd n Giv o (f,0) 0 g w
 |anch {f:Tr} {Giv o:Nat->Prop} {g:J} {w:I}:GoT P Z (RMo ty Wg C n) (DMo Wg Sb Giv) AnchW f o g w->CS .anch n Giv o (f,0) 1 g w
 |w1 {f:Tr} {Giv o:Nat->Prop} {g:J} {w:I}:GoT P Z (RMo ty Wg C n) (DMo Wg Sb Giv) (MW1 P ty Wg C n Sb End AnchW Giv) f o g w->CS .w1 n Giv o (f,0) 1 g w
 |w2 {vs:Nat} {f:Tr} {Giv o:Nat->Prop} {g:J} {w:I}:GoT P Z (RMo ty Wg C n) (DMo Wg Sb Giv) (MW2 P ty Wg C n Sb End AnchW Giv vs) f o g w->CS (.w2 vs) n Giv o (f,0) 1 g w
 |w3 {f:Tr} {Giv o:Nat->Prop} {g:J} {w:I}:GoT P Z (RMo ty Wg C n) (DMo Wg Sb Giv) (MW3 P ty Wg C n Sb End Giv) f o g w->CS .w3 n Giv o (f,1) 1 g w
 |blk {f:Tr} {Giv o:Nat->Prop} {g:J} {w:I}:(∀w₁,RMo ty Wg C n o w w₁->MW3 P ty Wg C n Sb End Giv o g w₁)->CS .blk n Giv o (f,0) 1 {g with status:= .blocked} w
 |w4 {f:Tr} {Giv o:Nat->Prop} {g:J} {w:I}:GoT P Z (RMo ty Wg C n) (DMo Wg Sb Giv) (MW4 P ty Wg C n Sb End Giv) f o g w->CS .w4 n Giv o (f,0) 1 g w
 |ke {f:Tr} {Giv o:Nat->Prop} {g:J} {w:I}:GoT P Z (RMo ty Wg C n) (DMo Wg Sb Giv) (MKe P ty Wg C n Sb End Giv) f o g w->CS .ke n Giv o (f,0) 1 g w
 |acq {f:Tr} {Giv o:Nat->Prop} {g:J} {w:I}:GoT P Z (RMo ty Wg C n) (DMo Wg Sb Giv) (MAcq P ty Wg C n Sb End Giv) f o g w->CS .acq n Giv o (f,0) 0 g w
 |ret {f:Tr} {Giv o:Nat->Prop} {g:J} {w:I}:GoT P Z (RMo ty Wg C n) (DMo Wg Sb Giv) End f o g w->CS .ret n Giv o (f,0) 0 g w
inductive WS(k:Nat)(Rd:Nat->Prop)(v:NM):Nat->(Nat->Prop)->Tr->Nat->J->I->Prop
 |work {r:Tr} {o:Nat->Prop} {g:J} {w:I}:GoT P ND (RWo ty Wg C n k Rd) (DWo Wg C n Sb k Rd) (SW P ty Wg C n Res k) r o g w->WS k Rd v 7 o r 0 g w
 |late {s m d:Nat} {o:Nat->Prop} {g:J} {w:I}:s<=6->Go.ConcN.WSit P ty Wg C n (λ_ _=>False) (λ_ _=>False) 0 (k+1) v s m d g w->WS k Rd v s o (.ofNat m) d g w
end
section
variable {P:NO}{ty:NT}{Wg C n:Nat}{Sb:Nat->Prop}{Res:Nat->(Nat->Prop)->NM->I->Prop}{End AnchW:(Nat->Prop)->J->I->Prop}{k:Nat}{Rd Giv:Nat->Prop}{w:I}
def RWo.refl(o:Nat->Prop)(w:I):RWo ty Wg C n k Rd o w w:=⟨λ_ _=>rfl,λ_ _=>rfl,XA _,id,id,rfl⟩
def RWo.trans(h:RWo ty Wg C n k Rd o w w₁)(a:RWo ty Wg C n k Rd o w₁ w₂):RWo ty Wg C n k Rd o w w₂:=
 ⟨λb c=>(a.own b c).trans (h.own b c),λb c=>(a.rd b c).trans (h.rd b c),XC h.size a.size,a.live∘h.live,a.pay∘h.pay,a.cell.trans h.cell⟩
def RWo.rw(h:RWo ty Wg C n k Rd o w w₁):RW ty Wg C n 0 k w w₁:=⟨λb _=>by omega,h.live,h.pay,h.cell⟩
def RWo.at(w:I)(d:Nat):RWo ty Wg C n k Rd o w (w.at d):=⟨λ_ _=>rfl,λ_ _=>rfl,XA _,id,id,rfl⟩
def RMo.refl(o:Nat->Prop)(w:I):RMo ty Wg C n o w w:=⟨λ_ _=>rfl,XA _,id,id,rfl,rfl,rfl⟩
def RMo.trans(h:RMo ty Wg C n o w w₁)(a:RMo ty Wg C n o w₁ w₂):RMo ty Wg C n o w w₂:=
 ⟨λb c=>(a.own b c).trans (h.own b c),XC h.size a.size,a.live∘h.live,a.pay∘h.pay,a.tape.trans h.tape,a.os.trans h.os,a.output.trans h.output⟩
def RMo.at(w:I)(d:Nat):RMo ty Wg C n o w (w.at d):=⟨λ_ _=>rfl,XA _,id,id,rfl,rfl,rfl⟩
def WS.rely{v:NM}{s d:Nat}{r:Tr}{g:J}(h:WS P ty Wg C n Sb Res k Rd v s o r d g w)(a:RWo ty Wg C n k Rd o w w₁):WS P ty Wg C n Sb Res k Rd v s o r d g w₁:=by
 cases h with|work h=>exact .work (h.rely (λ_ _ _ _ e c=>e.trans c) a)|late j h=>exact .late j (h.rely a.rw)
def WS.status{v:NM}{s d:Nat}{r:Tr}{g:J}(h:WS P ty Wg C n Sb Res k Rd v s o r d g w):g.status= .running\/g.status= .finished:=by
 cases h with|work h=>exact .inl (h.running RWo.refl (λ_ _ _ ⟨_,_,x⟩=>x.1))|late _ h=>exact h.status
def WS.running_of{v:NM}{s d:Nat}{r:Tr}{g:J}(h:WS P ty Wg C n Sb Res k Rd v s o r d g w)(a:s≠1):g.status= .running:=by
 cases h with|work h=>exact h.running RWo.refl (λ_ _ _ ⟨_,_,x⟩=>x.1)|late _ h=>exact h.running_of a
def WS.woken{v:NM}{s d:Nat}{r:Tr}{g:J}(h:WS P ty Wg C n Sb Res k Rd v s o r d g w)(a e:J)(c:I):Go.Conc.woken P a e c g=g:=by
 unfold Go.Conc.woken;split
 .exact again_running _ h.status
 .rfl
def CS.rely{g:CTag}{j d:Nat}{f:Tr×Nat}{a:J}(h:CS P ty Wg C n Sb Res End AnchW g j Giv o f d a w)(c:RMo ty Wg C n o w w₁):CS P ty Wg C n Sb Res End AnchW g j Giv o f d a w₁:=by
 have tr:∀o x y z,RMo ty Wg C n o x y->RMo ty Wg C n o y z->RMo ty Wg C n o x z:=λ_ _ _ _ A u=>A.trans u
 cases h with|skd e h=>exact .skd e (h.rely tr c)|sa1 e h=>exact .sa1 e (h.rely tr c)|ske e h=>exact .ske e (h.rely tr c)|sgo e h=>exact .sgo e (h.rely tr c)|kd h=>exact .kd (h.rely tr c)|anch h=>exact .anch (h.rely tr c)|w1 h=>exact .w1 (h.rely tr c)|w2 h=>exact .w2 (h.rely tr c)|w3 h=>exact .w3 (h.rely tr c)|blk h=>exact .blk (λw₂ t=>h w₂ (c.trans t))|w4 h=>exact .w4 (h.rely tr c)|ke h=>exact .ke (h.rely tr c)|acq h=>exact .acq (h.rely tr c)|ret h=>exact .ret (h.rely tr c)
def CS.status(t:∀o g w,AnchW o g w->g.status= .running)(e:∀o g w,End o g w->g.status= .running){c:CTag}{j d:Nat}{f:Tr×Nat}{a:J}(h:CS P ty Wg C n Sb Res End AnchW c j Giv o f d a w):(a.status= .running/\c≠.blk)\/(a.status= .blocked/\c= .blk):=by
 cases h with|skd _ h=>exact .inl ⟨h.running RMo.refl (λ_ _ _ x=>x.1),OD⟩|sa1 _ h=>exact .inl ⟨h.running RMo.refl (λ_ _ _ x=>x.1),OD⟩|ske _ h=>exact .inl ⟨h.running RMo.refl (λ_ _ _ x=>x.1),OD⟩|sgo _ h=>exact .inl ⟨h.running RMo.refl (λ_ _ _ x=>x.1),OD⟩|kd h=>exact .inl ⟨h.running RMo.refl (λ_ _ _ x=>x.1),OD⟩|anch h=>exact .inl ⟨h.running RMo.refl t,OD⟩|w1 h=>exact .inl ⟨h.running RMo.refl (λ_ _ _ x=>x.1),OD⟩|w2 h=>exact .inl ⟨h.running RMo.refl (λ_ _ _ x=>x.1),OD⟩|w3 h=>exact .inl ⟨h.running RMo.refl (λ_ _ _ x=>x.1),OD⟩|blk h=>exact .inr ⟨rfl,rfl⟩|w4 h=>exact .inl ⟨h.running RMo.refl (λ_ _ _ x=>x.1),OD⟩|ke h=>exact .inl ⟨h.running RMo.refl (λ_ _ _ x=>x.1),OD⟩|acq h=>exact .inl ⟨h.running RMo.refl (λ_ _ _ x=>x.1),OD⟩|ret h=>exact .inl ⟨h.running RMo.refl e,OD⟩
def CS.wokenBy(F:∀o g w,AnchW o g w->g.status= .running)(A:∀o g w,End o g w->g.status= .running){e:CTag}{j d:Nat}{f:Tr×Nat}{a:J}(h:CS P ty Wg C n Sb Res End AnchW e j Giv o f d a w)(H:RMo ty Wg C n o w w₁)(g y:J):
 ∃c L,CS P ty Wg C n Sb Res End AnchW c j Giv o L d (woken P g y w₁ a) w₁/\(c=e\/(e= .blk/\c= .w3))/\(mayWake P g=Z->y.status= .running->c≠.blk):=by
 have t:=h.rely H;unfold Go.Conc.woken;split
 .rcases t.status F A with⟨M,z⟩|⟨_,rfl⟩
  .exact⟨e,f,by rw[again_running _ (.inl M)];exact t,.inl rfl,λ_ _=>z⟩
  .cases t with
   |blk x=>
    have u:=x w₁ (.refl _ w₁);exact⟨.w3,(.leaf,1),by rw[Go.ConcR.again_blocked u.1 u.2.1];exact .w3 (GoT.stop _ x),.inr ⟨rfl,rfl⟩,λ_ _=>by simp⟩
 .rename_i hc;exact⟨e,f,t,.inl rfl,λK B=>absurd (by simp[K,B]) hc⟩
end
end
section
open Go.Conc
open Go.ConcN (ShN WgLive PayAt Has)
open Go.ConcR (Payload stA)
variable [Ban]
section
variable {P:NO}{fs:Array Func}{Gs:Nat->Bool}
def pn{a:U}{t:List U}{V:I}(h:Pan P fs Gs a t V):
 (∃o g j,stepG (Z6 P fs) Z (G a t) V= .ended o g j)\/(∃x A g j,stepG (Z6 P fs) Z (G a t) V= .go (G x A) g j/\Pan P fs Gs x A g)\/
 ∃c,stepG (Z6 P fs) Z (G a t) V= .go (G (trap.raise c) []) V:=by
 obtain⟨c,F⟩:=h.mode;have e1:stepG (Z6 P fs) Z (G a t) V=unwind (Z6 P fs) Z a t NB V:=by simp only[G,stepG,F]
 have L:=h.defers;cases Fq:a.defers with
 |nil=>
  obtain⟨fn,O,t1,t2,t3,t4⟩:=h.tm;have Kc:a.catches (Z6 P fs)=ND:=by unfold Frame.catches;rw[t2]
  cases hc:h.cso with
  |nil=>
   right;right
   refine⟨c,?_⟩;rw[e1];simp only[unwind,Fq,F,Kc,YR,VF];rfl
  |cons X hb An=>
   rename_i f z;right;left;have e2:stepG (Z6 P fs) Z (G a (f::z)) V= .go (G (f.raise c) z) V:=by
    rw[e1];simp only[unwind,Fq,F,Kc,YR,VF];rfl
   exact⟨_,_,_,_,e2,h.sim,h.loops,by rw[IL];exact X.tm,by rw[MS];exact X.defers,An,MQ _ _⟩
 |cons d T=>
  rw[Fq]at L;obtain⟨r,a0,rfl,hr,e,Tb⟩:=D4 L;simp only[id,SU,true_and]at e;subst e;have y:∀H g j,(Instr.takeDeferred r).runT (Z6 P fs) V #[]=(.halt H g,j)->∃o g j,stepG (Z6 P fs) Z (G a t) V= .ended o g j:=by
   intro H g j u;refine⟨.stuck "the deferred calls of a range-over-func loop have been taken" (a.pos (Z6 P fs)),g,seen (Z6 P fs) a.fn j++ #[],?_⟩;rw[e1];simp only[unwind,Fq,u];rfl
  rcases OM (P:=Z6 P fs) (DW (fs:=fs) (P:=Z6 P fs) (Gs:=Gs) (ρ:=id) hr) h.sim h.loops with⟨H,g,j,u,_⟩|⟨g,w1,new,j,Bi,K,W,⟨v,M,L1,u,Y,Cn,hv⟩|⟨v,M,u,_⟩⟩
  .exact .inl (y _ _ _ u)
  .right;left
   have u:(Instr.takeDeferred r).runT (Z6 P fs) V #[]=(.ok v g,j):=u;have B:=Y.2 V.tape (λ_ _ _=>rfl);have B:(Instr.takeDeferred r).runT (Z6 P fs) V #[]=(.ok M (retape V.tape w1),new):=B;rw[u]at B;injection B with q1 q2;injection q1 with q3 q4;subst q3;have e4:Nk.retape V.tape w1=w1:=by unfold Nk.retape;rw[<-Y.1.2]
   rw[e4]at q4;subst q4;have e2:stepG (Z6 P fs) Z (G a t) V= .go (G {a with defers:=v++T} t) g (seen (Z6 P fs) a.fn j++ #[]):=by
    rw[e1];simp only[unwind,Fq,u];rfl
   exact⟨{a with defers:=v++T},t,g,_,e2,Bi,K,h.tm,(hv.up Cn).append (Tb.up W.live),h.cso.up W.live,⟨c,F⟩⟩
  .exact .inl (y _ _ _ u)
def H7(P:NO)(V:I)(c:List PanicEntry):∃o a,stepG P Z (G (trap.raise c) []) V= .ended o V a:=⟨_,_,rfl⟩
def aW(P:NO)(V:I)(v:NM):∃o a,stepG P Z (G (trap.finish v) []) V= .ended o V a:=⟨_,_,rfl⟩
def HK(B:IsEnd E){u:U}{j:List U}{V:I}(h:Halts (Z6 P fs) E u j V):Pan P fs Gs u j V->False:=by
 induction h with
 |done t z=>
  intro x;obtain⟨c,hc⟩:=x.mode;have:=(B.at_ _ _ _ z).2;rw[hc]at this;cases this
 | @step u j V nf Y H L T O X=>
   intro x;have a:=T V.tape;rw[Vt]at a;rcases pn x with⟨o,M,F,e⟩|⟨_,_,M,F,e,W⟩|⟨c,e⟩
   .rw[e]at a;cases a
   .rw[e]at a;injection a with y d g3;obtain⟨e1,e2⟩:=Y8 y;refine X V.tape ?_;rw[<-e1,<-e2,<-d];exact W
   .rw[e]at a;injection a with y d g3;obtain⟨e1,e2⟩:=Y8 y;have A:=O V.tape;rw[<-e1,<-e2,<-d]at A;cases A with
    |done t z=>have:=(B.at_ _ _ _ z).1;cases this
    |step nf Y H L K _=>
     obtain⟨o,F,e3⟩:=H7 (Z6 P fs) V c;have g:=K V.tape;rw[Vt]at g;rw[e3]at g;cases g
def BQ(O:IsEnd E){a:U}{V:I}(B:FrR (Z6 P fs) fs Gs id (Live V) a a)(u:a.mode= .returning)(y:a.defers=[])(h:Halts (Z6 P fs) E a [trap] V):∃t,E a [trap] (retape t V):=by
 cases h with
 |done t x=>exact⟨t,x⟩
 |step nf Y H M X W=>
  exfalso;obtain⟨fn,_,_,z,_,_⟩:=B.tm;have d:=X V.tape;rw[Vt]at d;have e1:stepG (Z6 P fs) Z (G a [trap]) V=unwind (Z6 P fs) Z a [trap] NB V:=by simp only[G,stepG,u]
  cases hx:(results fn a.tmps).runT (Z6 P fs) V #[]with
  |mk r F=>
   cases r with
   |halt g c=>
    have e2:∃o e,stepG (Z6 P fs) Z (G a [trap]) V= .ended o c e:=by
     rw[e1];simp only[unwind,y,u,z,hx];cases g<;>exact⟨_,_,rfl⟩
    obtain⟨o,e,e2⟩:=e2;rw[e2]at d;cases d
   |ok v c=>
    have e2:stepG (Z6 P fs) Z (G a [trap]) V= .go (G (trap.finish v) []) c (seen (Z6 P fs) a.fn F++ #[]):=by
     rw[e1];simp only[unwind,y,u,z,hx,doReturn,B.kind.1];rfl
    rw[e2]at d;injection d with T L _;obtain⟨q1,q2⟩:=Y8 T;have A:=W V.tape;rw[<-q1,<-q2,<-L]at A;cases A with
    |done t x=>have:=(O.at_ _ _ _ x).1;cases this
    |step nf Y H M K _=>
     obtain⟨o,F,e3⟩:=aW (Z6 P fs) c v;have j:=K c.tape;rw[Vt]at j;rw[e3]at j;cases j
def reN(ρ:Nat->Nat)(V w:I)(b:Nat):Nat:=if b<V.heap.size then ρ b else w.heap.size+(b - V.heap.size)
def reT(V w:I):Nat->Question->Nat:=λi=>w.tape (w.drawn+(i - V.drawn))
def OP{V w:I}(h:b<V.heap.size):reN ρ V w b=ρ b:=YZ h
def bk{V w:I}(h:Emb ρ Gg Fz V w):Sim (reN ρ V w) Gg Fz (retape (reT V w) V) w:=by
 have e:∀b,Live V b->Live V b/\reN ρ V w b=ρ b:=λb a=>⟨a,OP a.lt⟩
 refine{obj:=λb o a d=> ?_,inj:=λb u a c g=> ?_,fz:=h.fz,low:=λb a=> ?_,gV:=h.gV,gw:=h.gw,tape:=λi=> ?_,next:=λj=> ?_}
 .have Cb:Live V b:=⟨o,a,d⟩;obtain⟨z,x,y,t⟩:=h.obj b o a d;refine⟨z,by rw[OP Cb.lt];exact x,λd=>(y d).mono e,λd=>⟨(t d).1.mono e,(t d).2⟩⟩
 .have a:Live V b:=a;have c:Live V u:=c;rw[OP a.lt,OP c.lt]at g;exact h.inj b u a c g
 .have a:Live V b:=a;rw[OP a.lt];exact h.low b a
 .show reN ρ V w (V.heap.size+j)=_;unfold reN;rw[XB OA];omega
 .show w.tape (w.drawn+(V.drawn+i - V.drawn))=_;rw[Nat.add_sub_cancel_left]
def lc{V w:I}(h:Emb ρ Gg Fz V w)(g:w.heap.size<=w₁.heap.size)(e:∀b,Live V b->w₁.heap[ρ b]? =w.heap[ρ b]?):Emb ρ Gg Fz V w₁:=
 ⟨λb o c a=>let ⟨j,d,x⟩:=h.obj b o c a;⟨j,(e b ⟨o,c,a⟩).trans d,x⟩,h.inj,h.fz,h.low,h.gV,XC h.gw g⟩
end
section
variable [Payload]
variable {P:NO}{fs:Array Func}{Gs:Nat->Bool}
structure AtSim(P:NO)(fs:Array Func)(Gs:Nat->Bool)(E:U->List U->I->Prop)(Fz:Nat->Prop)(Sb:Nat->Prop)(Rd:Nat->Prop)(κ:Nat->Option Nat)(bot':List U)(o:Nat->Prop)(ρ:Nat->Nat)(V:I)(fr fr':U)(w:I):Prop where
 fin:∃t,E fr [trap] (retape t V)
 fro:FrR P fs Gs ρ (Live V) fr fr'
 emb:Emb ρ P.globals.size Fz V w
 loops:LoopsOk (ZE P fs Gs) V
 mode:fr.mode= .returning/\fr.defers=[]
 own:∀b,Live V b->¬Fz b->o (ρ b)
 rd:∀b,Live V b->Fz b->Rd (ρ b)/\¬Sb (ρ b)
 known:∀b c,κ b=NA c->Live V b/\ρ b=c
def po(ty:NT){Wg C n k:Nat}{Sb Rd:Nat->Prop}(hs:Solo P fs Gs)(I6:Y5 P fs)(Co:∀f,Ent P fs f->Tm P fs Gs f)(hE:IsEnd E){Fz:Nat->Prop}{κ:Nat->Option Nat}{bot':List U}{d:U}{Y:List U}{V:I}(h:Halts (Z6 P fs) E d Y V):
 ∀{ρ:Nat->Nat}{fr':U}{cs':List U}{w:I}{o:Nat->Prop},Self P fs Gs d Y V->FrR P fs Gs ρ (Live V) d fr'->CsR P fs Gs ρ (Live V) [trap] bot' Y cs'->(Y=[trap]->d.roundOf=NB)->Emb ρ P.globals.size Fz V w->LoopsOk (ZE P fs Gs) V->
  (∀g,Gs g=Z->Live V g/\ρ g=g)->(∀b c,κ b=NA c->Live V b/\ρ b=c)->(∀b,Live V b->¬Fz b->o (ρ b))->(∀b,Live V b->Fz b->Rd (ρ b)/\¬Sb (ρ b))->C<w.heap.size->¬o C->
  ∃r,GoT P ND (RWo ty Wg C n k Rd) (DWo Wg C n Sb k Rd) (λo g w=>∃ρ V d fr',g=G fr' bot'/\AtSim P fs Gs E Fz Sb Rd κ bot' o ρ V d fr' w) r o (G fr' cs') w:=by
 have keep:∀{ρ:Nat->Nat}{V w w₁:I}{o:Nat->Prop},Emb ρ P.globals.size Fz V w->(∀b,Live V b->¬Fz b->o (ρ b))->(∀b,Live V b->Fz b->Rd (ρ b)/\¬Sb (ρ b))->RWo ty Wg C n k Rd o w w₁->Emb ρ P.globals.size Fz V w₁:=by
  intro ρ V w w₁ o he j A M;refine lc he M.size λb a=> ?_
  by_cases F:Fz b
  .exact M.rd _ (A b a F).1
  .exact M.own _ (j b a F)
 have z:∀{d:U}{V:I},(∃t,E d [trap] (retape t V))->d.mode= .returning/\d.defers=[]->∀{ρ:Nat->Nat}{fr':U}{w:I}{o:Nat->Prop},FrR P fs Gs ρ (Live V) d fr'->Emb ρ P.globals.size Fz V w->LoopsOk (ZE P fs Gs) V->
  (∀b c,κ b=NA c->Live V b/\ρ b=c)->(∀b,Live V b->¬Fz b->o (ρ b))->(∀b,Live V b->Fz b->Rd (ρ b)/\¬Sb (ρ b))->
  ∃r,GoT P ND (RWo ty Wg C n k Rd) (DWo Wg C n Sb k Rd) (λo g w=>∃ρ V d fr',g=G fr' bot'/\AtSim P fs Gs E Fz Sb Rd κ bot' o ρ V d fr' w) r o (G fr' bot') w:=
  λht hm _ _ _ _ F he O T j A=>⟨.leaf,λw₁ M=>⟨_,_,_,_,rfl,ht,F,keep he j A M,O,hm,j,A,T⟩⟩
 induction h with
 | @done d Y V t he=>
   intro ρ fr' cs' w o Bc F hc a Ja hΛ K T j A _ _;obtain⟨rfl,hm⟩:=hE.at_ _ _ _ he;obtain rfl:=hc.bot_iff rfl;have hd:d.defers=[]:=hE.defers _ _ _ he;exact z ⟨t,he⟩ ⟨hm,hd⟩ F Ja hΛ T j A
 | @step d Y V nf nc nV ne Al hh ih=>
   intro ρ fr' cs' w o Bc F hc a Ja hΛ K T j A b4 Rn;by_cases Gi:Y=[trap]/\d.mode= .returning/\d.defers=[]
   .obtain⟨rfl,hm,hd⟩:=Gi;obtain rfl:=hc.bot_iff rfl;exact z (BQ hE Bc.fro hm hd (.step nf nc nV ne Al hh)) ⟨hm,hd⟩ F Ja hΛ T j A
   .refine GoT.step rfl λw₁ M=> ?_
    have Ol:=keep Ja j A M;have Pu:=bk Ol;have hm:∀b,Live V b->Live V b/\reN ρ V w₁ b=ρ b:=λb a=>⟨a,OP a.lt⟩
    have Ah:=Al (reT V w₁);rcases MY hs (V:=retape (reT V w₁) V) (λg B=>(K g B).1) (Bc.retape _)with B4|⟨a4,b1,V1,es,e,Di,_,_,_⟩|C1
    .exfalso;rcases B4 with⟨o,V1,es,e⟩|⟨a4,V1,es,e,hp⟩
     .rw[e]at Ah;cases Ah
     .rw[e]at Ah;injection Ah with g1 g2 g3;obtain⟨q1,q2⟩:=Y8 g1;have h2:=hh (reT V w₁);rw[<-q1,<-q2,<-g2]at h2;exact HK hE h2 hp
    .rw[e]at Ah;injection Ah with g1 g2 g3;obtain⟨q1,q2⟩:=Y8 g1;have a3:=EW (V:=retape (reT V w₁) V) (w:=w₁) (bot:=[trap]) (bot':=bot') I6 (λg B=>⟨(K g B).1,(hm g (K g B).1).2.trans (K g B).2⟩) (mn:=Z) (mn':=ND) Pu hΛ (F.mono hm) (hc.mono hm) a;rcases a3 with(⟨_,V2,X,e2,_⟩|⟨b0,V2,a7,W,w1,X,e2,_,A8,_⟩)|⟨b0,_,V2,a7,W,a5,w1,X,e2,⟨a9,e3⟩,ht,Dq,Aw,Gc,a8,u⟩|C1
     .rw[e]at e2;cases e2
     .rw[e]at e2;injection e2 with a0 a2 b2;obtain⟨rfl,_⟩:=Y8 a0;obtain⟨c,hc⟩:=A8;rcases Di.fro.mode.2 with hm|hm<;>(rw[hc]at hm;cases hm)
     .rw[e]at e2;injection e2 with a0 a2 b2;obtain⟨rfl,rfl⟩:=Y8 a0;subst a2;have e3:=e3 w₁.tape (λ_ _ _=>rfl);have e4:retape w₁.tape w1=w1:=(by unfold retape;rw[<-a9.2]);simp only[Vt]at e3;rw[e4]at e3;have Tc:C<w₁.heap.size:=YS b4 M.size;have a1:∀b,Fz b->b<V.heap.size:=Ol.fz;have Bg:∀b,Live V b->reN ρ V w₁ b=ρ b:=λb a=>(hm b a).2
      have Df:∀b,Live V1 b->¬Fz b->grow o w₁ w1 (reN ρ V w₁ b):=by
       intro b a Cz;rcases u.newly b a with h0|h0
       .have h0:Live V b:=h0;rw[Bg b h0];exact .inl (j b h0 Cz)
       .have h0:V.heap.size<=b:=h0;refine .inr ⟨?_,Gc.lt a⟩;unfold reN;rw[XB OA];omega
      have Td:∀b,Live V1 b->Fz b->Rd (reN ρ V w₁ b)/\¬Sb (reN ρ V w₁ b):=by
       intro b a Mh;have A5:=a1 b Mh;rcases u.newly b a with h0|h0
       .have h0:Live V b:=h0;rw[Bg b h0];exact A b h0 Mh
       .have h0:V.heap.size<=b:=h0;omega
      have hD:DWo Wg C n Sb k Rd o w₁ w1 X:=by
       have y:w1.heap[C]? =w₁.heap[C]? :=u.stay C Tc λb a Cz e=>Rn (by have a:Live V b:=a;rw[Bg b a]at e;rw[<-e];exact j b a Cz)
       refine⟨λb F2 Fh _=>u.stay b F2 λb' H Cz e=>Fh (by have H:Live V b':=H;rw[Bg b' H]at e;rw[<-e];exact j b' H Cz),fun⟨cc,Ga,Dq⟩=>⟨cc,y.trans Ga,Dq⟩,λi _=>by simp[World.cell?,y],u.size,u.tape,u.os,u.output,λev C3=> ?_⟩;rcases u.evs ev C3 with⟨ad,wr,rfl,O,b3⟩|⟨r,wr,rfl,O,Cz⟩|rfl
       .have A5:(Zl (reN ρ V w₁) ad).block<w1.heap.size:=Gc.lt O;refine⟨⟨λx L=> ?_,by simp[T3]⟩,A5⟩;simp only[ofEvent_cell0,MemAct.touch?,XM]at L;subst L;by_cases Mh:Fz ad.block
        .right;right;right
         obtain⟨h1,h2⟩:=Td _ O Mh;refine⟨.inl ⟨_,rfl,h1⟩,?_,?_⟩
         .rintro⟨ad',e,Hn⟩;cases e;exact h2 Hn
         .cases wr with
          |false=>rfl
          |true=>exact absurd Mh (b3 rfl)
        .right;left
         exact .inl ⟨_,rfl,Df _ O Mh⟩
       .have A5:reN ρ V w₁ r<w1.heap.size:=Gc.lt O;have eo:MemAct.ofEvent ⟨.obj (reN ρ V w₁ r),wr,ND⟩= .access ⟨.obj (reN ρ V w₁ r),wr,ND⟩:=(by cases wr<;>rfl);refine⟨⟨λx L=> ?_,by simp[T3]⟩,by rw[eo];exact A5⟩;rw[eo]at L;simp only[MemAct.touch?,XM]at L;subst L;right;left;exact .inr ⟨_,rfl,Df _ O Cz⟩
       .exact⟨⟨λx L=>(by simp[MemAct.ofEvent,MemAct.touch?]at L),by simp[T3]⟩,trivial⟩
      have Ax:¬grow o w₁ w1 C:=by
       rintro(h1|⟨h1,_⟩)
       .exact Rn h1
       .omega
      have e5:nf (reT V w₁)=a4:=q1.symm;have e6:nc (reT V w₁)=b1:=q2.symm;have e7:nV (reT V w₁)=V1:=g2.symm;have:=ih (reT V w₁) (ρ:=reN ρ V w₁) (fr':=W) (cs':=a5) (w:=w1) (o:=grow o w₁ w1);rw[e5,e6,e7]at this;obtain⟨r,a6⟩:=this Di (aj ht.1 Co) Dq Aw Gc.toEmb a8 (λg B=>⟨u.live g (K g B).1,(Bg g (K g B).1).trans (K g B).2⟩) (λb c Mi=>⟨u.live b (T b c Mi).1,(Bg b (T b c Mi).1).trans (T b c Mi).2⟩) Df Td (YS Tc u.size) Ax;exact⟨_,_,_,r,e3,hD,a6⟩
     .exact absurd ⟨C1.1,C1.2.2.1,C1.2.2.2⟩ Gi
    .exact absurd C1 Gi
end
end
section
open Go.Conc
open Go.ConcN (sumTo upd sumTo_upd upd_ne upd_same)
variable [Ban]
section
variable (P:NO)(fs:Array Func)(Gs:Nat->Bool)
structure RelM(bot':List U)(w0:I)(ρ:Nat->Nat)(Sb:Nat->Prop)(fr:U)(cs:List U)(V:I)(fr':U)(cs':List U)(w:I):Prop where
 self:Self P fs Gs fr cs V
 top:Top P fs Gs ρ (Live V) fr fr'
 cso:CsR P fs Gs ρ (Live V) [trap] bot' cs cs'
 oth:cs=[trap]->FrR P fs Gs ρ (Live V) fr fr'
 hb:cs=[trap]->fr.roundOf=NB
 emb:Emb ρ P.globals.size (λb=>Gs b=Z) V w
 loops:LoopsOk (ZE P fs Gs) V
 glob:∀g,Gs g=Z->Live V g/\ρ g=g
 shun:∀b,Live V b->¬Sb (ρ b)
 sbl:∀b,Sb b->b<w.heap.size
 old:∀b,b<w0.heap.size->w.heap[b]? =w0.heap[b]?
 far:∀b,Live V b->Gs b=ND->w0.heap.size<=ρ b
 grown:w0.heap.size<=w.heap.size
 tape:w.tape=w0.tape
 os:w.os=w0.os
 output:w.output=w0.output
structure MacM(Sb:Nat->Prop)(fr':U)(cs':List U)(gs:Array J)(w:I)(t:Trace)(q:Nat->Nat):Prop where
 main:gs[0]? =NA (G fr' cs')
 leave:Leavers P t gs q
 past:Past (Zu Sb) w.heap.size t
 who:∀op∈t,op.g<gs.size
end
inductive Path(P:NO):U->List U->I->U->List U->I->Prop
 |refl {fr cs V}:Path P fr cs V fr cs V
 |step {fr cs V fr1 cs1 V1 es fr2 cs2 V2} (t):¬(cs=[trap]/\fr.mode= .returning/\fr.defers=[])->stepG P Z (G fr cs) (retape t V)= .go (G fr1 cs1) V1 es->Path P fr1 cs1 V1 fr2 cs2 V2->Path P fr cs V fr2 cs2 V2
section
variable {P:NO}{fs:Array Func}{Gs:Nat->Bool}
def lV{Sb:Nat->Prop}{V w:I}{e:Event}(h:EvOk ρ Fz V e)(u:∀b,Live V b->¬Sb (ρ b))(g:∀b,Live V b->ρ b<w.heap.size):EvL (Zu Sb) w.heap.size e:=by
 rcases h with⟨a,wr,rfl,d,_⟩|⟨r,wr,rfl,d,_⟩|rfl
 .refine evL_cell _ _ ?_ (g _ d);rintro⟨x,c,j⟩;cases c;exact u _ d j
 .refine⟨λx c t=> ?_,OD,OD,?_⟩
  rotate_left
  .cases wr<;>exact g _ d
  simp only[MemAct.ofEvent,MemAct.touch?,XM]at c;subst c;obtain⟨z,y,_⟩:=t;cases y
 .exact⟨λx c=>by simp[MemAct.ofEvent,MemAct.touch?]at c,OD,OD,by simp[MemAct.ofEvent,MemAct.low]⟩
def lr(hs:Solo P fs Gs)(I6:Y5 P fs)(hE:IsEnd E){ρ:Nat->Nat}{Sb:Nat->Prop}{H:U}{cs:List U}{V:I}{fr':U}{cs':List U}{w:I}
 {Y:(Nat->Question->Nat)->U}{X:(Nat->Question->Nat)->List U}{T:(Nat->Question->Nat)->I}{ne:(Nat->Question->Nat)->Array Event}
 (Al:∀t,stepG (Z6 P fs) Z (G H cs) (retape t V)= .go (G (Y t) (X t)) (T t) (ne t))(hh:∀t,Halts (Z6 P fs) E (Y t) (X t) (T t))
 (h:RelM P fs Gs bot' w0 ρ Sb H cs V fr' cs' w)(hf:FrR P fs Gs ρ (Live V) H fr')(O:¬(cs=[trap]/\H.mode= .returning/\H.defers=[])):
 ∃tp fr1' cs1' w1 M,stepG P Z (G fr' cs') w= .go (G fr1' cs1') w1 M/\w.heap.size<=w1.heap.size/\(∀e∈M,EvL (Zu Sb) w1.heap.size e)/\
  RelM P fs Gs bot' w0 (reN ρ V w) Sb (Y tp) (X tp) (T tp) fr1' cs1' w1:=by
 have Pu:=bk h.emb;have hm:∀b,Live V b->Live V b/\reN ρ V w b=ρ b:=λb a=>⟨a,OP a.lt⟩
 have W:∀b,Live V b->reN ρ V w b=ρ b:=λb a=>(hm b a).2
 have B:=Al (reT V w);rcases MY hs (V:=retape (reT V w) V) (λg d=>(h.glob g d).1) (h.self.retape _)with B4|⟨a0,_,V1,M,e,Di,Mm,_,_⟩|C1
 .exfalso;rcases B4 with⟨o,V1,M,e⟩|⟨a0,V1,M,e,hp⟩
  .rw[e]at B;cases B
  .rw[e]at B;injection B with g1 g2 g3;obtain⟨q1,q2⟩:=Y8 g1;have h2:=hh (reT V w);rw[<-q1,<-q2,<-g2]at h2;exact HK hE h2 hp
 .rw[e]at B;injection B with g1 g2 g3;obtain⟨q1,q2⟩:=Y8 g1;have L:=EW (V:=retape (reT V w) V) (w:=w) (bot:=[trap]) (bot':=bot') I6 (λg d=>⟨(h.glob g d).1,(hm g (h.glob g d).1).2.trans (h.glob g d).2⟩) (mn:=Z) (mn':=Z) Pu h.loops (hf.mono hm) (h.cso.mono hm) h.hb;rcases L with(⟨_,V2,A,e2,_⟩|⟨a1,V2,a2,j,w1,A,e2,_,A8,_⟩)|⟨a1,_,V2,a2,j,y,w1,A,e2,⟨a4,e3⟩,ht,Dq,Aw,Gc,a3,u⟩|C1
  .rw[e]at e2;cases e2
  .rw[e]at e2;injection e2 with z K a5;obtain⟨rfl,_⟩:=Y8 z;obtain⟨c,hc⟩:=A8;rcases Di.fro.mode.2 with hm|hm<;>(rw[hc]at hm;cases hm)
  .rw[e]at e2;injection e2 with z K a5;obtain⟨rfl,rfl⟩:=Y8 z;subst K;have e3:=e3 w.tape (λ_ _ _=>rfl);have e4:retape w.tape w1=w1:=by unfold retape;rw[<-a4.2]
   simp only[Vt]at e3;rw[e4]at e3;have Om:∀b,Live V1 b->¬Sb (reN ρ V w b):=by
    intro b a;rcases u.newly b a with h0|h0
    .have h0:Live V b:=h0;rw[W b h0];exact h.shun b h0
    .have h0:V.heap.size<=b:=h0;intro Hn;have:=h.sbl _ Hn;unfold reN at this;rw[XB OA]at this;omega
   have hR:RelM P fs Gs bot' w0 (reN ρ V w) Sb (Y (reT V w)) (X (reT V w)) (T (reT V w)) j y w1:=by
    rw[<-q1,<-q2,<-g2];refine⟨Di,ht.1,Dq,ht.2,Aw,Gc.toEmb,a3,λg d=>⟨Mm g (h.glob g d).1,(W g (h.glob g d).1).trans (h.glob g d).2⟩,Om,λb a=>YS (h.sbl b a) u.size,λb a=> ?_,λb a d=> ?_,XC h.grown u.size,u.tape.trans h.tape,u.os.trans h.os,u.output.trans h.output⟩
    .refine(u.stay b (YS a h.grown) λF x Cz e=> ?_).trans (h.old b a);have x:Live V F:=x;have d:Gs F=ND:=(by cases hx:Gs F with|false=>rfl|true=>exact absurd hx Cz);have:=h.far F x d;rw[W F x]at e;omega
    .rcases u.newly b a with h0|h0
     .have h0:Live V b:=h0;rw[W b h0];exact h.far b h0 d
     .have h0:V.heap.size<=b:=h0;have:=h.grown;unfold reN;rw[XB OA];omega
   exact⟨reT V w,j,y,w1,A,e3,u.size,λev C3=>lV (u.evs ev C3) Om (λb a=>Gc.lt a),hR⟩
  .exact absurd ⟨C1.1,C1.2.2⟩ O
 .exact absurd C1 O
def RelM.at{ρ:Nat->Nat}{Sb:Nat->Prop}{c:U}{a:List U}{V:I}{fr':U}{cs':List U}{w:I}(h:RelM P fs Gs bot' w0 ρ Sb c a V fr' cs' w)(d:Nat):RelM P fs Gs bot' w0 ρ Sb c a V fr' cs' (w.at d):=
 ⟨h.self,h.top,h.cso,h.oth,h.hb,⟨h.emb.obj,h.emb.inj,h.emb.fz,h.emb.low,h.emb.gV,h.emb.gw⟩,h.loops,h.glob,h.shun,h.sbl,h.old,h.far,h.grown,h.tape,h.os,h.output⟩
def FW{Sb:Nat->Prop}{gs:Array J}{w:I}{sl:Option (Nat×Nat)}{t:Trace}(h:MacM P Sb fr' cs' gs w t q):
 (∃d a,stepT P (crowd gs w sl)=runT P (crowd gs (w.at d) a) 0)\/
 ∃c d a ops Y,stepT P (crowd gs w sl)=(.next (crowd c (w.at d) a),ops)/\MacM P Sb fr' cs' c (w.at d) (t++ops) Y/\sumTo c.size Y<sumTo gs.size q/\∀op∈ops,∃e,Event.mute e=Z/\op.act=MemAct.ofEvent e:=by
 have K:=h.main;have B:=h.leave;have T:(G fr' cs').status= .running:=rfl;have L:∀g∈gs,awake g:=by
  intro g u;obtain⟨i,hi,rfl⟩:=Array.mem_iff_getElem.1 u;rcases TY i with rfl|Dv
  .have:gs[0]=G fr' cs':=by simpa[YN hi]using K
   rw[this];exact awake_of (.inl T)
  .exact awake_of ((B.old i _ Dv (YN hi)).status.elim .inl λx=> .inr (.inr x))
 obtain⟨i,g,d,a,hi,u,W⟩:=crowd_pick (P:=P) (w:=w) (sl:=sl) L ⟨0,_,K,T⟩;rcases TY i with rfl|Dv
 .exact .inl ⟨d,a,W⟩
 .right
  have A:=B.old i g Dv hi;have D8:(i==0)=ND:=by simp;omega
  have M:i<gs.size:=(YF.1 hi).1;cases Id:q i with
  |zero=>rw[Id]at A;rw[A.1]at u;cases u
  |succ k=>
   rw[Id]at A;rcases A with⟨hf,_⟩|⟨_,g',_,X,Pv,O⟩
   .rw[hf]at u;cases u
   have Kd:=RY (P:=P) (sl:=a) (i:=i) hi (by rw[D8];exact Pv (w.at d));have Ba:((gs.map (woken P g g' (w.at d))).setIfInBounds i g').size=gs.size:=OD
   have V:sumTo gs.size (upd q i k)+(k+1)=sumTo gs.size q+k:=by
    have:=sumTo_upd q k id M;simpa[Id]using this
   refine⟨_,d,a,_,upd q i k,W.trans Kd,⟨?_,⟨λj x H F=> ?_,λj H=> ?_⟩,h.past.mute OA X,λop A4=> ?_⟩,by rw[Ba];omega,λop A4=>by obtain⟨e,he,rfl⟩:=XR A4;exact⟨e,X e he,rfl⟩⟩
   .have Ab:i≠0:=OA;rw[YO Ab,Array.getElem?_map,K];simp[woken_run T]
   .by_cases Az:i=j
    .subst Az;rw[YM (by simpa using M)]at F;obtain rfl:=YT F;rw[VK,Deaf_own];exact O
    .rw[YO Az,Array.getElem?_map]at F;obtain⟨y,hy,rfl⟩:=VA.1 F;have z:=B.old j y H hy;rw[woken_quitsD z,upd_ne q k (SJ Az),SS t Az _ (λop A4=>by obtain⟨e,_,rfl⟩:=XR A4;rfl)];exact z
   .rw[SS t (g':=i) (by simp at H;omega) _ (λop A4=>by obtain⟨e,_,rfl⟩:=XR A4;rfl)];exact B.above j (by simpa using H)
   .rw[Ba];rcases UX.1 A4 with A4|A4
    .exact h.who op A4
    .obtain⟨e,_,rfl⟩:=XR A4;exact M
def GO{Sb:Nat->Prop}{gs:Array J}{w:I}{sl:Option (Nat×Nat)}{t:Trace}{d:Array Event}(h:MacM P Sb fr' cs' gs w t q)
 (H:stepG P Z (G fr' cs') w= .go (G fr1' cs1') w1 d)(L:w.heap.size<=w1.heap.size)(B:∀e∈d,EvL (Zu Sb) w1.heap.size e):
 ∃a ops,runT P (crowd gs w sl) 0=(.next (crowd a w1 sl),ops)/\MacM P Sb fr1' cs1' a w1 (t++ops) q/\a.size=gs.size/\∀op∈ops,∃e∈d,op.act=MemAct.ofEvent e:=by
 have A:=RY (P:=P) (sl:=sl) (i:=0) h.main (show stepG P (0==0) (G fr' cs') w=_ from H);have u:0<gs.size:=(YF.1 h.main).1;refine⟨_,_,A,⟨by simp[u],⟨λj x c z=> ?_,λj c=> ?_⟩,(h.past.mono L).own B,λop A4=> ?_⟩,OD,λop A4=>by obtain⟨e,K,rfl⟩:=XR A4;exact⟨e,K,rfl⟩⟩
 .have Ab:0≠j:=OA
  rw[YO Ab,Array.getElem?_map]at z;obtain⟨y,F,rfl⟩:=VA.1 z;have g:=h.leave.old j y c F;rw[woken_quitsD g,SS t OA _ (λop A4=>by obtain⟨e,_,rfl⟩:=XR A4;rfl)];exact g
 .rw[SS t (g':=0) (by simp at c;omega) _ (λop A4=>by obtain⟨e,_,rfl⟩:=XR A4;rfl)];exact h.leave.above j (by simpa using c)
 .simp only[Array.size_setIfInBounds,Array.size_map];rcases UX.1 A4 with A4|A4
  .exact h.who op A4
  .obtain⟨e,_,rfl⟩:=XR A4;exact u
def OT(P:NO)(fs:Array Func)(Gs:Nat->Bool)(E:U->List U->I->Prop)(bot':List U)(w0:I)(m:Machine)(t:Trace):Prop:=
 ∃ρ Sb a V fr' gs w c q,m=crowd gs w c/\RelM P fs Gs bot' w0 ρ Sb a [trap] V fr' bot' w/\FrR P fs Gs ρ (Live V) a fr'/\MacM P Sb fr' bot' gs w t q/\(∃t,E a [trap] (retape t V))/\a.mode= .returning/\a.defers=[]
def J8(P:NO)(fs:Array Func)(Gs:Nat->Bool)(E:U->List U->I->Prop)(bot':List U)(w0:I):Prop:=
 ∀(f:NS)(a c:Array NM)(h cs':List U)(V:I)(ρ:Nat->Nat)(Sb:Nat->Prop)(gs:Array J)(w:I)(x:Option (Nat×Nat))(t:Trace)(q:Nat->Nat),
  ¬Tm P fs Gs f->Ent P fs f->(Ban.ban f=Z->a.size=Ban.arity f)->AR ρ (Live V) a c->h≠[trap]->Halts (Z6 P fs) E (Frame.enter (Z6 P fs) f a .normal) h V->
  RelM P fs Gs bot' w0 ρ Sb (Frame.enter (Z6 P fs) f a .normal) h V (Frame.enter P f c .normal) cs' w->MacM P Sb (Frame.enter P f c .normal) cs' gs w t q->
  ∃N m' t' ρ1 d g c u fr1' cs1' e w1 j q1,runNT P N (crowd gs w x) t=(.next m',t')/\m'=crowd e w1 j/\Path (Z6 P fs) (Frame.enter (Z6 P fs) f a .normal) h V g c u/\c≠h/\
   RelM P fs Gs bot' w0 ρ1 d g c u fr1' cs1' w1/\MacM P d fr1' cs1' e w1 t' q1
def Q9{P:NO}{t:Trace}{r:Stepped×Trace}(h:stepT P m=(.next m',ops)){N:Nat}(a:runNT P N m' (t++ops)=r):runNT P (N+1) m t=r:=by
 simp only[runNT,h];exact a
def runNT_add{P:NO}:∀{N c:Nat}{m:Machine}{t:Trace}{r:Stepped×Trace},runNT P N m t=(.next m',t')->runNT P c m' t'=r->∃a,runNT P a m t=r:=by
 intro N
 induction N with
 |zero=>
  intro c m t r h d;simp only[runNT,SV,UK]at h;obtain⟨rfl,rfl⟩:=h;exact⟨c,d⟩
 |succ N g=>
  intro c m t r h d;cases e:stepT P m with
  |mk s ops=>
   cases s with
   |next _=>
    rw[Q9 e rfl]at h;obtain⟨a,j⟩:=g h d;exact⟨a+1,Q9 e j⟩
   |ended o w1=>
    simp only[runNT,e,SV,reduceCtorEq,false_and]at h
def MacM.at{Sb:Nat->Prop}{fr':U}{cs':List U}{gs:Array J}{w:I}{t:Trace}{q:Nat->Nat}(h:MacM P Sb fr' cs' gs w t q)(d:Nat):MacM P Sb fr' cs' gs (w.at d) t q:=⟨h.main,h.leave,h.past,h.who⟩
def CE(hs:Solo P fs Gs)(I6:Y5 P fs)(hE:IsEnd E)(hP:J8 P fs Gs E bot' w0){u:U}{h:List U}{V:I}
 {L:(Nat->Question->Nat)->U}{H:(Nat->Question->Nat)->List U}{B:(Nat->Question->Nat)->I}{ne:(Nat->Question->Nat)->Array Event}
 (Al:∀t,stepG (Z6 P fs) Z (G u h) (retape t V)= .go (G (L t) (H t)) (B t) (ne t))(hh:∀t,Halts (Z6 P fs) E (L t) (H t) (B t))
 (ih:∀g,∀{y:U}{x:List U}{V2:I},Path (Z6 P fs) (L g) (H g) (B g) y x V2->∀{ρ:Nat->Nat}{Sb:Nat->Prop}{fr':U}{cs':List U}{gs:Array J}{w:I}{sl:Option (Nat×Nat)}{t:Trace}{q:Nat->Nat},
   RelM P fs Gs bot' w0 ρ Sb y x V2 fr' cs' w->MacM P Sb fr' cs' gs w t q->∃N m' t',runNT P N (crowd gs w sl) t=(.next m',t')/\OT P fs Gs E bot' w0 m' t')
 (Gi:¬(h=[trap]/\u.mode= .returning/\u.defers=[])){ρ:Nat->Nat}{Sb:Nat->Prop}{fr':U}{cs':List U}{gs:Array J}{w:I}{sl:Option (Nat×Nat)}{t:Trace}{q:Nat->Nat}
 (A:RelM P fs Gs bot' w0 ρ Sb u h V fr' cs' w)(Y:MacM P Sb fr' cs' gs w t q)
 (hl:∀c d a ops K,sumTo c.size K<sumTo gs.size q->stepT P (crowd gs w sl)=(.next (crowd c (w.at d) a),ops)->RelM P fs Gs bot' w0 ρ Sb u h V fr' cs' (w.at d)->MacM P Sb fr' cs' c (w.at d) (t++ops) K->
   ∃N m' t',runNT P N (crowd gs w sl) t=(.next m',t')/\OT P fs Gs E bot' w0 m' t'):
 ∃N m' t',runNT P N (crowd gs w sl) t=(.next m',t')/\OT P fs Gs E bot' w0 m' t':=by
 have z:∀F:FrR P fs Gs ρ (Live V) u fr',∃N m' t',runNT P N (crowd gs w sl) t=(.next m',t')/\OT P fs Gs E bot' w0 m' t':=by
  intro F;rcases FW (sl:=sl) Y with⟨d,a,X⟩|⟨c,d,a,ops,K,X,a1,A5,_⟩
  .obtain⟨g,fr1',cs1',w1,es,Ax,Ba,Ho,E4⟩:=lr hs I6 hE Al hh (A.at d) F Gi;obtain⟨O,ops,Aj,I8,_⟩:=GO (sl:=a) (Y.at d) Ax Ba Ho;obtain⟨N,m',t',j,W⟩:=ih g .refl (sl:=a) E4 I8;exact⟨N+1,m',t',Q9 (X.trans Aj) j,W⟩
  .exact hl c d a ops K A5 X (A.at d) a1
 cases htop:A.top with
 |own F=>exact z F
 |other j W Rj h3=>
  by_cases An:h=[trap]
  .exact z (A.oth An)
  .obtain⟨N,m',t',ρ1,Sb1,fr1,cs1,V1,fr1',cs1',O,w1,sl1,q1,Aj,rfl,Ke,Ab,E4,I8⟩:=hP _ _ _ h cs' V ρ Sb gs w sl t q j W Rj h3 An (.step L H B ne Al hh) A Y;cases Ke with
   |refl=>exact absurd rfl Ab
   |step g _ e p=>
    have j:=Al g;rw[e]at j;injection j with g1 g2 _;obtain⟨T,a3⟩:=Y8 g1;rw[T,a3,g2]at p;obtain⟨_,M,a0,h3,h4⟩:=ih g p (sl:=sl1) E4 I8;obtain⟨a2,h5⟩:=runNT_add Aj h3;exact⟨a2,M,a0,h5,h4⟩
def oL(hs:Solo P fs Gs)(I6:Y5 P fs)(A:IsEnd E)(hP:J8 P fs Gs E bot' w0){a:U}{z:List U}{V:I}(h:Halts (Z6 P fs) E a z V):
 ∀{x:U}{u:List U}{O:I},Path (Z6 P fs) a z V x u O->∀{ρ:Nat->Nat}{Sb:Nat->Prop}{fr':U}{cs':List U}{gs:Array J}{w:I}{j:Option (Nat×Nat)}{t:Trace}{q:Nat->Nat},
  RelM P fs Gs bot' w0 ρ Sb x u O fr' cs' w->MacM P Sb fr' cs' gs w t q->∃N m' t',runNT P N (crowd gs w j) t=(.next m',t')/\OT P fs Gs E bot' w0 m' t':=by
 have H:∀{a:U}{V:I},(∃t,E a [trap] (retape t V))->a.mode= .returning->a.defers=[]->∀{ρ:Nat->Nat}{Sb:Nat->Prop}{fr':U}{cs':List U}{gs:Array J}{w:I}{j:Option (Nat×Nat)}{t:Trace}{q:Nat->Nat},
  RelM P fs Gs bot' w0 ρ Sb a [trap] V fr' cs' w->MacM P Sb fr' cs' gs w t q->∃N m' t',runNT P N (crowd gs w j) t=(.next m',t')/\OT P fs Gs E bot' w0 m' t':=by
  intro a V F y K ρ Sb fr' cs' gs w j t q c g;obtain rfl:=c.cso.bot_iff rfl;exact⟨0,_,_,rfl,ρ,Sb,a,V,fr',gs,w,j,q,rfl,c,c.oth rfl,g,F,y,K⟩
 induction h with
 | @done a z V t F=>
   obtain⟨rfl,y⟩:=A.at_ _ _ _ F;intro x u O Y ρ Sb fr' cs' gs w j _ q c g;cases Y with|refl=>exact H ⟨t,F⟩ y (A.defers _ _ _ F) c g|step _ Ab _ _=>exact absurd ⟨rfl,y,A.defers _ _ _ F⟩ Ab
 | @step a z V nf nc nV ne L hh ih=>
   intro x u O Y ρ Sb fr' cs' gs w j t q c g;cases Y with
   |step B Ab e p=>
    have M:=L B;rw[e]at M;injection M with g1 g2 _;obtain⟨q1,q2⟩:=Y8 g1;rw[q1,q2,g2]at p;exact ih B p c g
   |refl=>
    by_cases T:z=[trap]/\a.mode= .returning/\a.defers=[]
    .obtain⟨rfl,y,K⟩:=T;exact H (BQ A c.self.fro y K (.step nf nc nV ne L hh)) y K c g
    .have inner:∀(k:Nat){ρ:Nat->Nat}{Sb:Nat->Prop}{fr':U}{cs':List U}{gs:Array J}{w:I}{j:Option (Nat×Nat)}{t:Trace}{q:Nat->Nat},
      sumTo gs.size q<=k->RelM P fs Gs bot' w0 ρ Sb a z V fr' cs' w->MacM P Sb fr' cs' gs w t q->∃N m' t',runNT P N (crowd gs w j) t=(.next m',t')/\OT P fs Gs E bot' w0 m' t':=by
      intro k
      induction k with
      |zero=>
       intro ρ Sb fr' cs' gs w j t q hk c g;exact CE hs I6 A hP L hh (λB=>ih B) T c g λW d a2 ops q' A5 _ _ _=>by omega
      |succ k a1=>
       intro ρ Sb fr' cs' gs w j t q hk c g
       exact CE hs I6 A hP L hh (λB=>ih B) T c g λW d a2 ops q' A5 Ah X a0=>by
        obtain⟨N,m',t',M,h2⟩:=a1 OA X a0;exact⟨N+1,m',t',Q9 Ah M,h2⟩
     exact inner _ (XA _) c g
end
end
section
open Go.Conc
open Go.ConcN (sumTo)
variable [Ban]
def KY(P:NO)(f:NS)(t:Tmp)(R:NM->I->Prop)(a:U)(c:List U)(V:I):Prop:=
 c=[trap]/\a.fn=f/\a.mode= .returning/\a.defers=[]/\R (a.tmps.getD t undef) V
section
variable {P:NO}{fs:Array Func}{Gs:Nat->Bool}
def Gl(a:∀t v V,R v V->R v (retape t V)):IsEnd (KY P f tr R):=
 ⟨λ_ _ _ h=>⟨h.1,h.2.2.1⟩,λ_ _ _ h=>h.2.2.2.1,λ_ _ _ _ h=>⟨h.1,h.2.1,h.2.2.1,h.2.2.2.1,a _ _ _ h.2.2.2.2⟩⟩
def bH{V:I}(x:P.funcs[f]? =NA fn)(z:fn.results= #[.tmp tr])
 (h:∀t,NW P f args (retape t V) λe d=>∃v,e= .returned v/\R v d):MZ P (KY P f tr R) (Frame.enter P f args .normal) [trap] V:=by
 intro t;obtain⟨e,d,B,⟨v,rfl,y⟩,⟨n,A⟩,a,u,j,_,_,c,g⟩:=h t [trap];rw[a,x]at c;cases c;rw[RR z]at g;cases g;exact⟨n,B,[trap],d,A,rfl,a,u,j,y⟩
end
def runNT_cat{P:NO}:∀{N a:Nat}{m:Machine}{t:Trace}{r:Stepped×Trace},runNT P N m t=(.next m',t')->runNT P a m' t'=r->runNT P (N+a) m t=r:=by
 intro N
 induction N with
 |zero=>
  intro a m t r h c;simp only[runNT,SV,UK]at h;obtain⟨rfl,rfl⟩:=h;rw[VD];exact c
 |succ N d=>
  intro a m t r h c;cases e:stepT P m with
  |mk s ops=>
   cases s with
   |next _=>
    rw[Q9 e rfl]at h;rw[Nat.succ_add];exact Q9 e (d h c)
   |ended o w1=>simp only[runNT,e,SV,reduceCtorEq,false_and]at h
structure Start[Ban](Gs:Nat->Bool)(G:Nat)(V w:I):Prop where
 emb:Emb id G (λb=>Gs b=Z) V w
 self:Sim id G (λ_=>False) V V
 loops:∀(b:Nat)(l:Loop),V.heap[b]? ≠NA (Obj.loop l)
 live:∀g,Gs g=Z↔Live V g
end
end Go.Nk
namespace Go.Proofs.Tryq
section
open Go.Nk
abbrev theBan:Ban:=⟨λf=>f==114,λ_=>1,Z⟩
attribute [local instance] theBan
def stub:Func:={name:= "",origin:= "",params:= #[],resultTypes:= #[],nfree:=0,ntmps:=0,results:= #[],body:=NB,norace:=ND,tmpNames:= #[]}
def op(d:Option Tmp)(o:Op):Oper:={dst:=d,op:=o,type:=0,pos:= "",after:= #[],guard:=NB}
def kRule:Array Oper:= #[
 op (NA 9) (.build 136 #[(0,.tmp 0)]),
 op (NA 1) (.field 132 (.tmp 0) 0),op (NA 2) (.field 31 (.tmp 1) 0),op (NA 3) (.field 31 (.tmp 1) 1),
 op (NA 4) (.field 28 (.tmp 2) 0),op (NA 5) (.field 28 (.tmp 2) 1),op (NA 6) (.field 28 (.tmp 2) 2),op (NA 7) (.field 28 (.tmp 2) 3),
 op (NA 8) (.binOp .leq 3 (.tmp 4) (.const (NE NF 0)) 3),op (NA 8) (.binOp .leq 3 (.tmp 5) (.const (NE NF 0)) 3),op (NA 8) (.binOp .leq 3 (.tmp 6) (.const (NE NF 0)) 3),op (NA 8) (.binOp .leq 3 (.tmp 7) (.const (NE NF 0)) 3),
 op (NA 10) (.call {callee:= .builtin .len,args:= #[.tmp 3],argTypes:= #[29]}),op (NA 11) (.binOp .leq 3 (.tmp 10) (.const (NE NF 8)) 3),op (NA 12) (.move (.const (NE NF 0)))]
def kShot:Array Oper:= #[
 op (NA 14) (.indexAddr 29 (.tmp 3) (.tmp 12)),op (NA 15) (.fieldAddr 75 (.tmp 14) 0),op (NA 16) (.load 3 (.tmp 15)),
 op (NA 17) (.fieldAddr 75 (.tmp 14) 1),op (NA 18) (.fieldAddr 49 (.tmp 17) 0),op (NA 19) (.load 3 (.tmp 18)),op (NA 20) (.fieldAddr 49 (.tmp 17) 1),op (NA 21) (.load 3 (.tmp 20)),
 op (NA 22) (.fieldAddr 75 (.tmp 14) 2),op (NA 23) (.load 3 (.tmp 22)),op (NA 24) (.fieldAddr 75 (.tmp 14) 3),op (NA 25) (.load 3 (.tmp 24)),
 op (NA 26) (.binOp .leq 3 (.tmp 19) (.const (NE NF 0)) 3),op (NA 26) (.binOp .leq 3 (.tmp 21) (.const (NE NF 0)) 3),op (NA 26) (.binOp .leq 3 (.tmp 23) (.const (NE NF 0)) 3),op (NA 26) (.binOp .leq 3 (.tmp 25) (.const (NE NF 0)) 3),
 op (NA 28) (.binOp .leq 3 (.const (NE NF 0)) (.tmp 16) 3),op (NA 29) (.binOp .leq 3 (.tmp 16) (.const (NE NF 90)) 3)]
def kNext:Array Oper:= #[op (NA 30) (.binOp .add 3 (.tmp 12) (.const (NE NF 1)) 3),op (NA 12) (.move (.tmp 30))]
def kTest:Array Oper:= #[op (NA 13) (.binOp .lss 3 (.tmp 12) (.tmp 10) 3)]
def kCheck:Code:= .seq (.region 1 kTest ND) (.seq (.cond (.tmp 13) .skip (.exit 0)) (.seq (.region 2 kShot ND) (.seq (.cond (.tmp 28) .skip (.exit 9)) (.seq (.cond (.tmp 29) .skip (.exit 9)) (.region 3 kNext ND)))))
def kMake:Array Oper:= #[op (NA 31) (.makeSlice 134 (.tmp 10) (.tmp 10)),op (NA 12) (.move (.const (NE NF 0)))]
def kOne:Array Oper:= #[op (NA 32) (.call {callee:= .value (.func 141),args:= #[.tmp 0,.tmp 12],argTypes:= #[132,3]}),op (NA 33) (.indexAddr 134 (.tmp 31) (.tmp 12)),op NB (.store 188 (.tmp 33) (.tmp 32))]
def kBuild:Code:= .seq (.region 5 kTest ND) (.seq (.cond (.tmp 13) .skip (.exit 1)) (.seq (.region 6 kOne ND) (.region 7 kNext ND)))
def kBody:Code:= .seq (.region 0 kRule ND) (.seq (.cond (.tmp 11) .skip (.exit 9)) (.seq (.block 0 (.loop kCheck)) (.seq (.region 4 kMake ND) (.seq (.block 1 (.loop kBuild)) .ret))))
def kf:Func:={name:= "",origin:= "",params:= #[132],resultTypes:= #[134],nfree:=0,ntmps:=34,results:= #[.tmp 31],body:=NA kBody,norace:=ND,tmpNames:= #[]}
def keptList:List Nat:=[5,6,13,17,18,19,20,21,22,23,24,25,26,27,28,29,30,31,32,33,34,35,36,43,52,53,54,55,56,57,58,59,60,61,62,63,64,65,66,67,68,69,70,71,72,73,74,75,76,77,78,79,82,83,97,98,99,100,101,102,103,104,105,106,107,108,109,110,111,112,113,115,116,117,118,119,137,141,144,145,146,147,180,181,182,279,280,281,282,283,284]
noncomputable def fs:Array Func:=Tryz.prog.funcs.mapIdx λi f=>if keptList.contains i then f else if i==114 then kf else stub
def Gs:Nat->Bool:=λg=>decide (g<7)
def kept_same(i)(hi:i∈keptList):fs[i]? =Tryz.prog.funcs[i]? :=by
 unfold fs;rw[Array.getElem?_mapIdx];cases Tryz.prog.funcs[i]? with|none=>rfl|some f=>simp only[XN,VS.2 hi,XY]
class Tw where
 fs:Array Func
 same:∀i∈keptList,fs[i]? =Tryz.prog.funcs[i]?
noncomputable def gp[Tw]:NO:=Z6 NX Tw.fs
noncomputable instance (priority:=low) k2:Tw:=⟨fs,kept_same⟩
noncomputable abbrev prog:NO:=gp
def bM{f:Nat}{g:Func}(h:fs[f]? =NA g):f∈keptList/\Tryz.prog.funcs[f]? =NA g\/f=114/\g=kf\/g=stub:=by
 unfold fs at h;rw[Array.getElem?_mapIdx]at h;cases hf:Tryz.prog.funcs[f]? with
 |none=>rw[hf]at h;cases h
 |some _=>
  rw[hf]at h;simp only[XN,XM]at h;split at h
  .rename_i hk;exact .inl ⟨VS.1 hk,by rw[h]⟩
  .split at h
   .rename_i _ hk;exact .inr (.inl ⟨eq_of_beq hk,h.symm⟩)
   .exact .inr (.inr h.symm)
def fs114:fs[114]? =NA kf:=by unfold fs;rw[Array.getElem?_mapIdx];kernel_rfl
def fs_size:fs.size=299:=by unfold fs;rw[Array.size_mapIdx];kernel_rfl
def okG(f:Func):Bool:= !(f.name== "runtime.NumGoroutine")&&f.body.isSome
noncomputable def okF(n:Nat):Bool:=match Tryz.prog.funcs[n]? with
 |some f=>okG f
 |none=>ND
def okF_all:keptList.all okF=Z:=OB
def dJ{f:Nat}{g:Func}(h:f∈keptList)(c:Tryz.prog.funcs[f]? =NA g):(g.name== "runtime.NumGoroutine")=ND/\g.body.isSome=Z:=by
 have a:=YL.1 okF_all f h;unfold okF at a;rw[c]at a;simpa[okG]using a
def L9{P:NO}(h:∀f∈keptList,P.funcs[f]? =Tryz.prog.funcs[f]?){g:Func}(u:P.funcs[114]? =NA g)(j:okG g=Z)(t:P.info? 1000000000=NB):Y5 P fs:=by
 refine⟨λf a c=> ?_,t⟩;rcases bM c with⟨e,d⟩|⟨rfl,rfl⟩|rfl
 .have h5:=dJ e d;exact .inr ⟨a,a,c,(h f e).trans d,h5.2,h5.2,h5.1,h5.1⟩
 .have h5:(g.name== "runtime.NumGoroutine")=ND/\g.body.isSome=Z:=by simpa[okG]using j
  exact .inr ⟨kf,g,c,u,rfl,h5.2,OB,h5.1⟩
 .exact .inl OB
def fsOk:Y5 NX fs:=L9 (λ_ _=>rfl) Tryz.func114 OB OB
def prog_fs:prog.funcs=fs:=OB
def fsOkS:Y5 prog fs:=L9 (λf h=>by rw[prog_fs];exact kept_same f h) (by rw[prog_fs];exact fs114) OB OB
def tmB(P:NO)(Gs:Nat->Bool)(i:Nat):Bool:=match P.funcs[i]? with
 |some fn=>(match fn.body with|some c=>Zn P Gs c|none=>ND)
 |none=>ND
def Jf{P:NO}{fs:Array Func}{Gs:Nat->Bool}(h:tmB P Gs i=Z)(a:fs[i]? =P.funcs[i]?):Tm P fs Gs i:=by
 unfold tmB at h;split at h
 .rename_i fn hfn;split at h
  .rename_i c hc;exact⟨fn,c,a.trans hfn,hfn,hc,h⟩
  .cases h
 .cases h
def kept_tm:keptList.all (tmB NX Gs)=Z:=OB
noncomputable def tmC(i:Nat):Bool:=match Tryz.prog.funcs[i]? with
 |some fn=>(match fn.body with|some c=>Zn prog Gs c|none=>ND)
 |none=>ND
def all_tm:keptList.all tmC=Z:=OB
def kf_tm:Zn prog Gs kBody=Z:=OB
def ent_kept{P:NO}(h:Ent P fs f):f∈keptList\/f=114:=by
 obtain⟨_,fn,a,_,c,_⟩:=h;rcases bM a with h|h|rfl
 .exact .inl h.1
 .exact .inr h.1
 .cases c
def tm(h:f∈keptList):Tm NX fs Gs f:=Jf (YL.1 kept_tm f h) (kept_same f h)
def solo:Solo NX fs Gs:=⟨fsOkS,λf a=>by
 refine Jf (P:=prog) ?_ (by rw[prog_fs]);unfold tmB;rw[prog_fs];rcases ent_kept a with h|rfl
 .have h1:=YL.1 all_tm f h;rw[kept_same f h];exact h1
 .rw[fs114];exact kf_tm⟩
section
variable (P:NO)(gs:Array Func)(n:NT)(w:I)
def wf_typeInfo:(typeInfo n).run (Z6 P gs) w=(typeInfo n).run P w:=by
 unfold typeInfo;simp[go_sem];cases P.info? n<;>rfl
def wf_sizeOf:(Go.sizeOf n).run (Z6 P gs) w=(Go.sizeOf n).run P w:=by
 unfold Go.sizeOf;simp[go_sem,wf_typeInfo]
def wf_underlying:(underlying n).run (Z6 P gs) w=(underlying n).run P w:=by
 unfold underlying;simp[go_sem];cases P.underlying n<;>rfl
def wf_isAgg:(isAgg n).run (Z6 P gs) w=(isAgg n).run P w:=by
 unfold isAgg;simp[go_sem,wf_underlying];congr 1;funext a _;cases a<;>rfl
def wf_zeroValue:(zeroValue n).run (Z6 P gs) w=(zeroValue n).run P w:=by
 unfold zeroValue;simp[go_sem,wf_typeInfo];congr 1;funext a _;cases a.zero<;>rfl
end
def Z7{P:NO}(a:P.funcs[f]? =NA fn)(c:(fn.name== "runtime.NumGoroutine")=ND)(d:fn.body.isNone=ND)(args:Array NM)(w:I):(callFunc f args).run P w= .ok (.enter f args) w:=by
 unfold callFunc;simp only[UH,run_program,Result.andThen,a,c,d,YR,VF];rfl
section
variable [Tw]
@[simp] def toTables_eq:gp.toTables=Tryz.prog.toTables:=rfl
@[simp] def run_typeInfo (n:NT) (w:I):(typeInfo n).run gp w=(typeInfo n).run NX w:=wf_typeInfo NX Tw.fs n w
@[simp] def run_sizeOf (n:NT) (w:I):(Go.sizeOf n).run gp w=(Go.sizeOf n).run NX w:=wf_sizeOf NX Tw.fs n w
@[simp] def underlying_eq (n:NT):gp.underlying n=Tryz.prog.underlying n:=Xb NX Tw.fs n
@[simp] def run_underlying (n:NT) (w:I):(underlying n).run gp w=(underlying n).run NX w:=wf_underlying NX Tw.fs n w
@[simp] def run_isAgg (n:NT) (w:I):(isAgg n).run gp w=(isAgg n).run NX w:=wf_isAgg NX Tw.fs n w
@[simp] def run_zeroValue (n:NT) (w:I):(zeroValue n).run gp w=(zeroValue n).run NX w:=wf_zeroValue NX Tw.fs n w
def ZV{n:Nat}(h:keptList.contains n=Z)(a:Tryz.prog.funcs[n]? =NA fn):gp.funcs[n]? =NA fn:=(Tw.same n (VS.1 h)).trans a
class Kt(n:Nat):Prop where
 h:keptList.contains n=Z
def fk{n:Nat}{f:Func}[k:Kt n](h:Tryz.prog.funcs[n]? =NA f):gp.funcs[n]? =NA f:=(Tw.same n (VS.1 k.h)).trans h
@[simp] def Sm (n:Nat) [k:Kt n] (a w):(callFunc n a).run gp w= .ok (.enter n a) w:=by
  have d:=VS.1 k.h;cases hf:Tryz.prog.funcs[n]? with
  |none=>
   have c:=YL.1 okF_all n d;unfold okF at c;rw[hf]at c;cases c
  |some f=>
   have h:=dJ d hf;exact Z7 (fk hf) h.1 (by rw[Option.isNone_eq_false_iff];exact h.2) a w
instance :Kt 5:=⟨rfl⟩
instance :Kt 6:=⟨rfl⟩
instance :Kt 13:=⟨rfl⟩
instance :Kt 17:=⟨rfl⟩
instance :Kt 18:=⟨rfl⟩
instance :Kt 19:=⟨rfl⟩
instance :Kt 20:=⟨rfl⟩
instance :Kt 21:=⟨rfl⟩
instance :Kt 22:=⟨rfl⟩
instance :Kt 23:=⟨rfl⟩
instance :Kt 24:=⟨rfl⟩
instance :Kt 25:=⟨rfl⟩
instance :Kt 26:=⟨rfl⟩
instance :Kt 27:=⟨rfl⟩
instance :Kt 28:=⟨rfl⟩
instance :Kt 29:=⟨rfl⟩
instance :Kt 30:=⟨rfl⟩
instance :Kt 31:=⟨rfl⟩
instance :Kt 32:=⟨rfl⟩
instance :Kt 33:=⟨rfl⟩
instance :Kt 34:=⟨rfl⟩
instance :Kt 35:=⟨rfl⟩
instance :Kt 36:=⟨rfl⟩
instance :Kt 43:=⟨rfl⟩
instance :Kt 52:=⟨rfl⟩
instance :Kt 53:=⟨rfl⟩
instance :Kt 54:=⟨rfl⟩
instance :Kt 55:=⟨rfl⟩
instance :Kt 56:=⟨rfl⟩
instance :Kt 57:=⟨rfl⟩
instance :Kt 58:=⟨rfl⟩
instance :Kt 59:=⟨rfl⟩
instance :Kt 60:=⟨rfl⟩
instance :Kt 61:=⟨rfl⟩
instance :Kt 62:=⟨rfl⟩
instance :Kt 63:=⟨rfl⟩
instance :Kt 64:=⟨rfl⟩
instance :Kt 65:=⟨rfl⟩
@[simp] def func65:gp.funcs[65]? =NA Tryz.f65:=fk Tryz.func65
abbrev ntmps65:=Tryz.ntmps65
def call65(a w):(callFunc 65 a).run gp w= .ok (.enter 65 a) w:=Sm 65 a w
instance :Kt 66:=⟨rfl⟩
@[simp] def func66:gp.funcs[66]? =NA Tryz.f66:=fk Tryz.func66
abbrev ntmps66:=Tryz.ntmps66
def call66(a w):(callFunc 66 a).run gp w= .ok (.enter 66 a) w:=Sm 66 a w
instance :Kt 67:=⟨rfl⟩
instance :Kt 68:=⟨rfl⟩
instance :Kt 69:=⟨rfl⟩
instance :Kt 70:=⟨rfl⟩
instance :Kt 71:=⟨rfl⟩
instance :Kt 72:=⟨rfl⟩
instance :Kt 73:=⟨rfl⟩
instance :Kt 74:=⟨rfl⟩
instance :Kt 75:=⟨rfl⟩
instance :Kt 76:=⟨rfl⟩
instance :Kt 77:=⟨rfl⟩
instance :Kt 78:=⟨rfl⟩
instance :Kt 79:=⟨rfl⟩
instance :Kt 82:=⟨rfl⟩
instance :Kt 83:=⟨rfl⟩
instance :Kt 97:=⟨rfl⟩
instance :Kt 98:=⟨rfl⟩
instance :Kt 99:=⟨rfl⟩
instance :Kt 100:=⟨rfl⟩
instance :Kt 101:=⟨rfl⟩
instance :Kt 102:=⟨rfl⟩
instance :Kt 103:=⟨rfl⟩
instance :Kt 104:=⟨rfl⟩
instance :Kt 105:=⟨rfl⟩
instance :Kt 106:=⟨rfl⟩
instance :Kt 107:=⟨rfl⟩
instance :Kt 108:=⟨rfl⟩
instance :Kt 109:=⟨rfl⟩
instance :Kt 110:=⟨rfl⟩
instance :Kt 111:=⟨rfl⟩
instance :Kt 112:=⟨rfl⟩
instance :Kt 113:=⟨rfl⟩
@[simp] def func113:gp.funcs[113]? =NA Tryz.f113:=fk Tryz.func113
abbrev ntmps113:=Tryz.ntmps113
def call113(a w):(callFunc 113 a).run gp w= .ok (.enter 113 a) w:=Sm 113 a w
instance :Kt 115:=⟨rfl⟩
instance :Kt 116:=⟨rfl⟩
instance :Kt 117:=⟨rfl⟩
instance :Kt 118:=⟨rfl⟩
instance :Kt 119:=⟨rfl⟩
instance :Kt 137:=⟨rfl⟩
instance :Kt 141:=⟨rfl⟩
@[simp] def func141:gp.funcs[141]? =NA Tryz.f141:=fk Tryz.func141
abbrev ntmps141:=Tryz.ntmps141
def call141(a w):(callFunc 141 a).run gp w= .ok (.enter 141 a) w:=Sm 141 a w
instance :Kt 144:=⟨rfl⟩
instance :Kt 145:=⟨rfl⟩
instance :Kt 146:=⟨rfl⟩
instance :Kt 147:=⟨rfl⟩
instance :Kt 180:=⟨rfl⟩
instance :Kt 181:=⟨rfl⟩
instance :Kt 182:=⟨rfl⟩
instance :Kt 279:=⟨rfl⟩
instance :Kt 280:=⟨rfl⟩
instance :Kt 281:=⟨rfl⟩
instance :Kt 282:=⟨rfl⟩
instance :Kt 283:=⟨rfl⟩
instance :Kt 284:=⟨rfl⟩
end
@[simp] def func114:prog.funcs[114]? =NA kf:=by rw[prog_fs];exact fs114
@[simp] def ntmps114:kf.ntmps=34:=OB
@[simp] def call114 (args:Array NM) (w:I):(callFunc 114 args).run prog w= .ok (.enter 114 args) w:=Z7 func114 OB OB args w
end
section
open Go.Nk Go.RowKit
variable [Tw]
def Q7{ty:NT}(h:fn.results= #[.cell p ty])(c:Array NM)(P:NO)(w:I):
 (results fn c).run P w=((asAddr (c.getD p undef)).run P w).andThen λa w₁=>(loadVar ty a).run P w₁:=by
 simp only[results,h];simp[UH,Result.andThen]
structure ShotAt(w:I)(b off:Nat)(x0 x1 x2 x3 x4:Int):Prop where
 c0:w.cell? ⟨b,off,NB⟩=NA (NE NF x0)
 c1:w.cell? ⟨b,off+1,NB⟩=NA (NE NF x1)
 c2:w.cell? ⟨b,off+2,NB⟩=NA (NE NF x2)
 c3:w.cell? ⟨b,off+3,NB⟩=NA (NE NF x3)
 c4:w.cell? ⟨b,off+4,NB⟩=NA (NE NF x4)
def Zg(j h e g:Int)(b a d c:Nat):Array NM:= #[j,h,e,g,.slice (NA ⟨b,a,NB⟩) d c]
def lo(e g d a c:Int):Int:=wrap64 (e - wrap64 (wrap64 (g*a)+wrap64 (d*c)))
def hi(g e d a c:Int):Int:=wrap64 (g+wrap64 (wrap64 (e*a)+wrap64 (d*c)))
structure Grew(w w':I)(os:List Obj):Prop where
 size:w'.heap.size=w.heap.size+os.length
 old:∀b,b<w.heap.size->w'.heap[b]? =w.heap[b]?
 new:∀i,i<os.length->w'.heap[w.heap.size+i]? =os[i]?
 tape:w'.tape=w.tape
 oss:w'.os=w.os
 output:w'.output=w.output
def Grew.nil(w:I):Grew w w []:=⟨rfl,λ_ _=>rfl,λi hi=>absurd hi OD,rfl,rfl,rfl⟩
def Grew.push{w a:I}{c:List Obj}(h:Grew w a c)(o:Obj):Grew w (a.alloc o) (c++[o]):=by
 have e:(a.alloc o).heap=a.heap.push o:=rfl;refine⟨by rw[e];simp[h.size];omega,λb d=> ?_,λi hi=> ?_,h.tape,h.oss,h.output⟩
 .rw[e,Array.getElem?_push,XB (by rw[h.size];omega)];exact h.old b d
 .rw[e,Array.getElem?_push];simp only[XH,YP,XW]at hi;by_cases d:i=c.length
  .subst d;rw[YZ h.size.symm];simp
  .rw[XB (by rw[h.size];omega),h.new i OA,List.getElem?_append_left OA]
def Grew.cell{w c:I}{d:List Obj}(h:Grew w c d){a:Addr}(e:a.block<w.heap.size):c.cell? a=w.cell? a:=by
 simp only[World.cell?,h.old _ e]
def MM(c:Array NM)(l h:Int)(a e j g d:Int):List Obj:=[.cells c 132,.cells #[l,h] 49,.cells #[a,e,j,g,d] 75]
def IB(F B u g A z y t j k:Int)(b c d x:Nat)(w:I)(M:0<=k)(H:k<d)(L:b<w.heap.size)(K:ShotAt w b (c+k.toNat*5) A z y t j):
 NW gp 66 #[.agg (Zg F B u g b c d x),k] w λe a=>
  e= .returned (.agg #[NE NF (lo z t j u g),NE NF (hi y t j u g)])/\Grew w a (MM (Zg F B u g b c d x) (lo z t j u g) (hi y t j u g) A z y t j):=by
 obtain⟨_,_,_,_,_⟩:=K;simp only[Zg,lo,hi,MM];go_enter func66,ntmps66;have a:b<w.heap.size+1:=OA
 have a:∀(v:I)(o:Obj)(a:Nat),b<v.heap.size->(v.alloc o).cell? ⟨b,a,NB⟩=v.cell? ⟨b,a,NB⟩:=λv o a h=>World.cell?_alloc_lt _ _ _ h
 go_wp2;refine VE ((Q7 rfl _ _ _).trans ?_) rfl ⟨rfl,(((Grew.nil w).push _).push _).push _⟩;simp[go_sem]
def WK(n l h:Int)(w:I):NW gp 65 #[n,l,h] w (OJ (.bool (decide (l<=n/\n<=h))) w):=by
 go_enter func65,ntmps65;go_wp2;all_goals (go_ret;simp;omega)
def Pa(n:Int)(w:I):NW gp 113 #[n] w (OJ (.bool (decide (0<=n/\n<=90))) w):=by
 go_enter func113,ntmps113;go_wp2_with (go_at_call 65;refine(WK _ _ _ _).q ?_);all_goals (go_ret;simp)
end
end Go.Proofs.Tryq
