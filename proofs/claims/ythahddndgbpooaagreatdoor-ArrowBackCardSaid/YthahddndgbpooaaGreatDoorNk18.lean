import Derived.Test.YthahddndgbpooaaGreatDoorNkA
import Derived.Test.YthahddndgbpooaaGreatDoorNk17
import Derived.Conc.CrowdStepC2
set_option linter.all false
set_option maxRecDepth 10000
open Go Go.Conc
variable {a:Addr}{es:Array Event}{gs:Array Goroutine}{ops:Array Oper}{cc z:Array Value}{wr:Bool}{Stop:Frame->List Frame->World->Prop}{fn:FuncId}{ds:List Deferred}{cs:List Frame}{B W cap d d0 g i j nn:Nat}{q:Nat->Nat}{Giv Ok S':Nat->Prop}{ad:Option Addr}{pos:String}{s s':Tmp}{u:Trace}{v:Value}{w w':World}
namespace Go.Proofs.Tryv
open Go.Nk Go.RowKit
open Go.Proofs.Tryq (theBan Zh ZH link payload wgLib Grew Z2r)
attribute [local instance] theBan
attribute [local instance] payload
def Z8O(W:Nat)(x:MemAct):Prop:=(∀y,x.touch? =some y->¬Go.ConcN.ShN W y.loc)/\x≠.mark (.release (Go.ConcR.stA W))
theorem Z5O(h:a.block≠W):Z8O W (MemAct.ofEvent ⟨.cell a,wr,false⟩):=by
 refine⟨λy hy=> ?_,by cases wr<;>simp[MemAct.ofEvent]⟩;simp only[Go.ConcR.ofEvent_cell,MemAct.touch?,XJ] at hy;subst hy;rintro⟨x,hx,Aw⟩;cases hx;exact h Aw
theorem Z9X:Z8O W (MemAct.ofEvent ⟨.mark .noRoom,false,true⟩):=
 ⟨λx hx=>by simp[MemAct.ofEvent,MemAct.touch?] at hx,by simp[MemAct.ofEvent]⟩
theorem Zby{Sb:Nat->Prop}:EvL (Zu Sb) B ⟨.mark .noRoom,false,true⟩:=
 ⟨λx hx=>by simp[MemAct.ofEvent,MemAct.touch?] at hx,by simp,by simp,by simp[MemAct.ofEvent,MemAct.low]⟩
theorem Zcn{Sb:Nat->Prop}(h:¬Sb a.block)(hb:a.block<B):EvL (Zu Sb) B ⟨.cell a,wr,false⟩:=by
 refine evL_cell _ _ ?_ hb;rintro⟨x,hx,Aw⟩;cases hx;exact h Aw
def ZdI(cc:Array Value)(B n:Nat):List Obj:=[.cells cc 132,.cells (ZH (B+1) n 0) 188,.cells #[.slice (some ⟨B+1,0,none⟩) n n] 134,.cells #[.int .u64 0,.int .u32 0] 243]
section
variable {P:Program}{Sb:Nat->Prop}{X:MemAct->Prop}{n N:Nat}{m:Nat->Value}{b:Frame}{k k':List Item}{rest:List Nat}{o:Oper}
theorem own_c{fr fr1:Frame}{cs1:List Frame}(law:∀w,stepG P true (G fr cs) w= .go (G fr1 cs1) w #[])(h:∃N,OwnTo P Sb X Stop N fr1 cs1 w):∃N,OwnTo P Sb X Stop N fr cs w:=let ⟨_,h⟩:=h;⟨_,Nk.own_c law h⟩
theorem own_v{d:Nat}{v:Value}{w':World}(hk:b.kind≠.early)(ho:ops[i]? =some o)(hd:o.dst=some d)(hg:o.guard=none)(B1:w.heap.size<=w'.heap.size)
 (hr:∀x,(execOp (Zd n m) o).run P (w.at x)= .ok (.value v) (w'.at x)/\∀e∈(execOp (Zd n m) o).events P (w.at x) #[],EvL (Zu Sb) w'.heap.size e/\X (MemAct.ofEvent e))
 (h:∃N,OwnTo P Sb X Stop N (b.at (ZD n (upM m d v) ds) (.inRegion ops rest::k)) cs w'):∃N,OwnTo P Sb X Stop N (b.at (ZD n m ds) (.inRegion ops (i::rest)::k)) cs w:=let ⟨_,h⟩:=h;⟨_,Nk.own_v hk ho hd hg B1 hr h⟩
theorem own_u{w':World}(hk:b.kind≠.early)(ho:ops[i]? =some o)(hd:o.dst=none)(hg:o.guard=none)(B1:w.heap.size<=w'.heap.size)
 (hr:∀x,(execOp (Zd n m) o).run P (w.at x)= .ok .skip (w'.at x)/\∀e∈(execOp (Zd n m) o).events P (w.at x) #[],EvL (Zu Sb) w'.heap.size e/\X (MemAct.ofEvent e))
 (h:∃N,OwnTo P Sb X Stop N (b.at (ZD n m ds) (.inRegion ops rest::k)) cs w'):∃N,OwnTo P Sb X Stop N (b.at (ZD n m ds) (.inRegion ops (i::rest)::k)) cs w:=let ⟨_,h⟩:=h;⟨_,Nk.own_u hk ho hd hg B1 hr h⟩
theorem Z4U(hk:b.kind≠.early)(ho:ops[i]? =some o)(hd:o.dst=some d)(hg:o.guard=none)(hr:∀x:World,(execOp (Zd n m) o).run P x= .ok (.value v) x/\∀e∈(execOp (Zd n m) o).events P x #[],False)
 (h:∃N,OwnTo P Sb X Stop N (b.at (ZD n (upM m d v) ds) (.inRegion ops rest::k)) cs w):∃N,OwnTo P Sb X Stop N (b.at (ZD n m ds) (.inRegion ops (i::rest)::k)) cs w:=
 own_v hk ho hd hg (XB _) (λx=>⟨(hr _).1,λe he=>((hr _).2 e he).elim⟩) h
end
section
variable {o:Oper}{m:Nat->Value}{Sb:Nat->Prop}
theorem Z3b(w:World)(ob:Obj):w.heap.size<=(w.alloc ob).heap.size:=by
 have e:(w.alloc ob).heap=w.heap.push ob:=rfl;rw[e];simp
theorem Ze9(A2:o.op= .box 132 (.tmp 0))(h:m 0= .agg cc)(x:Nat):(execOp (Zd 23 m) o).run Tryz.prog (w.at x)= .ok (.value (.pointer (some ⟨w.heap.size,0,none⟩))) ((w.alloc (.cells cc 132)).at x)/\∀e∈(execOp (Zd 23 m) o).events Tryz.prog (w.at x) #[],EvL (Zu Sb) (w.alloc (.cells cc 132)).heap.size e/\Z8O W (MemAct.ofEvent e):=
 ⟨(Ze5 (w:=w.at x) A2 h).1,λe he=>((Ze5 (w:=w.at x) A2 h).2 e he).elim⟩
theorem mk_at{n:Nat}(hn:n<=8)(A2:o.op= .makeSlice 134 (.tmp 9) (.tmp 9))(h:m 9= .int .i64 n)(x:Nat):(execOp (Zd 23 m) o).run Tryz.prog (w.at x)= .ok (.value (.slice (some ⟨w.heap.size,0,none⟩) n n)) ((w.alloc (.cells (ZH w.heap.size n 0) 188)).at x)/\
 ∀e∈(execOp (Zd 23 m) o).events Tryz.prog (w.at x) #[],EvL (Zu Sb) (w.alloc (.cells (ZH w.heap.size n 0) 188)).heap.size e/\Z8O W (MemAct.ofEvent e):=
 ⟨(r_mk (w:=w.at x) hn A2 h).1,λe he=>by rw[(r_mk (w:=w.at x) hn A2 h).2 e he];exact⟨Zby,Z9X⟩⟩
theorem Z7z{t:TypeId}(A2:o.op= .alloc t)(ht:(t=134/\z= #[.slice none 0 0])\/(t=243/\z= #[.int .u64 0,.int .u32 0])\/(t=3/\z= #[.int .i64 0]))(x:Nat):
 (execOp (Zd 23 m) o).run Tryz.prog (w.at x)= .ok (.value (.pointer (some ⟨w.heap.size,0,none⟩))) ((w.alloc (.cells z t)).at x)/\∀e∈(execOp (Zd 23 m) o).events Tryz.prog (w.at x) #[],EvL (Zu Sb) (w.alloc (.cells z t)).heap.size e/\Z8O W (MemAct.ofEvent e):=
 ⟨(Z6D (w:=w.at x) A2 ht).1,λe he=>((Z6D (w:=w.at x) A2 ht).2 e he).elim⟩
theorem Z6F{t:TypeId}(A2:o.op= .load t (.tmp s))(ht:t=29\/t=134)(hs:s<23)(h:m s= .pointer (some a))(hc:w.cell? a=some v)(hb:¬Sb a.block)(A3:a.block<w.heap.size)(hW:a.block≠W)(x:Nat):
 (execOp (Zd 23 m) o).run Tryz.prog (w.at x)= .ok (.value v) (w.at x)/\∀e∈(execOp (Zd 23 m) o).events Tryz.prog (w.at x) #[],EvL (Zu Sb) w.heap.size e/\Z8O W (MemAct.ofEvent e):=
 ⟨(Zcm (w:=w.at x) A2 ht hs h hc).1,λe he=>by rw[(Zcm (w:=w.at x) A2 ht hs h hc).2 e he];exact⟨Zcn hb A3,Z5O hW⟩⟩
theorem Z8n(w:World)(a:Addr)(v:Value)(x:Nat):(w.at x).setCell a v=(w.setCell a v).at x:=by
 unfold World.setCell World.at;split<;>simp_all
theorem Zbz{t:TypeId}{u:Value}(A2:o.op= .store t (.tmp s) (.tmp s'))(hs:s<23)(hs':s'<23)(h:m s= .pointer (some a))(h':m s'=v)(ht:(t=134/\∃b n c,v= .slice b n c)\/(t=3/\∃n,v= .int .i64 n))(hc:w.cell? a=some u)(hz:w.frozen? a=false)(hb:¬Sb a.block)(A3:a.block<(w.setCell a v).heap.size)(hW:a.block≠W)(x:Nat):
 (execOp (Zd 23 m) o).run Tryz.prog (w.at x)= .ok .skip ((w.setCell a v).at x)/\∀e∈(execOp (Zd 23 m) o).events Tryz.prog (w.at x) #[],EvL (Zu Sb) (w.setCell a v).heap.size e/\Z8O W (MemAct.ofEvent e):=
 ⟨by rw[<-Z8n];exact(Z6E (w:=w.at x) A2 hs hs' h h' ht hc hz).1,λe he=>by rw[(Z6E (w:=w.at x) A2 hs hs' h h' ht hc hz).2 e he];exact⟨Zcn hb A3,Z5O hW⟩⟩
end
theorem Zde(x:Value):Frame.enter Tryz.prog 114 #[x] .normal=(base 114).at (ZD 23 (λi=>if i=0 then x else undef) []) [.code body82]:=by
 rw[enter_at #[x] Tryz.func114 f82_body];have e: #[x]++Array.replicate (Tryz.f114.ntmps - (#[x]:Array Value).size) undef=(ZD 23 (λi=>if i=0 then x else undef) []).tmps:=by
  rw[f82_ntmps];show #[x]++Array.replicate 22 undef=_;apply Array.ext';simp[ZD,List.replicate_succ,List.ofFn_succ]
 rw[e];rfl
theorem pre82{Sb:Nat->Prop}(hn:nn<=8)(F8:cc[4]? =some (.slice ad nn cap))(I3:∀b,Sb b->b<w.heap.size)
 (J6:∀(m:Nat->Value)(w1:World),Grew w w1 (ZdI cc w.heap.size nn)->m 1= .pointer (some ⟨w.heap.size,0,none⟩)->m 3= .pointer (some ⟨w.heap.size+2,0,none⟩)->m 4= .pointer (some ⟨w.heap.size+3,0,none⟩)->m 14= .int .i64 nn->m 15= .int .i64 (0:Nat)->
   Stop ((base 114).at (ZD 23 m []) [.code L82,.inLoop L82,.inBlock 0,.code T82]) cs w1):
 ∃N,OwnTo Tryz.prog Sb (Z8O (w.heap.size+3)) Stop N (Frame.enter Tryz.prog 114 #[.agg cc] .normal) cs w:=by
 rw[Zde,body82_eq];have A9:(base 114).kind≠.early:=by decide
 refine own_c (λw=>XH) ?_;refine own_c (λw=>UD) ?_;rw[q0_size];obtain⟨o,ho,hd,A2,hg⟩:=q0_0;refine own_v A9 ho hd hg (Z3b _ _) (Ze9 (cc:=cc) A2 rfl) ?_;have hG:Grew w (w.alloc (.cells cc 132)) [.cells cc 132]:=(Grew.nil w).push _;generalize w.alloc (.cells cc 132)=w1 at hG⊢;obtain⟨o,ho,hd,A2,hg⟩:=q0_1;refine Z4U A9 ho hd hg (λx=>Z9T A2 (.inl rfl)) ?_;refine own_c (λw=>XC) ?_;refine own_c (λw=>XH) ?_;refine own_c (λw=>UD) ?_;rw[q1_size];obtain⟨o,ho,hd,A2,hg⟩:=q1_0;refine Z4U A9 ho hd hg (λx=>Z9V (a:=⟨w.heap.size,0,none⟩) A2 (by decide) rfl) ?_;obtain⟨o,ho,hd,A2,hg⟩:=q1_1;refine Z4U A9 ho hd hg (λx=>Z9W (a:=⟨w.heap.size,0,none⟩) A2 (by decide) rfl) ?_;have c4:w1.cell? ⟨w.heap.size,4,none⟩=some (.slice ad nn cap):=(hG.cellNew 0 rfl 4).trans F8;have hB:∀j,¬Sb (w.heap.size+j):=λj h=>by have:=I3 _ h;omega
 have Dh:w1.heap.size=w.heap.size+1:=hG.size;obtain⟨o,ho,hd,A2,hg⟩:=q1_2;refine own_v A9 ho hd hg (XB _) (Z6F (a:=⟨w.heap.size,4,none⟩) A2 (.inl rfl) (by decide) rfl c4 (hB 0) (by show w.heap.size<_;omega) (by show w.heap.size≠_;omega)) ?_;obtain⟨o,ho,hd,A2,hg⟩:=q1_3;refine Z4U A9 ho hd hg (λx=>Ze6 (b:=ad) (n:=nn) (c:=cap) A2 (by decide) rfl) ?_;obtain⟨o,ho,hd,A2,hg⟩:=q1_4;refine own_v A9 ho hd hg (Z3b _ _) (mk_at hn A2 rfl) ?_;rw[Dh];have hG:=hG.push (.cells (ZH (w.heap.size+1) nn 0) 188);generalize w1.alloc (.cells (ZH (w.heap.size+1) nn 0) 188)=w2 at hG⊢;have Cn:w2.heap.size=w.heap.size+2:=hG.size;obtain⟨o,ho,hd,A2,hg⟩:=q1_5;refine own_v A9 ho hd hg (Z3b _ _) (Z7z (z:= #[.slice none 0 0]) A2 (.inl ⟨rfl,rfl⟩)) ?_;rw[Cn];have hG:=hG.push (.cells #[.slice none 0 0] 134);generalize w2.alloc (.cells #[.slice none 0 0] 134)=w3 at hG⊢;have Cg:w3.heap.size=w.heap.size+3:=hG.size;have Nt:=hG.setCell 2 rfl 0 (.slice (some ⟨w.heap.size+1,0,none⟩) nn nn);have F6:=Nt.size;obtain⟨o,ho,hd,A2,hg⟩:=q1_6;refine own_u A9 ho hd hg (by rw[F6,Cg];simp) (Zbz (a:=⟨w.heap.size+2,0,none⟩) (v:= .slice (some ⟨w.heap.size+1,0,none⟩) nn nn) A2 (by decide) (by decide) rfl rfl (.inl ⟨rfl,_,_,_,rfl⟩) (hG.cellNew 2 rfl 0) (hG.thaw 2 rfl 0) (hB 2) (by show w.heap.size+2<_;rw[F6];simp) (by show w.heap.size+2≠_;omega)) ?_
 clear F6;generalize w3.setCell ⟨w.heap.size+2,0,none⟩ (.slice (some ⟨w.heap.size+1,0,none⟩) nn nn)=w4 at Nt⊢;refine own_c (λw=>XC) ?_;refine own_c (λw=>XH) ?_;refine own_c (λw=>UD) ?_;rw[q2_size];have F6:w4.heap.size=w.heap.size+3:=Nt.size;obtain⟨o,ho,hd,A2,hg⟩:=q2_0;refine own_v A9 ho hd hg (Z3b _ _) (Z7z (z:= #[.int .u64 0,.int .u32 0]) A2 (.inr (.inl ⟨rfl,rfl⟩))) ?_;rw[F6];have J7:=Nt.push (.cells #[.int .u64 0,.int .u32 0] 243);generalize w4.alloc (.cells #[.int .u64 0,.int .u32 0] 243)=w5 at J7⊢;have J7:Grew w w5 (ZdI cc w.heap.size nn):=J7;have Py:w5.heap.size=w.heap.size+4:=J7.size;refine own_c (λw=>XC) ?_;refine own_c (λw=>XH) ?_;refine own_c (λw=>XH) ?_;refine own_c (λw=>UD) ?_;rw[q3_size];obtain⟨o,ho,hd,A2,hg⟩:=q3_0;refine Z4U A9 ho hd hg (λx=>Z9V (a:=⟨w.heap.size,0,none⟩) A2 (by decide) rfl) ?_;obtain⟨o,ho,hd,A2,hg⟩:=q3_1;refine Z4U A9 ho hd hg (λx=>Z9W (a:=⟨w.heap.size,0,none⟩) A2 (by decide) rfl) ?_;have c4:w5.cell? ⟨w.heap.size,4,none⟩=some (.slice ad nn cap):=(J7.cellNew 0 rfl 4).trans F8;obtain⟨o,ho,hd,A2,hg⟩:=q3_2;refine own_v A9 ho hd hg (XB _) (Z6F (a:=⟨w.heap.size,4,none⟩) A2 (.inl rfl) (by decide) rfl c4 (hB 0) (by show w.heap.size<_;omega) (by show w.heap.size≠_;omega)) ?_
 obtain⟨o,ho,hd,A2,hg⟩:=q3_3;refine Z4U A9 ho hd hg (λx=>Ze6 (b:=ad) (n:=nn) (c:=cap) A2 (by decide) rfl) ?_;obtain⟨o,ho,hd,A2,hg⟩:=q3_4;refine Z4U A9 ho hd hg (λx=>Z9T A2 (.inr rfl)) ?_;refine own_c (λw=>XC) ?_;refine own_c (λw=>stepG_block) ?_;refine own_c (λw=>stepG_loop) ?_;refine⟨0,λd=>J6 _ _ ?_ rfl rfl rfl rfl rfl⟩;exact⟨J7.size,J7.old,J7.new,J7.tape,J7.oss,J7.output⟩
end Go.Proofs.Tryv
namespace Go.Nk
section
open Go.ConcN (ShN WgLive PayAt Has CTag RW upd upd_same upd_ne WD RelBy get_map_set get_map_set_same norel_of Deaf_absent Deaf_still)
open Go.ConcR (KK WgAt stA smA rd wr mk Payload DC0 g_of_ofEvents)
variable [Payload]
def Z5P(C:Nat)(O:Nat->Nat->Prop)(k:Nat)(l:Loc):Prop:=LB (O k) l\/l= .cell ⟨C,k,none⟩
def RdL(Sb:Nat->Prop)(Rk:Nat->Nat->Prop)(k:Nat)(l:Loc):Prop:=LB (Rk k) l/\¬Zu Sb l
structure GeoN(Wg C:Nat)(Sb:Nat->Prop)(w:World)(j:Nat)(O Rk:Nat->Nat->Prop)(Giv o:Nat->Prop):Prop where
 sep:∀k,k<j->∀b,O k b->b<w.heap.size/\b≠Wg/\b≠C/\¬o b
 sep2:∀k k',k<j->k'<j->k≠k'->∀b,O k b->¬O k' b
 mo:∀b,o b->b<w.heap.size/\b≠Wg/\b≠C
 rdo:∀k,k<j->∀b,Rk k b->Giv b
 giv:∀b,Giv b->o b
 sb:∀b,Sb b->o b
 hWg:Wg<w.heap.size
 hC:C<w.heap.size
 hCW:C≠Wg
theorem Z4V{S:Nat->Prop}{l:Loc}(h:LB S l)(h':LB S' l):∃b,S b/\S' b:=by
 rcases h with⟨a,rfl,h⟩|⟨r,rfl,h⟩<;>rcases h' with⟨a',e,h'⟩|⟨r',e,h'⟩<;>cases e
 ·exact⟨_,h,h'⟩
 ·exact⟨_,h,h'⟩
theorem Z2M{S:Nat->Prop}(h:LB S (.cell a)):S a.block:=by
 rcases h with⟨a',e,h⟩|⟨r,e,h⟩<;>cases e
 exact h
theorem Zco{S:Nat->Prop}{l:Loc}(h:LB S l):l.isMemory=true:=by
 rcases h with⟨a,rfl,h⟩|⟨r,rfl,h⟩<;>rfl
theorem Zcp{S:Nat->Prop}{l:Loc}(h:LB S l)(hs:∀b,S b->S' b):LB S' l:=by
 rcases h with⟨a,rfl,h⟩|⟨r,rfl,h⟩
 ·exact .inl ⟨a,rfl,hs _ h⟩
 ·exact .inr ⟨r,rfl,hs _ h⟩
theorem GeoN.apart{Wg C:Nat}{Sb:Nat->Prop}{O Rk:Nat->Nat->Prop}{o:Nat->Prop}(h:GeoN Wg C Sb w j O Rk Giv o):ApartN (ShN Wg) (Zu Sb) (Z5P C O) (RdL Sb Rk) j:=by
 refine⟨λk k' l hk hk' h1 h2=> ?_,λk k' l hk hk' h1 h2=> ?_,λk l hk h1=>⟨λh2=> ?_,λh2=> ?_⟩,λk l hk h1=>⟨λh2=> ?_,h1.2⟩⟩
 ·rcases h1 with h1|rfl<;>rcases h2 with h2|h2
  ·apply VS;intro A9;obtain⟨b,hb,hb'⟩:=Z4V h1 h2;exact h.sep2 k k' hk hk' A9 b hb hb'
  ·subst h2;exact absurd rfl (h.sep k hk _ (Z2M h1)).2.2.1
  ·exact absurd rfl (h.sep k' hk' _ (Z2M h2)).2.2.1
  ·cases h2;rfl
 ·rcases h1 with h1|rfl
  ·obtain⟨b,hb,hb'⟩:=Z4V h1 h2.1;exact(h.sep k hk b hb).2.2.2 (h.giv b (h.rdo k' hk' b hb'))
  ·exact absurd rfl (h.mo _ (h.giv _ (h.rdo k' hk' _ (Z2M h2.1)))).2.2
 ·obtain⟨a,rfl,ha⟩:=h2;rcases h1 with h1|h1
  ·exact(h.sep k hk _ (Z2M h1)).2.1 ha
  ·cases h1;exact h.hCW ha
 ·obtain⟨a,rfl,ha⟩:=h2;rcases h1 with h1|h1
  ·exact(h.sep k hk _ (Z2M h1)).2.2.2 (h.sb _ ha)
  ·cases h1;exact(h.mo _ (h.sb _ ha)).2.2 rfl
 ·obtain⟨a,rfl,ha⟩:=h2;exact(h.mo _ (h.giv _ (h.rdo k hk _ (Z2M h1.1)))).2.1 ha
section
variable (P:Program)(ty:TypeId)(Wg C n:Nat)(Sb:Nat->Prop)(Res:Nat->(Nat->Prop)->Value->World->Prop)
structure ComN(N0 j:Nat)(gs:Array Goroutine)(w:World)(t:Trace)(D:Nat->WD)(O Rk:Nat->Nat->Prop)(val:Nat->Value)(F:Nat->Tr)(q:Nat->Nat)(Giv o:Nat->Prop)(d0:Nat):Prop where
 size:gs.size=N0+j
 wk:∀k,k<j->∃g,gs[N0+k]? =some g/\WS P ty Wg C n Sb Res k (Rk k) (val k) (D k).stage (O k) (F (N0+k)) (D k).deaf g w
 old:∀i,0<i->i<N0->∃g,gs[i]? =some g/\QuitsD P (q i) (Deaf t i) g/\F i=Tr.ofNat (q i)
 tn:TN N0 (ShN Wg) (Zu Sb) (Z5P C O) (RdL Sb Rk) t j
 oldk:OldK N0 (Zu Sb) t
 norel:NoRelease (stA Wg) t
 deaf0:Deaf t 0=d0
 deafW:∀k,k<j->Deaf t (N0+k)=(D k).deaf
 rel:∀k,k<j->(D k).stage<=6->∃r,RelN (ShN Wg) (stA Wg) t (N0+k) r
 has:∀k,k<j->(D k).stage<=6->Has C k (val k) w/\Res k (O k) (val k) w
 pay:PayAt C n w
 low:∀op∈t,op.act.low w.heap.size
 geo:GeoN Wg C Sb w j O Rk Giv o
def ResOk:Prop:=∀k o v w w₁,(∀b,o b->w₁.heap[b]? =w.heap[b]?)->Res k o v w->Res k o v w₁
end
section
variable {P:Program}{ty:TypeId}{Wg C n:Nat}{Sb:Nat->Prop}{Res:Nat->(Nat->Prop)->Value->World->Prop}{N0:Nat}{t:Trace}{D:Nat->WD}{O Rk:Nat->Nat->Prop}{val:Nat->Value}{F:Nat->Tr}{o:Nat->Prop}
theorem GeoN.step(h:GeoN Wg C Sb w j O Rk Giv o)(hs:w.heap.size<=w'.heap.size):GeoN Wg C Sb w' j O Rk Giv o:=
 ⟨λk hk b hb=>⟨YS (h.sep k hk b hb).1 hs,(h.sep k hk b hb).2⟩,h.sep2,λb hb=>⟨YS (h.mo b hb).1 hs,(h.mo b hb).2⟩,h.rdo,h.giv,h.sb,YS h.hWg hs,YS h.hC hs,h.hCW⟩
theorem GeoN.growW(h:GeoN Wg C Sb w j O Rk Giv o)(hs:w.heap.size<=w'.heap.size){k:Nat}{Ok:Nat->Prop}(h2:∀b,Ok b->O k b\/(w.heap.size<=b/\b<w'.heap.size)):GeoN Wg C Sb w' j (upd O k Ok) Rk Giv o:=by
 have h':=h.step hs;have hWg:=h.hWg;have hC:=h.hC;refine⟨λk' hk' b hb=> ?_,λk1 k2 Fk Az A9 b hb=> ?_,h'.mo,h'.rdo,h'.giv,h'.sb,h'.hWg,h'.hC,h'.hCW⟩
 ·by_cases e:k'=k
  ·subst e;rw[VF] at hb;rcases h2 b hb with hb|⟨h3,h4⟩
   ·exact h'.sep k' hk' b hb
   ·exact⟨h4,by omega,by omega,λho=>by have:=(h.mo b ho).1;omega⟩
  ·rw[upd_ne O _ e] at hb;exact h'.sep k' hk' b hb
 ·by_cases e1:k1=k
  ·subst e1;rw[VF] at hb;rw[upd_ne O _ (SC A9)];rcases h2 b hb with hb|⟨h3,h4⟩
   ·exact h.sep2 _ _ Fk Az A9 b hb
   ·exact λho=>by have:=(h.sep k2 Az b ho).1;omega
  ·rw[upd_ne O _ e1] at hb;by_cases e2:k2=k
   ·subst e2;rw[VF];intro ho;rcases h2 b ho with ho|⟨h3,h4⟩
    ·exact h.sep2 _ _ Fk Az A9 b hb ho
    ·have:=(h.sep k1 Fk b hb).1;omega
   ·rw[upd_ne O _ e2];exact h.sep2 _ _ Fk Az A9 b hb
theorem GeoN.grow0(h:GeoN Wg C Sb w j O Rk Giv o)(hs:w.heap.size<=w'.heap.size):GeoN Wg C Sb w' j O Rk Giv (grow o w w'):=by
 have hWg:=h.hWg;have hC:=h.hC;refine⟨λk hk b hb=>⟨YS (h.sep k hk b hb).1 hs,(h.sep k hk b hb).2.1,(h.sep k hk b hb).2.2.1,?_⟩,h.sep2,λb hb=> ?_,h.rdo,λb hb=> .inl (h.giv b hb),λb hb=> .inl (h.sb b hb),YS h.hWg hs,YS h.hC hs,h.hCW⟩
 ·rintro(ho|⟨h1,h2⟩)
  ·exact(h.sep k hk b hb).2.2.2 ho
  ·have:=(h.sep k hk b hb).1;omega
 ·rcases hb with hb|⟨h1,h2⟩
  ·exact⟨YS (h.mo b hb).1 hs,(h.mo b hb).2⟩
  ·exact⟨h2,by omega,by omega⟩
theorem ComN.at(h:ComN P ty Wg C n Sb Res N0 j gs w t D O Rk val F q Giv o d0)(hR:ResOk Res)(d:Nat):ComN P ty Wg C n Sb Res N0 j gs (w.at d) t D O Rk val F q Giv o d0:=
 ⟨h.size,λk hk=>let ⟨g,hg,hs⟩:=h.wk k hk;⟨g,hg,hs.rely (RWo.at w d)⟩,h.old,h.tn,h.oldk,h.norel,h.deaf0,h.deafW,h.rel,λk hk hs=>⟨(h.has k hk hs).1,hR _ _ _ w (w.at d) (λ_ _=>rfl) (h.has k hk hs).2⟩,h.pay,h.low,h.geo.step (XB _)⟩
theorem Z1c(h:∀op∈t,op.act.low w.heap.size)(hs:w.heap.size<=w'.heap.size)(hu:∀op∈u,op.act.low w'.heap.size):∀op∈t++u,op.act.low w'.heap.size:=
 λop A2=>(UL.1 A2).elim (λx=>MemAct.low_mono hs (h op x)) (hu op)
theorem Z9Y{l:Loc}(h:∀op∈t,op.act.low w.heap.size)(hl:¬l.low w.heap.size):∀i a,touchAt t i=some a->a.loc≠l:=by
 intro i a ha e;obtain⟨op,A2,Ll⟩:=touch_of ha;have Cd:=h op (Array.mem_of_getElem? A2);subst e;apply hl;cases hx:op.act with
 |access e=>
  rw[hx] at Ll Cd;simp only[MemAct.touch?,XJ] at Ll;subst Ll;exact Cd
 |mark m=>
  rw[hx] at Ll Cd;cases m<;>simp only[MemAct.touch?,XJ] at Ll<;>first|(cases Ll;done)|(subst Ll;exact Cd)
 |_=>rw[hx] at Ll;cases Ll
theorem ComN.stepW(hR:ResOk Res)(h:ComN P ty Wg C n Sb Res N0 j gs w t D O Rk val F q Giv o d0)(hN:0<N0){k:Nat}(hk:k<j){g g':Goroutine}{fn:FuncId}{pos:String}{es:Array Event}{s' dd':Nat}{r':Tr}{Ok:Nat->Prop}{v':Value}
 (J8:RMo ty Wg C n o w w')(Et:∀k',k'<j->k'≠k->RWo ty Wg C n k' (Rk k') (O k') w w')
 (Xb:∀b,O k b->Ok b)(Lm:∀b,Ok b->O k b\/(w.heap.size<=b/\b<w'.heap.size))
 (hs':WS P ty Wg C n Sb Res k (Rk k) v' s' Ok r' dd' g' w')
 (Bq:∀op∈MemOp.ofEvents (N0+k) fn pos es,ZdT N0 (ShN Wg) (Z5P C (upd O k Ok)) (RdL Sb Rk) k op)(Cd:∀op∈MemOp.ofEvents (N0+k) fn pos es,op.act.low w'.heap.size)(F1:∀e∈es,e.loc≠.mark (.release (stA Wg)))
 (J9:deafBehind (D k).deaf es=dd')(hrel:s'<=6->∃r,RelN (ShN Wg) (stA Wg) (t++MemOp.ofEvents (N0+k) fn pos es) (N0+k) r)
 (Ja:s'<=6->Has C k v' w'/\Res k Ok v' w'):
 ComN P ty Wg C n Sb Res N0 j ((gs.map (woken P g g' w')).setIfInBounds (N0+k) g') w' (t++MemOp.ofEvents (N0+k) fn pos es) (upd D k ⟨s',0,dd'⟩) (upd O k Ok) Rk (upd val k v') (upd F (N0+k) r') q Giv o d0:=by
 have F9:=h.geo.growW J8.size Lm;have Pz:TN N0 (ShN Wg) (Zu Sb) (Z5P C (upd O k Ok)) (RdL Sb Rk) t j:=by
  refine h.tn.grow (λk' l hk' hl=> ?_) (λk' l hk' hl=> ?_)
  ·by_cases e:k'=k
   ·subst e;rcases hl with hl|hl
    ·left;rw[VF];exact Zcp hl Xb
    ·exact .inr hl
   ·unfold Z5P;rw[upd_ne O _ e];exact hl
  ·by_cases e:k'=k
   ·subst e;rcases hl with hl|hl
    ·rw[VF] at hl;by_cases Hk:LB (O k') l
     ·exact .inl (.inl Hk)
     ·refine .inr (Z9Y h.low λQ0=> ?_);rcases hl with⟨a,rfl,ha⟩|⟨r,rfl,ha⟩
      ·rcases Lm _ ha with ha|⟨h3,_⟩
       ·exact Hk (.inl ⟨a,rfl,ha⟩)
       ·have:a.block<w.heap.size:=Q0;omega
      ·rcases Lm _ ha with ha|⟨h3,_⟩
       ·exact Hk (.inr ⟨r,rfl,ha⟩)
       ·have:r<w.heap.size:=Q0;omega
    ·exact .inl (.inr hl)
   ·unfold Z5P at hl;rw[upd_ne O _ e] at hl;exact .inl hl
 refine⟨by simp[h.size],λk' hk'=> ?_,λi Cj hi=> ?_,Pz.appW F9.apart hk Bq,h.oldk.app (λop A2=> .inr (.inl (by rw[(Bq op A2).1];omega))),h.norel.app (norel_of F1),by rw[SF t (by omega) _ g_of_ofEvents,h.deaf0],λk' hk'=> ?_,λk' hk' Ai=> ?_,λk' hk' Ai=> ?_,J8.pay h.pay,Z1c h.low J8.size Cd,F9⟩
 ·by_cases e:k'=k
  ·subst e;exact⟨g',get_map_set_same _ _ _ (by rw[h.size];omega),by rw[VF,VF,VF,VF];exact hs'⟩
  ·obtain⟨x,hx,Gt⟩:=h.wk k' hk';refine⟨x,by rw[RN _ _ _ _ (by omega),hx,XI,Gt.woken],?_⟩;rw[upd_ne D _ e,upd_ne O _ e,upd_ne val _ e,upd_ne F _ (by omega)];exact Gt.rely (Et k' hk' e)
 ·obtain⟨x,hx,hq,hF⟩:=h.old i Cj hi;refine⟨x,by rw[RN _ _ _ _ (by omega),hx,XI,woken_quitsD hq],?_,by rw[upd_ne F _ (by omega)];exact hF⟩;rw[SF t (by omega) _ g_of_ofEvents];exact hq
 ·by_cases e:k'=k
  ·subst e;rw[Deaf_own,h.deafW k' hk',VF];exact J9
  ·rw[SF t (by omega) _ g_of_ofEvents,h.deafW k' hk',upd_ne D _ e]
 ·by_cases e:k'=k
  ·subst e;rw[VF] at Ai;exact hrel Ai
  ·rw[upd_ne D _ e] at Ai;obtain⟨r,hr⟩:=h.rel k' hk' Ai;exact⟨r,hr.app (hr.by_.appOther g_of_ofEvents (by omega)) (λop A2 hg=>by have:=g_of_ofEvents op A2;omega)⟩
 ·by_cases e:k'=k
  ·subst e;rw[VF] at Ai;rw[VF,VF];exact Ja Ai
  ·rw[upd_ne D _ e] at Ai;rw[upd_ne val _ e,upd_ne O _ e];exact⟨(Et k' hk' e).cell.trans (h.has k' hk' Ai).1,hR _ _ _ _ _ (Et k' hk' e).own (h.has k' hk' Ai).2⟩
theorem ComN.step0(hR:ResOk Res)(h:ComN P ty Wg C n Sb Res N0 j gs w t D O Rk val F q Giv o d0)(hN:0<N0){a a':Goroutine}{fn:FuncId}{pos:String}{es:Array Event}(B1:w.heap.size<=w'.heap.size)
 (Et:∀k,k<j->RWo ty Wg C n k (Rk k) (O k) w w')(Bq:∀op∈MemOp.ofEvents 0 fn pos es,ZdS (ShN Wg) (Zu Sb) (Z5P C O) (RdL Sb Rk) j op)(Cd:∀op∈MemOp.ofEvents 0 fn pos es,op.act.low w'.heap.size)(F1:∀e∈es,e.loc≠.mark (.release (stA Wg)))(E7:PayAt C n w'):
 ComN P ty Wg C n Sb Res N0 j ((gs.map (woken P a a' w')).setIfInBounds 0 a') w' (t++MemOp.ofEvents 0 fn pos es) D O Rk val F q Giv (grow o w w') (deafBehind d0 es):=by
 refine⟨by simp[h.size],λk hk=> ?_,λi Cj hi=> ?_,h.tn.app0 hN h.geo.apart Bq,h.oldk.app (λop A2=> .inl (Bq op A2).1),h.norel.app (norel_of F1),by rw[Deaf_own,h.deaf0],λk hk=>by rw[SF t (by omega) _ g_of_ofEvents,h.deafW k hk],λk hk Ai=> ?_,λk hk Ai=>⟨(Et k hk).cell.trans (h.has k hk Ai).1,hR _ _ _ _ _ (Et k hk).own (h.has k hk Ai).2⟩,E7,Z1c h.low B1 Cd,h.geo.grow0 B1⟩
 ·obtain⟨x,hx,Gt⟩:=h.wk k hk;exact⟨x,by rw[RN _ _ _ _ (by omega),hx,XI,Gt.woken],Gt.rely (Et k hk)⟩
 ·obtain⟨x,hx,hq,hF⟩:=h.old i Cj hi;refine⟨x,by rw[RN _ _ _ _ (by omega),hx,XI,woken_quitsD hq],?_,hF⟩;rw[SF t (by omega) _ g_of_ofEvents];exact hq
 ·obtain⟨r,hr⟩:=h.rel k hk Ai;exact⟨r,hr.app (hr.by_.appOther g_of_ofEvents (by omega)) (λop A2 hg=>by have:=g_of_ofEvents op A2;omega)⟩
theorem ComN.stepL(h:ComN P ty Wg C n Sb Res N0 j gs w t D O Rk val F q Giv o d0){i m:Nat}(Cj:0<i)(hi:i<N0){g g':Goroutine}{fn:FuncId}{pos:String}{es:Array Event}(hm:∀e∈es,e.mute=true)(hq':QuitsD P m (deafBehind (Deaf t i) es) g')(F1:∀e∈es,e.loc≠.mark (.release (stA Wg))):
 ComN P ty Wg C n Sb Res N0 j ((gs.map (woken P g g' w)).setIfInBounds i g') w (t++MemOp.ofEvents i fn pos es) D O Rk val (upd F i (Tr.ofNat m)) (upd q i m) Giv o d0:=by
 have hg:∀op∈MemOp.ofEvents i fn pos es,op.g=i:=g_of_ofEvents;have ht:∀op∈MemOp.ofEvents i fn pos es,op.act.touch? =none:=λop A2=>by obtain⟨e,he,rfl⟩:=XN A2;exact touch_mute (hm e he)
 have hl:∀op∈MemOp.ofEvents i fn pos es,op.act.low w.heap.size:=λop A2=>by obtain⟨e,he,rfl⟩:=XN A2;exact low_mute (hm e he) _
 refine⟨by simp[h.size],λk hk=> ?_,λi' Rj hi'=> ?_,h.tn.appMute (by omega) hg ht,h.oldk.app (λop A2=> .inr (.inr (ht op A2))),h.norel.app (norel_of F1),by rw[SF t (by omega) _ g_of_ofEvents,h.deaf0],λk hk=>by rw[SF t (by omega) _ g_of_ofEvents,h.deafW k hk],λk hk Ai=> ?_,h.has,h.pay,Z1c h.low (XB _) hl,h.geo⟩
 ·obtain⟨x,hx,Gt⟩:=h.wk k hk;exact⟨x,by rw[RN _ _ _ _ (by omega),hx,XI,Gt.woken],by rw[upd_ne F _ (by omega)];exact Gt⟩
 ·by_cases e:i'=i
  ·subst e;exact⟨g',get_map_set_same _ _ _ (by rw[h.size];omega),by rw[Deaf_own,VF];exact hq',by rw[VF,VF]⟩
  ·obtain⟨x,hx,hq,hF⟩:=h.old i' Rj hi';refine⟨x,by rw[RN _ _ _ _ (by omega),hx,XI,woken_quitsD hq],?_,by rw[upd_ne F _ e,upd_ne q _ e];exact hF⟩;rw[SF t (by omega) _ g_of_ofEvents,upd_ne q _ e];exact hq
 ·obtain⟨r,hr⟩:=h.rel k hk Ai;exact⟨r,hr.app (hr.by_.appOther g_of_ofEvents (by omega)) (λop A2 hg=>by have:=g_of_ofEvents op A2;omega)⟩
theorem ComN.spawn(h:ComN P ty Wg C n Sb Res N0 j gs w t D O Rk val F q Giv o 0)(hN:0<N0){a' child:Goroutine}{x y:MemOp}{r:Tr}(hx:x.g=0/\x.act= .go (N0+j))(hy:y.g=N0+j/\y.act= .start)
 (hc:GoT P false (RWo ty Wg C n j o) (DWo Wg C n Sb j o) (SW P ty Wg C n Res j) r (λ_=>False) child w):
 ComN P ty Wg C n Sb Res N0 (j+1) ((gs.setIfInBounds 0 a').push child) w (t++ #[x,y]) (upd D j ⟨7,0,0⟩) (upd O j (λ_=>False)) (upd Rk j o) val (upd F (N0+j) r) q o o 0:=by
 have hm:∀op∈#[x,y],op=x\/op=y:=by intro op A2;simpa using A2
 have Ai:∀op∈#[x,y],op.act≠.mark .disable/\op.act≠.mark .enable:=by
  intro op A2;rcases hm op A2 with rfl|rfl
  ·rw[hx.2];exact⟨by simp,by simp⟩
  ·rw[hy.2];exact⟨by simp,by simp⟩
 have F9:GeoN Wg C Sb w (j+1) (upd O j (λ_=>False)) (upd Rk j o) o o:=by
  refine⟨λk hk b hb=> ?_,λk k' hk hk' A9 b hb=> ?_,h.geo.mo,λk hk b hb=> ?_,λb hb=>hb,h.geo.sb,h.geo.hWg,h.geo.hC,h.geo.hCW⟩
  ·by_cases e:k=j
   ·subst e;rw[VF] at hb;exact hb.elim
   ·rw[upd_ne O _ e] at hb;exact h.geo.sep k (by omega) b hb
  ·by_cases e:k=j
   ·subst e;rw[VF] at hb;exact hb.elim
   ·rw[upd_ne O _ e] at hb;by_cases e':k'=j
    ·subst e';rw[VF];exact id
    ·rw[upd_ne O _ e'];exact h.geo.sep2 k k' (by omega) (by omega) A9 b hb
  ·by_cases e:k=j
   ·subst e;rw[VF] at hb;exact hb
   ·rw[upd_ne Rk _ e] at hb;exact h.geo.giv b (h.geo.rdo k (by omega) b hb)
 have Pz:TN N0 (ShN Wg) (Zu Sb) (Z5P C (upd O j (λ_=>False))) (RdL Sb (upd Rk j o)) t j:=by
  refine⟨h.tn.quiet,λk hk l hl=> ?_,λk hk l hl=> ?_,λl hm hs hn hl=> ?_,λl hm hs hn hl=> ?_,h.tn.nr,h.tn.gs⟩
  ·unfold Z5P at hl;rw[upd_ne O _ (by omega)] at hl;exact h.tn.own k hk l hl
  ·unfold RdL at hl;rw[upd_ne Rk _ (by omega)] at hl;exact h.tn.rd k hk l hl
  ·refine h.tn.free l hm hs hn λk hk=> ?_
   have:=hl k hk;unfold Z5P RdL at this;rw[upd_ne O _ (by omega),upd_ne Rk _ (by omega)] at this;exact this
  ·refine h.tn.mine l hm hs hn λk hk=> ?_
   have:=hl k hk;unfold Z5P at this;rw[upd_ne O _ (by omega)] at this;exact this
 refine⟨by simp[h.size];omega,λk hk=> ?_,λi Cj hi=> ?_,Pz.fork hN F9.apart (λl hl=> ?_) (λl hl=>Zco hl.1) hx hy h.deaf0,h.oldk.app (λop A2=> ?_),h.norel.app λop A2=> ?_,by rw[Deaf_still t 0 _ Ai,h.deaf0],λk hk=> ?_,λk hk hs=> ?_,λk hk hs=> ?_,h.pay,Z1c h.low (XB _) (λop A2=> ?_),F9⟩
 ·rcases XY k j with A3|Fl
  ·obtain⟨g,hg,Ki⟩:=h.wk k A3;refine⟨g,?_,by rw[upd_ne D _ (by omega),upd_ne O _ (by omega),upd_ne Rk _ (by omega),upd_ne F _ (by omega)];exact Ki⟩;rw[Array.getElem?_push_lt (by simp[h.size];omega),<-YN,YO (by omega)];exact hg
  ·obtain rfl:k=j:=by omega
   refine⟨child,?_,by rw[VF,VF,VF,VF];exact .work hc⟩;rw[show N0+k=(gs.setIfInBounds 0 a').size by simp[h.size],Array.getElem?_push_size]
 ·obtain⟨g,hg,hq,hF⟩:=h.old i Cj hi;refine⟨g,?_,by rw[Deaf_still t _ _ Ai];exact hq,by rw[upd_ne F _ (by omega)];exact hF⟩;rw[Array.getElem?_push_lt (by simp[h.size];omega),<-YN,YO (by omega)];exact hg
 ·rcases hl with hl|rfl
  ·exact Zco hl
  ·rfl
 ·rcases hm op A2 with rfl|rfl
  ·exact .inl hx.1
  ·exact .inr (.inl (by rw[hy.1];omega))
 ·rcases hm op A2 with rfl|rfl
  ·rw[hx.2];simp
  ·rw[hy.2];simp
 ·rw[Deaf_still t _ _ Ai];rcases XY k j with A3|Fl
  ·rw[h.deafW k A3,upd_ne D _ (by omega)]
  ·obtain rfl:k=j:=by omega
   rw[VF];exact Deaf_absent λa op ha e=>by have:=h.tn.gs a op ha;omega
 ·rcases XY k j with A3|Fl
  ·rw[upd_ne D _ (by omega)] at hs;obtain⟨r,hr⟩:=h.rel k A3 hs;refine⟨r,hr.app (Go.ConcN.RelBy.appNot hr.by_ λop A2=> ?_) (λop A2 hg=> ?_)⟩
   ·rcases hm op A2 with rfl|rfl
    ·rw[hx.1];omega
    ·rw[hy.1];omega
   ·rcases hm op A2 with rfl|rfl
    ·rw[hx.1] at hg;omega
    ·rw[hy.1] at hg;omega
  ·obtain rfl:k=j:=by omega
   rw[VF] at hs;simp at hs
 ·rcases XY k j with A3|Fl
  ·rw[upd_ne D _ (by omega)] at hs;rw[upd_ne O _ (by omega)];exact h.has k A3 hs
  ·obtain rfl:k=j:=by omega
   rw[VF] at hs;simp at hs
 ·rcases hm op A2 with rfl|rfl
  ·rw[hx.2];trivial
  ·rw[hy.2];trivial
end
end
section
open Go.ConcN (ShN WgLive PayAt Has CTag RW upd upd_same upd_ne WD RelBy get_map_set get_map_set_same norel_of Vc Ssum cnt phi phi_mono phi_retag isOpen isW3 isFin OpenSt AllQuit pend sumTo sumTo_upd Vc_upd Vc_le others_uncounted le_sumTo bk_cell deafBehind_idle)
open Go.ConcR (KK WgAt stA smA rd wr mk Payload DC0 g_of_ofEvents Bk ofEvent_loc_mark ofEvent_cell)
variable [Payload]
abbrev Mu:=(Nat×Nat×(Nat->Tr))×(Tr×Nat)
def ZdJ(a b:Tr×Nat):Prop:=ZaS a.1 b.1\/(a.1=b.1/\a.2<b.2)
theorem tnLt_wf:WellFounded ZdJ:=by
 constructor;have all:∀(r:Tr)(k:Nat),Acc ZdJ (r,k):=by
  intro r
  induction trLt_wf.apply r with
  |intro r _ ih=>
   intro k
   induction k using Nat.strongRecOn with
   |_ k ihk=>
    refine⟨_,?_⟩;rintro⟨r',k'⟩ (h|⟨h1,h2⟩)
    ·exact ih r' h k'
    ·simp only at h1 h2;subst h1;exact ihk k' h2
 exact fun⟨r,k⟩=>all r k
def Zdf(a b:Mu):Prop:=ZdR a.1 b.1\/(a.1=b.1/\ZdJ a.2 b.2)
theorem muLt2_wf:WellFounded Zdf:=by
 constructor;have all:∀(x:Nat×Nat×(Nat->Tr))(y:Tr×Nat),Acc Zdf (x,y):=by
  intro x
  induction muLt_wf.apply x with
  |intro x _ ih=>
   intro y
   induction tnLt_wf.apply y with
   |intro y _ ihy=>
    refine⟨_,?_⟩;rintro⟨x',y'⟩ (h|⟨h1,h2⟩)
    ·exact ih x' h y'
    ·simp only at h1 h2;subst h1;exact ihy y' h2
 exact fun⟨x,y⟩=>all x y
def AcqN(Wg N0 j:Nat)(t:Trace):Prop:=
 ∃q,t.act? q=some (.mark (.acquire (stA Wg)))/\t.g? q=some 0/\t.heard q/\∀k,k<j->∃r,RelN (ShN Wg) (stA Wg) t (N0+k) r/\r<q
omit [Payload] in
theorem AcqN.app{Wg N0:Nat}{t:Trace}(h:AcqN Wg N0 j t)(hu:∀k r,k<j->RelN (ShN Wg) (stA Wg) t (N0+k) r->RelN (ShN Wg) (stA Wg) (t++u) (N0+k) r):AcqN Wg N0 j (t++u):=by
 obtain⟨q,h1,h2,h3,h4⟩:=h;have hq:=lt_of_act? h1;exact⟨q,by rw[act?_old hq];exact h1,by rw[g?_old hq];exact h2,(heard_old hq).2 h3,λk hk=>let ⟨r,hr,O9⟩:=h4 k hk;⟨r,hu k r hk hr,O9⟩⟩
structure BaseN(w0:World)(G0:Nat->Prop)(w:World)(Giv:Nat->Prop):Prop where
 old:∀b,G0 b->Giv b/\w.heap[b]? =w0.heap[b]?
 tape:w.tape=w0.tape
 os:w.os=w0.os
 output:w.output=w0.output
 size:w0.heap.size<=w.heap.size
section
variable (P:Program)(ty:TypeId)(Wg C n:Nat)(Sb:Nat->Prop)(Res:Nat->(Nat->Prop)->Value->World->Prop)(End AnchW:(Nat->Prop)->Goroutine->World->Prop)(N0:Nat)(w0:World)(G0:Nat->Prop)
def InvN(μ:Mu)(m:Machine)(t:Trace):Prop:=
 ∃(gs:Array Goroutine)(w:World)(sl:Option (Nat×Nat))(j:Nat)(D:Nat->WD)(O Rk:Nat->Nat->Prop)(val:Nat->Value)(F:Nat->Tr)(q:Nat->Nat)(tag:CTag)(Giv o:Nat->Prop)(f0:Tr×Nat)(d0:Nat)(a:Goroutine)(st sm:Int),
  m=crowd gs w sl/\gs[0]? =some a/\CS P ty Wg C n Sb Res End AnchW tag j Giv o f0 d0 a w/\ComN P ty Wg C n Sb Res N0 j gs w t D O Rk val F q Giv o d0/\WgAt ty Wg w st sm/\Go.ConcN.Mode j D tag st sm/\
  (tag= .ret->AcqN Wg N0 j t)/\BaseN w0 G0 w Giv/\μ=((phi n (Vc j D) tag+Ssum j D,N0+j,F),f0)
def Z1y(μ:Mu)(s:Stepped×Array MemOp)(t:Trace):Prop:=
 ∃m₁ ops μ',s=(.next m₁,ops)/\Zdf μ' μ/\InvN P ty Wg C n Sb Res End AnchW N0 w0 G0 μ' m₁ (t++ops)
end
section
variable {P:Program}{ty:TypeId}{Wg C n:Nat}{Sb:Nat->Prop}{Res:Nat->(Nat->Prop)->Value->World->Prop}{End AnchW:(Nat->Prop)->Goroutine->World->Prop}{N0:Nat}{w0:World}{G0:Nat->Prop}
 {gs:Array Goroutine} {w w':World} {sl:Option (Nat×Nat)} {j:Nat} {D:Nat->WD} {O Rk:Nat->Nat->Prop} {val:Nat->Value} {F:Nat->Tr} {q:Nat->Nat} {tag:CTag} {Giv o:Nat->Prop} {f0:Tr×Nat} {d0:Nat} {a:Goroutine} {t:Trace} {st sm:Int}
omit [Payload] in
theorem BaseN.step(h:BaseN w0 G0 w Giv)(hO:∀b,Giv b->w'.heap[b]? =w.heap[b]?)(ht:w'.tape=w.tape)(ho:w'.os=w.os)(hu:w'.output=w.output)(hs:w.heap.size<=w'.heap.size){Giv':Nat->Prop}(hG:∀b,Giv b->Giv' b):BaseN w0 G0 w' Giv':=
 ⟨λb hb=>⟨hG b (h.old b hb).1,(hO b (h.old b hb).1).trans (h.old b hb).2⟩,ht.trans h.tape,ho.trans h.os,hu.trans h.output,XD h.size hs⟩
theorem Z14(h:WgLive ty Wg w)(e:w'.heap[Wg]? =w.heap[Wg]?):WgLive ty Wg w':=let ⟨_,_,x⟩:=h;⟨_,_,x.of_block e⟩
omit [Payload] in
theorem Z6G{b:Nat}(e:w'.heap[b]? =w.heap[b]?)(i:Nat):w'.cell? ⟨b,i,none⟩=w.cell? ⟨b,i,none⟩:=by simp[World.cell?,e]
theorem Z0s(h:PayAt C n w)(e:w'.heap[C]? =w.heap[C]?):PayAt C n w':=let ⟨cs,h1,h2⟩:=h;⟨cs,e.trans h1,h2⟩
theorem RWo.of_wg{k:Nat}(hg:GeoN Wg C Sb w j O Rk Giv o)(hk:k<j)(h:Aside Wg w w')(hl:WgLive ty Wg w'):RWo ty Wg C n k (Rk k) (O k) w w':=
 ⟨λb hb=>h.block b (hg.sep k hk b hb).2.1,λb hb=>h.block b (hg.mo b (hg.giv b (hg.rdo k hk b hb))).2.1,TU h.size.symm,λ_=>hl,λhp=>Z0s hp (h.block C hg.hCW),Z6G (h.block C hg.hCW) k⟩
theorem RMo.of_wg(hg:GeoN Wg C Sb w j O Rk Giv o)(h:Aside Wg w w')(hl:WgLive ty Wg w'):RMo ty Wg C n o w w':=
 ⟨λb hb=>h.block b (hg.mo b hb).2.1,TU h.size.symm,λ_=>hl,λhp=>Z0s hp (h.block C hg.hCW),h.tape,h.os,h.output⟩
theorem RWo.of_work{k k':Nat}(hg:GeoN Wg C Sb w j O Rk Giv o)(hk:k<j)(hk':k'<j)(A9:k'≠k)(h:DWo Wg C n Sb k (Rk k) (O k) w w' es):RWo ty Wg C n k' (Rk k') (O k') w w':=
 ⟨λb hb=>h.stay b (hg.sep k' hk' b hb).1 (λho=>hg.sep2 k' k hk' hk A9 b hb ho) (hg.sep k' hk' b hb).2.2.1,
  λb hb=>let Q1:=hg.giv b (hg.rdo k' hk' b hb);h.stay b (hg.mo b Q1).1 (λho=>(hg.sep k hk b ho).2.2.2 Q1) (hg.mo b Q1).2.2,
  h.size,λhl=>Z14 hl (h.stay Wg hg.hWg (λho=>(hg.sep k hk _ ho).2.1 rfl) (SC hg.hCW)),h.pay,h.cells k' A9⟩
theorem RMo.of_work{k:Nat}(hg:GeoN Wg C Sb w j O Rk Giv o)(hk:k<j)(h:DWo Wg C n Sb k (Rk k) (O k) w w' es):RMo ty Wg C n o w w':=
 ⟨λb hb=>h.stay b (hg.mo b hb).1 (λho=>(hg.sep k hk b ho).2.2.2 hb) (hg.mo b hb).2.2,
  h.size,λhl=>Z14 hl (h.stay Wg hg.hWg (λho=>(hg.sep k hk _ ho).2.1 rfl) (SC hg.hCW)),h.pay,h.tape,h.os,h.output⟩
theorem RWo.of_main{k:Nat}(hg:GeoN Wg C Sb w j O Rk Giv o)(hk:k<j)(h:DMo Wg Sb Giv o w w' es):RWo ty Wg C n k (Rk k) (O k) w w':=
 ⟨λb hb=>h.stay b (hg.sep k hk b hb).1 (.inl (hg.sep k hk b hb).2.2.2),λb hb=>h.stay b (hg.mo b (hg.giv b (hg.rdo k hk b hb))).1 (.inr (hg.rdo k hk b hb)),h.size,
  λhl=>Z14 hl (h.stay Wg hg.hWg (.inl λho=>(hg.mo _ ho).2.1 rfl)),λhp=>Z0s hp (h.stay C hg.hC (.inl λho=>(hg.mo _ ho).2.2 rfl)),Z6G (h.stay C hg.hC (.inl λho=>(hg.mo _ ho).2.2 rfl)) k⟩
theorem Zdg{k:Nat}(h:∀e∈es,EvWo Wg C Sb k (Rk k) Ok e):∀op∈MemOp.ofEvents (N0+k) fn pos es,ZdT N0 (ShN Wg) (Z5P C (upd O k Ok)) (RdL Sb Rk) k op:=by
 intro op A2;obtain⟨e,he,rfl⟩:=XN A2;refine⟨rfl,λx hx=> ?_⟩;rcases(h e he).1 x hx with h1|h1|h1|⟨h1,h2,h3⟩
 ·exact .inl h1
 ·exact .inr (.inl (.inl (by rw[VF];exact h1)))
 ·exact .inr (.inl (.inr h1))
 ·exact .inr (.inr ⟨⟨h1,h2⟩,h3⟩)
theorem Z8o{k:Nat}{OO:Nat->Nat->Prop}(h:∀e∈es,Bk Wg e):∀op∈MemOp.ofEvents (N0+k) fn pos es,ZdT N0 (ShN Wg) (Z5P C OO) (RdL Sb Rk) k op:=by
 intro op A2;obtain⟨e,he,rfl⟩:=XN A2;refine⟨rfl,λx hx=> ?_⟩;rcases h e he with h1|h1|⟨a,wr,rfl,ha⟩
 ·simp only[ofEvent_loc_mark h1] at hx;cases hx
 ·simp only[ofEvent_loc_mark h1] at hx;cases hx
 ·simp only[ofEvent_cell,MemAct.touch?,XJ] at hx;subst hx;exact .inl ⟨⟨a,rfl,ha⟩,by simp,by simp⟩
theorem Z5Q(hB:Wg<B)(h:∀e∈es,Bk Wg e):∀op∈MemOp.ofEvents g fn pos es,op.act.low B:=by
 intro op A2;obtain⟨e,he,rfl⟩:=XN A2;rcases h e he with h1|h1|⟨a,wr,rfl,ha⟩
 ·rw[ofEvent_loc_mark h1];trivial
 ·rw[ofEvent_loc_mark h1];trivial
 ·rw[ofEvent_cell];show a.block<B;omega
theorem Z4b(h:∀e∈es,Bk Wg e):∀op∈MemOp.ofEvents g fn pos es,∀x,op.act.touch? =some x->ShN Wg x.loc/\x.kind= .atomic:=by
 intro op A2 x hx;obtain⟨e,he,rfl⟩:=XN A2;rcases h e he with h1|h1|⟨a,wr,rfl,ha⟩
 ·simp only[ofEvent_loc_mark h1] at hx;cases hx
 ·simp only[ofEvent_loc_mark h1] at hx;cases hx
 ·simp only[ofEvent_cell,MemAct.touch?,XJ] at hx;subst hx;exact⟨⟨a,rfl,ha⟩,rfl⟩
theorem Z3D(hR:ResOk Res)(hN:0<N0)(Dw:∀o g w,AnchW o g w->g.status= .running)(Br:∀o g w,End o g w->g.status= .running)
 (ha:gs[0]? =some a)(Ag:CS P ty Wg C n Sb Res End AnchW tag j Giv o f0 d0 a w)(A8:ComN P ty Wg C n Sb Res N0 j gs w t D O Rk val F q Giv o d0)(A6:BaseN w0 G0 w Giv)
 {k:Nat}(hk:k<j){g g':Goroutine}{es:Array Event}{s' dd':Nat}{r':Tr}{Ok:Nat->Prop}{v':Value}{st' sm':Int}(hg:gs[N0+k]? =some g)(Al:stepG P false g w= .go g' w' es)
 (J8:RMo ty Wg C n o w w')(Et:∀k',k'<j->k'≠k->RWo ty Wg C n k' (Rk k') (O k') w w')
 (Xb:∀b,O k b->Ok b)(Lm:∀b,Ok b->O k b\/(w.heap.size<=b/\b<w'.heap.size))
 (hs':WS P ty Wg C n Sb Res k (Rk k) v' s' Ok r' dd' g' w')
 (Bq:∀op∈MemOp.ofEvents (N0+k) g.frame.fn g.frame.place es,ZdT N0 (ShN Wg) (Z5P C (upd O k Ok)) (RdL Sb Rk) k op)(Cd:∀op∈MemOp.ofEvents (N0+k) g.frame.fn g.frame.place es,op.act.low w'.heap.size)(F1:∀e∈es,e.loc≠.mark (.release (stA Wg)))
 (J9:deafBehind (D k).deaf es=dd')(hrel:s'<=6->∃r,RelN (ShN Wg) (stA Wg) (t++MemOp.ofEvents (N0+k) g.frame.fn g.frame.place es) (N0+k) r)
 (Ja:s'<=6->Has C k v' w'/\Res k Ok v' w')(Ax:WgAt ty Wg w' st' sm')
 (A7:∀tag',(tag'=tag\/(tag= .blk/\tag'= .w3))->(mayWake P g=true->g'.status= .running->tag'≠.blk)->Go.ConcN.Mode j (upd D k ⟨s',0,dd'⟩) tag' st' sm')
 (Cf:tag= .ret->AcqN Wg N0 j (t++MemOp.ofEvents (N0+k) g.frame.fn g.frame.place es))
 (A3:(s'<(D k).stage/\cnt ⟨s',0,dd'⟩<=cnt (D k))\/(s'=(D k).stage/\ZaS r' (F (N0+k)))):
 Z1y P ty Wg C n Sb Res End AnchW N0 w0 G0 ((phi n (Vc j D) tag+Ssum j D,N0+j,F),f0) (runT P (crowd gs w sl) (N0+k)) t:=by
 obtain⟨tag',f',Dg,H6,Ve⟩:=Ag.wokenBy Dw Br J8 g g';have Cj:(N0+k==0)=false:=by simp;omega
 have Aj:=RH (P:=P) (sl:=sl) (i:=N0+k) hg (by rw[Cj];exact Al);have e1:=sumTo_upd D (⟨s',0,dd'⟩:WD) cnt hk;have e2:=sumTo_upd D (⟨s',0,dd'⟩:WD) WD.stage hk
 refine⟨_,_,((phi n (Vc j (upd D k ⟨s',0,dd'⟩)) tag'+Ssum j (upd D k ⟨s',0,dd'⟩),N0+j,upd F (N0+k) r'),f'),Aj,?_,
  _,w',sl,j,upd D k ⟨s',0,dd'⟩,upd O k Ok,Rk,upd val k v',upd F (N0+k) r',q,tag',Giv,o,f',d0,woken P g g' w' a,st',sm',rfl,by rw[RN _ _ _ _ (by omega),ha];rfl,Dg,
  A8.stepW hR hN hk J8 Et Xb Lm hs' Bq Cd F1 J9 hrel Ja,Ax,A7 tag' H6 Ve,?_,A6.step (λb hb=>J8.own b (A8.geo.giv b hb)) J8.tape J8.os J8.output J8.size (λ_ h=>h),rfl⟩
 ·rw[phi_retag n _ H6];refine .inl ?_;simp only[Vc,Ssum] at*;rcases A3 with⟨h1,h2⟩|⟨h1,h2⟩
  ·refine .inl ?_;have:=phi_mono n (v':=sumTo j λa=>cnt (upd D k ⟨s',0,dd'⟩ a)) (v:=sumTo j λa=>cnt (D a)) (by omega) tag;show phi n (sumTo j λa=>cnt (upd D k ⟨s',0,dd'⟩ a)) tag+_<_;omega
  ·have ec:cnt (⟨s',0,dd'⟩:WD)=cnt (D k):=by simp only[cnt,h1]
   have ev:(sumTo j λa=>cnt (upd D k ⟨s',0,dd'⟩ a))=sumTo j λa=>cnt (D a):=by omega
   have es':(sumTo j λa=>(upd D k ⟨s',0,dd'⟩ a).stage)=sumTo j λa=>(D a).stage:=by omega
   rw[ev,es'];refine .inr ⟨rfl,rfl,N0+k,by show N0+k<N0+j;omega,?_,λi hi A9=> ?_⟩
   ·show ZaS (upd F (N0+k) r' (N0+k)) (F (N0+k));rw[VF];exact h2
   ·show upd F (N0+k) r' i=F i;exact upd_ne F _ A9
 ·intro e;rcases H6 with rfl|⟨_,rfl⟩
  ·exact Cf e
  ·cases e
theorem Z8p(hR:ResOk Res)(hN:0<N0)(Dw:∀o g w,AnchW o g w->g.status= .running)(Br:∀o g w,End o g w->g.status= .running)
 (ha:gs[0]? =some a)(Ag:CS P ty Wg C n Sb Res End AnchW tag j Giv o f0 d0 a w)(A8:ComN P ty Wg C n Sb Res N0 j gs w t D O Rk val F q Giv o d0)(A6:BaseN w0 G0 w Giv)(Ax:WgAt ty Wg w st sm)(A7:Go.ConcN.Mode j D tag st sm)(Cf:tag= .ret->AcqN Wg N0 j t)
 {i:Nat}(Cj:0<i)(hi:i<N0){g:Goroutine}(hg:gs[i]? =some g)(Aj:g.status= .running):
 Z1y P ty Wg C n Sb Res End AnchW N0 w0 G0 ((phi n (Vc j D) tag+Ssum j D,N0+j,F),f0) (runT P (crowd gs w sl) i) t:=by
 obtain⟨x,hx,hq,hF⟩:=A8.old i Cj hi;rw[hg] at hx;cases hx;cases Gw:q i with
 |zero=>rw[Gw] at hq;rw[hq.1] at Aj;cases Aj
 |succ m=>
  rw[Gw] at hq hF;rcases hq with⟨hf,_⟩|⟨_,g',es,hm,Nq,hq'⟩
  ·rw[hf] at Aj;cases Aj
  have H7:(i==0)=false:=by simp;omega
  have hr:=RH (P:=P) (sl:=sl) (i:=i) hg (by rw[H7];exact Nq w);have F1:∀e∈es,e.loc≠.mark (.release (stA Wg)):=λe he hl=>by have:=hm e he;obtain⟨loc,wr,sy⟩:=e;simp only at hl;subst hl;simp[Event.mute] at this
  obtain⟨tag',f',Dg,H6,Ve⟩:=Ag.wokenBy Dw Br (.refl o w) g g'
  refine⟨_,_,((phi n (Vc j D) tag'+Ssum j D,N0+j,upd F i (Tr.ofNat m)),f'),hr,?_,_,w,sl,j,D,O,Rk,val,upd F i (Tr.ofNat m),upd q i m,tag',Giv,o,f',d0,woken P g g' w a,st,sm,rfl,by rw[RN _ _ _ _ (by omega),ha];rfl,Dg,
   A8.stepL Cj hi hm hq' F1,Ax,Go.ConcN.Mode.retag A7 H6,?_,A6,rfl⟩
  ·rw[phi_retag n _ H6];refine .inl (.inr ⟨rfl,rfl,i,by show i<N0+j;omega,?_,λk hk A9=> ?_⟩)
   ·show ZaS (upd F i (Tr.ofNat m) i) (F i);rw[VF,hF];exact⟨_,w,rfl,rfl⟩
   ·exact upd_ne F _ A9
  ·intro e;rcases H6 with rfl|⟨_,rfl⟩
   ·exact(Cf e).app λk r hk hr=>hr.app (hr.by_.appOther g_of_ofEvents (by omega)) (λop A2 hg=>by have:=g_of_ofEvents op A2;omega)
   ·cases e
end
end
end Go.Nk
