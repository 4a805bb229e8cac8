import Derived.Test.YtedkbdkbbnemlaaGreatDoorNkA
import Derived.Test.YtedkbdkbbnemlaaGreatDoorNk16
import Derived.Conc.CrowdStepC2
set_option linter.all false
namespace Go.Proofs.Tryv
set_option maxRecDepth 10000
open Go Go.Nk Go.RowKit Go.Conc
open Go.Proofs.Tryq (theBan Zh ZH link payload wgLib Grew Z2r)
attribute [local instance] theBan
attribute [local instance] payload
def Z8O(W:Nat)(x:MemAct):Prop:=(∀y,x.touch? =some y->¬Go.ConcN.ShN W y.loc)/\x≠.mark (.release (Go.ConcR.stA W))
theorem Z5O{W:Nat}{a:Addr}{wr:Bool}(h:a.block≠W):Z8O W (MemAct.ofEvent ⟨.cell a,wr,false⟩):=by
 refine⟨fun y hy=> ?_,by cases wr<;>simp[MemAct.ofEvent]⟩;simp only[Go.ConcR.ofEvent_cell,MemAct.touch?,Option.some.injEq] at hy;subst hy;rintro⟨x,hx,Bv⟩;cases hx;exact h Bv
theorem Z9X{W:Nat}:Z8O W (MemAct.ofEvent ⟨.mark .noRoom,false,true⟩):=
 ⟨fun x hx=>by simp[MemAct.ofEvent,MemAct.touch?] at hx,by simp[MemAct.ofEvent]⟩
theorem Zby{Sb:Nat->Prop}{B:Nat}:EvL (Zu Sb) B ⟨.mark .noRoom,false,true⟩:=
 ⟨fun x hx=>by simp[MemAct.ofEvent,MemAct.touch?] at hx,by simp,by simp,by simp[MemAct.ofEvent,MemAct.low]⟩
theorem Zcn{Sb:Nat->Prop}{B:Nat}{a:Addr}{wr:Bool}(h:¬Sb a.block)(hb:a.block<B):EvL (Zu Sb) B ⟨.cell a,wr,false⟩:=by
 refine evL_cell _ _ ?_ hb;rintro⟨x,hx,Bv⟩;cases hx;exact h Bv
def ZdI(cc:Array Value)(B n:Nat):List Obj:=[.cells cc 143,.cells (ZH (B+1) n 0) 188,.cells #[.slice (some ⟨B+1,0,none⟩) n n] 144,.cells #[.int .u64 0,.int .u32 0] 205]
section
variable {P:Program} {Sb:Nat->Prop} {X:MemAct->Prop} {Stop:Frame->List Frame->World->Prop} {n N:Nat} {m:Nat->Value} {ds:List Deferred} {b:Frame} {k k':List Item} {cs:List Frame} {w:World} {ops:Array Oper} {i:Nat} {rest:List Nat} {o:Oper}
theorem own_c{fr fr1:Frame}{cs1:List Frame}(law:∀w,stepG P true (G fr cs) w= .go (G fr1 cs1) w #[])(h:∃N,OwnTo P Sb X Stop N fr1 cs1 w):∃N,OwnTo P Sb X Stop N fr cs w:=let ⟨_,h⟩:=h;⟨_,Nk.own_c law h⟩
theorem own_v{d:Nat}{v:Value}{w':World}(hk:b.kind≠.early)(ho:ops[i]? =some o)(hd:o.dst=some d)(hg:o.guard=none)(Az:w.heap.size<=w'.heap.size)
 (hr:∀x,(execOp (Zd n m) o).run P (w.at x)= .ok (.value v) (w'.at x)/\∀e∈(execOp (Zd n m) o).events P (w.at x) #[],EvL (Zu Sb) w'.heap.size e/\X (MemAct.ofEvent e))
 (h:∃N,OwnTo P Sb X Stop N (b.at (ZD n (upM m d v) ds) (.inRegion ops rest::k)) cs w'):∃N,OwnTo P Sb X Stop N (b.at (ZD n m ds) (.inRegion ops (i::rest)::k)) cs w:=let ⟨_,h⟩:=h;⟨_,Nk.own_v hk ho hd hg Az hr h⟩
theorem own_u{w':World}(hk:b.kind≠.early)(ho:ops[i]? =some o)(hd:o.dst=none)(hg:o.guard=none)(Az:w.heap.size<=w'.heap.size)
 (hr:∀x,(execOp (Zd n m) o).run P (w.at x)= .ok .skip (w'.at x)/\∀e∈(execOp (Zd n m) o).events P (w.at x) #[],EvL (Zu Sb) w'.heap.size e/\X (MemAct.ofEvent e))
 (h:∃N,OwnTo P Sb X Stop N (b.at (ZD n m ds) (.inRegion ops rest::k)) cs w'):∃N,OwnTo P Sb X Stop N (b.at (ZD n m ds) (.inRegion ops (i::rest)::k)) cs w:=let ⟨_,h⟩:=h;⟨_,Nk.own_u hk ho hd hg Az hr h⟩
theorem Z4U{d:Nat}{v:Value}(hk:b.kind≠.early)(ho:ops[i]? =some o)(hd:o.dst=some d)(hg:o.guard=none)(hr:∀x:World,(execOp (Zd n m) o).run P x= .ok (.value v) x/\∀e∈(execOp (Zd n m) o).events P x #[],False)
 (h:∃N,OwnTo P Sb X Stop N (b.at (ZD n (upM m d v) ds) (.inRegion ops rest::k)) cs w):∃N,OwnTo P Sb X Stop N (b.at (ZD n m ds) (.inRegion ops (i::rest)::k)) cs w:=
 own_v hk ho hd hg (Nat.le_refl _) (fun x=>⟨(hr _).1,fun e he=>((hr _).2 e he).elim⟩) h
end
section
variable {o:Oper} {m:Nat->Value} {w:World} {Sb:Nat->Prop} {W:Nat}
theorem Z3b(w:World)(ob:Obj):w.heap.size<=(w.alloc ob).heap.size:=by
 have e:(w.alloc ob).heap=w.heap.push ob:=rfl;rw[e];simp
theorem Ze9{cc:Array Value}(A1:o.op= .box 143 (.tmp 0))(h:m 0= .agg cc)(x:Nat):(execOp (Zd 23 m) o).run Tryz.prog (w.at x)= .ok (.value (.pointer (some ⟨w.heap.size,0,none⟩))) ((w.alloc (.cells cc 143)).at x)/\∀e∈(execOp (Zd 23 m) o).events Tryz.prog (w.at x) #[],EvL (Zu Sb) (w.alloc (.cells cc 143)).heap.size e/\Z8O W (MemAct.ofEvent e):=
 ⟨(Ze5 (w:=w.at x) A1 h).1,fun e he=>((Ze5 (w:=w.at x) A1 h).2 e he).elim⟩
theorem mk_at{n:Nat}(hn:n<=8)(A1:o.op= .makeSlice 144 (.tmp 9) (.tmp 9))(h:m 9= .int .i64 n)(x:Nat):(execOp (Zd 23 m) o).run Tryz.prog (w.at x)= .ok (.value (.slice (some ⟨w.heap.size,0,none⟩) n n)) ((w.alloc (.cells (ZH w.heap.size n 0) 188)).at x)/\
 ∀e∈(execOp (Zd 23 m) o).events Tryz.prog (w.at x) #[],EvL (Zu Sb) (w.alloc (.cells (ZH w.heap.size n 0) 188)).heap.size e/\Z8O W (MemAct.ofEvent e):=
 ⟨(r_mk (w:=w.at x) hn A1 h).1,fun e he=>by rw[(r_mk (w:=w.at x) hn A1 h).2 e he];exact⟨Zby,Z9X⟩⟩
theorem Z7z{t:TypeId}{z:Array Value}(A1:o.op= .alloc t)(ht:(t=144/\z= #[.slice none 0 0])\/(t=205/\z= #[.int .u64 0,.int .u32 0])\/(t=3/\z= #[.int .i64 0]))(x:Nat):
 (execOp (Zd 23 m) o).run Tryz.prog (w.at x)= .ok (.value (.pointer (some ⟨w.heap.size,0,none⟩))) ((w.alloc (.cells z t)).at x)/\∀e∈(execOp (Zd 23 m) o).events Tryz.prog (w.at x) #[],EvL (Zu Sb) (w.alloc (.cells z t)).heap.size e/\Z8O W (MemAct.ofEvent e):=
 ⟨(Z6D (w:=w.at x) A1 ht).1,fun e he=>((Z6D (w:=w.at x) A1 ht).2 e he).elim⟩
theorem Z6F{t:TypeId}{s:Tmp}{a:Addr}{v:Value}(A1:o.op= .load t (.tmp s))(ht:t=68\/t=144)(hs:s<23)(h:m s= .pointer (some a))(hc:w.cell? a=some v)(hb:¬Sb a.block)(A4:a.block<w.heap.size)(hW:a.block≠W)(x:Nat):
 (execOp (Zd 23 m) o).run Tryz.prog (w.at x)= .ok (.value v) (w.at x)/\∀e∈(execOp (Zd 23 m) o).events Tryz.prog (w.at x) #[],EvL (Zu Sb) w.heap.size e/\Z8O W (MemAct.ofEvent e):=
 ⟨(Zcm (w:=w.at x) A1 ht hs h hc).1,fun e he=>by rw[(Zcm (w:=w.at x) A1 ht hs h hc).2 e he];exact⟨Zcn hb A4,Z5O hW⟩⟩
theorem Z8n(w:World)(a:Addr)(v:Value)(x:Nat):(w.at x).setCell a v=(w.setCell a v).at x:=by
 unfold World.setCell World.at;split<;>simp_all
theorem Zbz{t:TypeId}{s s':Tmp}{a:Addr}{v u:Value}(A1:o.op= .store t (.tmp s) (.tmp s'))(hs:s<23)(hs':s'<23)(h:m s= .pointer (some a))(h':m s'=v)(ht:(t=144/\∃b n c,v= .slice b n c)\/(t=3/\∃n,v= .int .i64 n))(hc:w.cell? a=some u)(hz:w.frozen? a=false)(hb:¬Sb a.block)(A4:a.block<(w.setCell a v).heap.size)(hW:a.block≠W)(x:Nat):
 (execOp (Zd 23 m) o).run Tryz.prog (w.at x)= .ok .skip ((w.setCell a v).at x)/\∀e∈(execOp (Zd 23 m) o).events Tryz.prog (w.at x) #[],EvL (Zu Sb) (w.setCell a v).heap.size e/\Z8O W (MemAct.ofEvent e):=
 ⟨by rw[<-Z8n];exact(Z6E (w:=w.at x) A1 hs hs' h h' ht hc hz).1,fun e he=>by rw[(Z6E (w:=w.at x) A1 hs hs' h h' ht hc hz).2 e he];exact⟨Zcn hb A4,Z5O hW⟩⟩
end
theorem Zde(x:Value):Frame.enter Tryz.prog 155 #[x] .normal=(base 155).at (ZD 23 (fun i=>if i=0 then x else undef) []) [.code body82]:=by
 rw[enter_at #[x] Tryz.func155 f82_body];have e: #[x]++Array.replicate (Tryz.f155.ntmps - (#[x]:Array Value).size) undef=(ZD 23 (fun i=>if i=0 then x else undef) []).tmps:=by
  rw[f82_ntmps];show #[x]++Array.replicate 22 undef=_;apply Array.ext';simp[ZD,List.replicate_succ,List.ofFn_succ]
 rw[e];rfl
theorem pre82{Sb:Nat->Prop}{Stop:Frame->List Frame->World->Prop}{cs:List Frame}{w:World}{cc:Array Value}{ad:Option Addr}{nn cap:Nat}(hn:nn<=8)(h47:cc[4]? =some (.slice ad nn cap))(Hg:∀b,Sb b->b<w.heap.size)
 (Iu:∀(m:Nat->Value)(w1:World),Grew w w1 (ZdI cc w.heap.size nn)->m 1= .pointer (some ⟨w.heap.size,0,none⟩)->m 3= .pointer (some ⟨w.heap.size+2,0,none⟩)->m 4= .pointer (some ⟨w.heap.size+3,0,none⟩)->m 14= .int .i64 nn->m 15= .int .i64 (0:Nat)->
   Stop ((base 155).at (ZD 23 m []) [.code L82,.inLoop L82,.inBlock 0,.code T82]) cs w1):
 ∃N,OwnTo Tryz.prog Sb (Z8O (w.heap.size+3)) Stop N (Frame.enter Tryz.prog 155 #[.agg cc] .normal) cs w:=by
 rw[Zde,body82_eq];have A9:(base 155).kind≠.early:=by decide
 refine own_c (fun w=>stepG_seq) ?_;refine own_c (fun w=>stepG_region) ?_;rw[q0_size];obtain⟨o,ho,hd,A1,hg⟩:=q0_0;refine own_v A9 ho hd hg (Z3b _ _) (Ze9 (cc:=cc) A1 rfl) ?_;have hG:Grew w (w.alloc (.cells cc 143)) [.cells cc 143]:=(Grew.nil w).push _;generalize w.alloc (.cells cc 143)=w1 at hG⊢;obtain⟨o,ho,hd,A1,hg⟩:=q0_1;refine Z4U A9 ho hd hg (fun x=>Z9T A1 (.inl rfl)) ?_;refine own_c (fun w=>stepG_region_end) ?_;refine own_c (fun w=>stepG_seq) ?_;refine own_c (fun w=>stepG_region) ?_;rw[q1_size];obtain⟨o,ho,hd,A1,hg⟩:=q1_0;refine Z4U A9 ho hd hg (fun x=>Z9V (a:=⟨w.heap.size,0,none⟩) A1 (by decide) rfl) ?_;obtain⟨o,ho,hd,A1,hg⟩:=q1_1;refine Z4U A9 ho hd hg (fun x=>Z9W (a:=⟨w.heap.size,0,none⟩) A1 (by decide) rfl) ?_;have c4:w1.cell? ⟨w.heap.size,4,none⟩=some (.slice ad nn cap):=(hG.cellNew 0 rfl 4).trans h47;have hB:∀j,¬Sb (w.heap.size+j):=fun j h=>by have:=Hg _ h;omega
 have Cc:w1.heap.size=w.heap.size+1:=hG.size;obtain⟨o,ho,hd,A1,hg⟩:=q1_2;refine own_v A9 ho hd hg (Nat.le_refl _) (Z6F (a:=⟨w.heap.size,4,none⟩) A1 (.inl rfl) (by decide) rfl c4 (hB 0) (by show w.heap.size<_;omega) (by show w.heap.size≠_;omega)) ?_;obtain⟨o,ho,hd,A1,hg⟩:=q1_3;refine Z4U A9 ho hd hg (fun x=>Ze6 (b:=ad) (n:=nn) (c:=cap) A1 (by decide) rfl) ?_;obtain⟨o,ho,hd,A1,hg⟩:=q1_4;refine own_v A9 ho hd hg (Z3b _ _) (mk_at hn A1 rfl) ?_;rw[Cc];have hG:=hG.push (.cells (ZH (w.heap.size+1) nn 0) 188);generalize w1.alloc (.cells (ZH (w.heap.size+1) nn 0) 188)=w2 at hG⊢;have Cw:w2.heap.size=w.heap.size+2:=hG.size;obtain⟨o,ho,hd,A1,hg⟩:=q1_5;refine own_v A9 ho hd hg (Z3b _ _) (Z7z (z:= #[.slice none 0 0]) A1 (.inl ⟨rfl,rfl⟩)) ?_;rw[Cw];have hG:=hG.push (.cells #[.slice none 0 0] 144);generalize w2.alloc (.cells #[.slice none 0 0] 144)=w3 at hG⊢;have E2:w3.heap.size=w.heap.size+3:=hG.size;have Nm:=hG.setCell 2 rfl 0 (.slice (some ⟨w.heap.size+1,0,none⟩) nn nn);have E6:=Nm.size;obtain⟨o,ho,hd,A1,hg⟩:=q1_6;refine own_u A9 ho hd hg (by rw[E6,E2];simp) (Zbz (a:=⟨w.heap.size+2,0,none⟩) (v:= .slice (some ⟨w.heap.size+1,0,none⟩) nn nn) A1 (by decide) (by decide) rfl rfl (.inl ⟨rfl,_,_,_,rfl⟩) (hG.cellNew 2 rfl 0) (hG.thaw 2 rfl 0) (hB 2) (by show w.heap.size+2<_;rw[E6];simp) (by show w.heap.size+2≠_;omega)) ?_
 clear E6;generalize w3.setCell ⟨w.heap.size+2,0,none⟩ (.slice (some ⟨w.heap.size+1,0,none⟩) nn nn)=w4 at Nm⊢;refine own_c (fun w=>stepG_region_end) ?_;refine own_c (fun w=>stepG_seq) ?_;refine own_c (fun w=>stepG_region) ?_;rw[q2_size];have E6:w4.heap.size=w.heap.size+3:=Nm.size;obtain⟨o,ho,hd,A1,hg⟩:=q2_0;refine own_v A9 ho hd hg (Z3b _ _) (Z7z (z:= #[.int .u64 0,.int .u32 0]) A1 (.inr (.inl ⟨rfl,rfl⟩))) ?_;rw[E6];have Iv:=Nm.push (.cells #[.int .u64 0,.int .u32 0] 205);generalize w4.alloc (.cells #[.int .u64 0,.int .u32 0] 205)=w5 at Iv⊢;have Iv:Grew w w5 (ZdI cc w.heap.size nn):=Iv;have M1:w5.heap.size=w.heap.size+4:=Iv.size;refine own_c (fun w=>stepG_region_end) ?_;refine own_c (fun w=>stepG_seq) ?_;refine own_c (fun w=>stepG_seq) ?_;refine own_c (fun w=>stepG_region) ?_;rw[q3_size];obtain⟨o,ho,hd,A1,hg⟩:=q3_0;refine Z4U A9 ho hd hg (fun x=>Z9V (a:=⟨w.heap.size,0,none⟩) A1 (by decide) rfl) ?_;obtain⟨o,ho,hd,A1,hg⟩:=q3_1;refine Z4U A9 ho hd hg (fun x=>Z9W (a:=⟨w.heap.size,0,none⟩) A1 (by decide) rfl) ?_;have c4:w5.cell? ⟨w.heap.size,4,none⟩=some (.slice ad nn cap):=(Iv.cellNew 0 rfl 4).trans h47;obtain⟨o,ho,hd,A1,hg⟩:=q3_2;refine own_v A9 ho hd hg (Nat.le_refl _) (Z6F (a:=⟨w.heap.size,4,none⟩) A1 (.inl rfl) (by decide) rfl c4 (hB 0) (by show w.heap.size<_;omega) (by show w.heap.size≠_;omega)) ?_
 obtain⟨o,ho,hd,A1,hg⟩:=q3_3;refine Z4U A9 ho hd hg (fun x=>Ze6 (b:=ad) (n:=nn) (c:=cap) A1 (by decide) rfl) ?_;obtain⟨o,ho,hd,A1,hg⟩:=q3_4;refine Z4U A9 ho hd hg (fun x=>Z9T A1 (.inr rfl)) ?_;refine own_c (fun w=>stepG_region_end) ?_;refine own_c (fun w=>stepG_block) ?_;refine own_c (fun w=>stepG_loop) ?_;refine⟨0,fun d=>Iu _ _ ?_ rfl rfl rfl rfl rfl⟩;exact⟨Iv.size,Iv.old,Iv.new,Iv.tape,Iv.oss,Iv.output⟩
end Go.Proofs.Tryv
namespace Go.Nk
open Go Go.Conc
open Go.ConcN (ShN WgLive PayAt Has CTag RW upd upd_same upd_ne WD RelBy get_map_set get_map_set_same norel_of Deaf_absent Deaf_still)
open Go.ConcR (KK WgAt stA smA rd wr mk Payload DC0 g_of_ofEvents)
variable [Payload]
def Z5P(C:Nat)(O:Nat->Nat->Prop)(k:Nat)(l:Loc):Prop:=LB (O k) l\/l= .cell ⟨C,k,none⟩
def RdL(Sb:Nat->Prop)(Rk:Nat->Nat->Prop)(k:Nat)(l:Loc):Prop:=LB (Rk k) l/\¬Zu Sb l
structure GeoN(Wg C:Nat)(Sb:Nat->Prop)(w:World)(j:Nat)(O Rk:Nat->Nat->Prop)(Giv o:Nat->Prop):Prop where
 sep:∀k,k<j->∀b,O k b->b<w.heap.size/\b≠Wg/\b≠C/\¬o b
 sep2:∀k k',k<j->k'<j->k≠k'->∀b,O k b->¬O k' b
 mo:∀b,o b->b<w.heap.size/\b≠Wg/\b≠C
 rdo:∀k,k<j->∀b,Rk k b->Giv b
 giv:∀b,Giv b->o b
 sb:∀b,Sb b->o b
 hWg:Wg<w.heap.size
 hC:C<w.heap.size
 hCW:C≠Wg
theorem Z4V{S S':Nat->Prop}{l:Loc}(h:LB S l)(h':LB S' l):∃b,S b/\S' b:=by
 rcases h with⟨a,rfl,h⟩|⟨r,rfl,h⟩<;>rcases h' with⟨a',e,h'⟩|⟨r',e,h'⟩<;>cases e
 ·exact⟨_,h,h'⟩
 ·exact⟨_,h,h'⟩
theorem Z2M{S:Nat->Prop}{a:Addr}(h:LB S (.cell a)):S a.block:=by
 rcases h with⟨a',e,h⟩|⟨r,e,h⟩<;>cases e
 exact h
theorem Zco{S:Nat->Prop}{l:Loc}(h:LB S l):l.isMemory=true:=by
 rcases h with⟨a,rfl,h⟩|⟨r,rfl,h⟩<;>rfl
theorem Zcp{S S':Nat->Prop}{l:Loc}(h:LB S l)(hs:∀b,S b->S' b):LB S' l:=by
 rcases h with⟨a,rfl,h⟩|⟨r,rfl,h⟩
 ·exact .inl ⟨a,rfl,hs _ h⟩
 ·exact .inr ⟨r,rfl,hs _ h⟩
theorem GeoN.apart{Wg C:Nat}{Sb:Nat->Prop}{w:World}{j:Nat}{O Rk:Nat->Nat->Prop}{Giv o:Nat->Prop}(h:GeoN Wg C Sb w j O Rk Giv o):ApartN (ShN Wg) (Zu Sb) (Z5P C O) (RdL Sb Rk) j:=by
 refine⟨fun k k' l hk hk' h1 h2=> ?_,fun k k' l hk hk' h1 h2=> ?_,fun k l hk h1=>⟨fun h2=> ?_,fun h2=> ?_⟩,fun k l hk h1=>⟨fun h2=> ?_,h1.2⟩⟩
 ·rcases h1 with h1|rfl<;>rcases h2 with h2|h2
  ·apply Classical.byContradiction;intro A9;obtain⟨b,hb,hb'⟩:=Z4V h1 h2;exact h.sep2 k k' hk hk' A9 b hb hb'
  ·subst h2;exact absurd rfl (h.sep k hk _ (Z2M h1)).2.2.1
  ·exact absurd rfl (h.sep k' hk' _ (Z2M h2)).2.2.1
  ·cases h2;rfl
 ·rcases h1 with h1|rfl
  ·obtain⟨b,hb,hb'⟩:=Z4V h1 h2.1;exact(h.sep k hk b hb).2.2.2 (h.giv b (h.rdo k' hk' b hb'))
  ·exact absurd rfl (h.mo _ (h.giv _ (h.rdo k' hk' _ (Z2M h2.1)))).2.2
 ·obtain⟨a,rfl,ha⟩:=h2;rcases h1 with h1|h1
  ·exact(h.sep k hk _ (Z2M h1)).2.1 ha
  ·cases h1;exact h.hCW ha
 ·obtain⟨a,rfl,ha⟩:=h2;rcases h1 with h1|h1
  ·exact(h.sep k hk _ (Z2M h1)).2.2.2 (h.sb _ ha)
  ·cases h1;exact(h.mo _ (h.sb _ ha)).2.2 rfl
 ·obtain⟨a,rfl,ha⟩:=h2;exact(h.mo _ (h.giv _ (h.rdo k hk _ (Z2M h1.1)))).2.1 ha
section
variable (P:Program) (ty:TypeId) (Wg C n:Nat) (Sb:Nat->Prop) (Res:Nat->(Nat->Prop)->Value->World->Prop)
structure ComN(N0 j:Nat)(gs:Array Goroutine)(w:World)(t:Trace)(D:Nat->WD)(O Rk:Nat->Nat->Prop)(val:Nat->Value)(F:Nat->Tr)(q:Nat->Nat)(Giv o:Nat->Prop)(d0:Nat):Prop where
 size:gs.size=N0+j
 wk:∀k,k<j->∃g,gs[N0+k]? =some g/\WS P ty Wg C n Sb Res k (Rk k) (val k) (D k).stage (O k) (F (N0+k)) (D k).deaf g w
 old:∀i,0<i->i<N0->∃g,gs[i]? =some g/\QuitsD P (q i) (Deaf t i) g/\F i=Tr.ofNat (q i)
 tn:TN N0 (ShN Wg) (Zu Sb) (Z5P C O) (RdL Sb Rk) t j
 oldk:OldK N0 (Zu Sb) t
 norel:NoRelease (stA Wg) t
 deaf0:Deaf t 0=d0
 deafW:∀k,k<j->Deaf t (N0+k)=(D k).deaf
 rel:∀k,k<j->(D k).stage<=6->∃r,RelN (ShN Wg) (stA Wg) t (N0+k) r
 has:∀k,k<j->(D k).stage<=6->Has C k (val k) w/\Res k (O k) (val k) w
 pay:PayAt C n w
 low:∀op∈t,op.act.low w.heap.size
 geo:GeoN Wg C Sb w j O Rk Giv o
def ResOk:Prop:=∀k o v w w₁,(∀b,o b->w₁.heap[b]? =w.heap[b]?)->Res k o v w->Res k o v w₁
end
section
variable {P:Program} {ty:TypeId} {Wg C n:Nat} {Sb:Nat->Prop} {Res:Nat->(Nat->Prop)->Value->World->Prop} {N0 j:Nat} {gs:Array Goroutine} {w w':World} {t:Trace} {D:Nat->WD} {O Rk:Nat->Nat->Prop} {val:Nat->Value} {F:Nat->Tr} {q:Nat->Nat} {Giv o:Nat->Prop} {d0:Nat}
theorem GeoN.step{w':World}(h:GeoN Wg C Sb w j O Rk Giv o)(hs:w.heap.size<=w'.heap.size):GeoN Wg C Sb w' j O Rk Giv o:=
 ⟨fun k hk b hb=>⟨YS (h.sep k hk b hb).1 hs,(h.sep k hk b hb).2⟩,h.sep2,fun b hb=>⟨YS (h.mo b hb).1 hs,(h.mo b hb).2⟩,h.rdo,h.giv,h.sb,YS h.hWg hs,YS h.hC hs,h.hCW⟩
theorem GeoN.growW{w':World}(h:GeoN Wg C Sb w j O Rk Giv o)(hs:w.heap.size<=w'.heap.size){k:Nat}{Ok:Nat->Prop}(h2:∀b,Ok b->O k b\/(w.heap.size<=b/\b<w'.heap.size)):GeoN Wg C Sb w' j (upd O k Ok) Rk Giv o:=by
 have h':=h.step hs;have hWg:=h.hWg;have hC:=h.hC;refine⟨fun k' hk' b hb=> ?_,fun k1 k2 F9 B0 A9 b hb=> ?_,h'.mo,h'.rdo,h'.giv,h'.sb,h'.hWg,h'.hC,h'.hCW⟩
 ·by_cases e:k'=k
  ·subst e;rw[upd_same] at hb;rcases h2 b hb with hb|⟨h3,h4⟩
   ·exact h'.sep k' hk' b hb
   ·exact⟨h4,by omega,by omega,fun ho=>by have:=(h.mo b ho).1;omega⟩
  ·rw[upd_ne O _ e] at hb;exact h'.sep k' hk' b hb
 ·by_cases e1:k1=k
  ·subst e1;rw[upd_same] at hb;rw[upd_ne O _ (Ne.symm A9)];rcases h2 b hb with hb|⟨h3,h4⟩
   ·exact h.sep2 _ _ F9 B0 A9 b hb
   ·exact fun ho=>by have:=(h.sep k2 B0 b ho).1;omega
  ·rw[upd_ne O _ e1] at hb;by_cases e2:k2=k
   ·subst e2;rw[upd_same];intro ho;rcases h2 b ho with ho|⟨h3,h4⟩
    ·exact h.sep2 _ _ F9 B0 A9 b hb ho
    ·have:=(h.sep k1 F9 b hb).1;omega
   ·rw[upd_ne O _ e2];exact h.sep2 _ _ F9 B0 A9 b hb
theorem GeoN.grow0{w':World}(h:GeoN Wg C Sb w j O Rk Giv o)(hs:w.heap.size<=w'.heap.size):GeoN Wg C Sb w' j O Rk Giv (grow o w w'):=by
 have hWg:=h.hWg;have hC:=h.hC;refine⟨fun k hk b hb=>⟨YS (h.sep k hk b hb).1 hs,(h.sep k hk b hb).2.1,(h.sep k hk b hb).2.2.1,?_⟩,h.sep2,fun b hb=> ?_,h.rdo,fun b hb=> .inl (h.giv b hb),fun b hb=> .inl (h.sb b hb),YS h.hWg hs,YS h.hC hs,h.hCW⟩
 ·rintro(ho|⟨h1,h2⟩)
  ·exact(h.sep k hk b hb).2.2.2 ho
  ·have:=(h.sep k hk b hb).1;omega
 ·rcases hb with hb|⟨h1,h2⟩
  ·exact⟨YS (h.mo b hb).1 hs,(h.mo b hb).2⟩
  ·exact⟨h2,by omega,by omega⟩
theorem ComN.at(h:ComN P ty Wg C n Sb Res N0 j gs w t D O Rk val F q Giv o d0)(hR:ResOk Res)(d:Nat):ComN P ty Wg C n Sb Res N0 j gs (w.at d) t D O Rk val F q Giv o d0:=
 ⟨h.size,fun k hk=>let ⟨g,hg,hs⟩:=h.wk k hk;⟨g,hg,hs.rely (RWo.at w d)⟩,h.old,h.tn,h.oldk,h.norel,h.deaf0,h.deafW,h.rel,fun k hk hs=>⟨(h.has k hk hs).1,hR _ _ _ w (w.at d) (fun _ _=>rfl) (h.has k hk hs).2⟩,h.pay,h.low,h.geo.step (Nat.le_refl _)⟩
theorem Z1c{u:Trace}(h:∀op∈t,op.act.low w.heap.size)(hs:w.heap.size<=w'.heap.size)(hu:∀op∈u,op.act.low w'.heap.size):∀op∈t++u,op.act.low w'.heap.size:=
 fun op A1=>(Array.mem_append.1 A1).elim (fun x=>MemAct.low_mono hs (h op x)) (hu op)
theorem Z9Y{l:Loc}(h:∀op∈t,op.act.low w.heap.size)(hl:¬l.low w.heap.size):∀i a,touchAt t i=some a->a.loc≠l:=by
 intro i a ha e;obtain⟨op,A1,Ks⟩:=touch_of ha;have C1:=h op (Array.mem_of_getElem? A1);subst e;apply hl;cases hx:op.act with
 |access e=>
  rw[hx] at Ks C1;simp only[MemAct.touch?,Option.some.injEq] at Ks;subst Ks;exact C1
 |mark m=>
  rw[hx] at Ks C1;cases m<;>simp only[MemAct.touch?,Option.some.injEq] at Ks<;>first|(cases Ks;done)|(subst Ks;exact C1)
 |_=>rw[hx] at Ks;cases Ks
theorem ComN.stepW(hR:ResOk Res)(h:ComN P ty Wg C n Sb Res N0 j gs w t D O Rk val F q Giv o d0)(hN:0<N0){k:Nat}(hk:k<j){g g':Goroutine}{fn:FuncId}{pos:String}{es:Array Event}{s' dd':Nat}{r':Tr}{Ok:Nat->Prop}{v':Value}
 (Iw:RMo ty Wg C n o w w')(Ix:∀k',k'<j->k'≠k->RWo ty Wg C n k' (Rk k') (O k') w w')
 (X4:∀b,O k b->Ok b)(Kt:∀b,Ok b->O k b\/(w.heap.size<=b/\b<w'.heap.size))
 (hs':WS P ty Wg C n Sb Res k (Rk k) v' s' Ok r' dd' g' w')
 (B5:∀op∈MemOp.ofEvents (N0+k) fn pos es,ZdT N0 (ShN Wg) (Z5P C (upd O k Ok)) (RdL Sb Rk) k op)(C1:∀op∈MemOp.ofEvents (N0+k) fn pos es,op.act.low w'.heap.size)(Ep:∀e∈es,e.loc≠.mark (.release (stA Wg)))
 (Iy:deafBehind (D k).deaf es=dd')(hrel:s'<=6->∃r,RelN (ShN Wg) (stA Wg) (t++MemOp.ofEvents (N0+k) fn pos es) (N0+k) r)
 (Iz:s'<=6->Has C k v' w'/\Res k Ok v' w'):
 ComN P ty Wg C n Sb Res N0 j ((gs.map (woken P g g' w')).setIfInBounds (N0+k) g') w' (t++MemOp.ofEvents (N0+k) fn pos es) (upd D k ⟨s',0,dd'⟩) (upd O k Ok) Rk (upd val k v') (upd F (N0+k) r') q Giv o d0:=by
 have Ew:=h.geo.growW Iw.size Kt;have X5:TN N0 (ShN Wg) (Zu Sb) (Z5P C (upd O k Ok)) (RdL Sb Rk) t j:=by
  refine h.tn.grow (fun k' l hk' hl=> ?_) (fun k' l hk' hl=> ?_)
  ·by_cases e:k'=k
   ·subst e;rcases hl with hl|hl
    ·left;rw[upd_same];exact Zcp hl X4
    ·exact .inr hl
   ·unfold Z5P;rw[upd_ne O _ e];exact hl
  ·by_cases e:k'=k
   ·subst e;rcases hl with hl|hl
    ·rw[upd_same] at hl;by_cases Fo:LB (O k') l
     ·exact .inl (.inl Fo)
     ·refine .inr (Z9Y h.low fun Pt=> ?_);rcases hl with⟨a,rfl,ha⟩|⟨r,rfl,ha⟩
      ·rcases Kt _ ha with ha|⟨h3,_⟩
       ·exact Fo (.inl ⟨a,rfl,ha⟩)
       ·have:a.block<w.heap.size:=Pt;omega
      ·rcases Kt _ ha with ha|⟨h3,_⟩
       ·exact Fo (.inr ⟨r,rfl,ha⟩)
       ·have:r<w.heap.size:=Pt;omega
    ·exact .inl (.inr hl)
   ·unfold Z5P at hl;rw[upd_ne O _ e] at hl;exact .inl hl
 refine⟨by simp[h.size],fun k' hk'=> ?_,fun i Cd hi=> ?_,X5.appW Ew.apart hk B5,h.oldk.app (fun op A1=> .inr (.inl (by rw[(B5 op A1).1];omega))),h.norel.app (norel_of Ep),by rw[Deaf_other t (by omega) _ g_of_ofEvents,h.deaf0],fun k' hk'=> ?_,fun k' hk' Ac=> ?_,fun k' hk' Ac=> ?_,Iw.pay h.pay,Z1c h.low Iw.size C1,Ew⟩
 ·by_cases e:k'=k
  ·subst e;exact⟨g',get_map_set_same _ _ _ (by rw[h.size];omega),by rw[upd_same,upd_same,upd_same,upd_same];exact hs'⟩
  ·obtain⟨x,hx,M3⟩:=h.wk k' hk';refine⟨x,by rw[get_map_set _ _ _ _ (by omega),hx,Option.map_some,M3.woken],?_⟩;rw[upd_ne D _ e,upd_ne O _ e,upd_ne val _ e,upd_ne F _ (by omega)];exact M3.rely (Ix k' hk' e)
 ·obtain⟨x,hx,hq,hF⟩:=h.old i Cd hi;refine⟨x,by rw[get_map_set _ _ _ _ (by omega),hx,Option.map_some,woken_quitsD hq],?_,by rw[upd_ne F _ (by omega)];exact hF⟩;rw[Deaf_other t (by omega) _ g_of_ofEvents];exact hq
 ·by_cases e:k'=k
  ·subst e;rw[Deaf_own,h.deafW k' hk',upd_same];exact Iy
  ·rw[Deaf_other t (by omega) _ g_of_ofEvents,h.deafW k' hk',upd_ne D _ e]
 ·by_cases e:k'=k
  ·subst e;rw[upd_same] at Ac;exact hrel Ac
  ·rw[upd_ne D _ e] at Ac;obtain⟨r,hr⟩:=h.rel k' hk' Ac;exact⟨r,hr.app (hr.by_.appOther g_of_ofEvents (by omega)) (fun op A1 hg=>by have:=g_of_ofEvents op A1;omega)⟩
 ·by_cases e:k'=k
  ·subst e;rw[upd_same] at Ac;rw[upd_same,upd_same];exact Iz Ac
  ·rw[upd_ne D _ e] at Ac;rw[upd_ne val _ e,upd_ne O _ e];exact⟨(Ix k' hk' e).cell.trans (h.has k' hk' Ac).1,hR _ _ _ _ _ (Ix k' hk' e).own (h.has k' hk' Ac).2⟩
theorem ComN.step0(hR:ResOk Res)(h:ComN P ty Wg C n Sb Res N0 j gs w t D O Rk val F q Giv o d0)(hN:0<N0){a a':Goroutine}{fn:FuncId}{pos:String}{es:Array Event}(Az:w.heap.size<=w'.heap.size)
 (Ix:∀k,k<j->RWo ty Wg C n k (Rk k) (O k) w w')(B5:∀op∈MemOp.ofEvents 0 fn pos es,ZdS (ShN Wg) (Zu Sb) (Z5P C O) (RdL Sb Rk) j op)(C1:∀op∈MemOp.ofEvents 0 fn pos es,op.act.low w'.heap.size)(Ep:∀e∈es,e.loc≠.mark (.release (stA Wg)))(Du:PayAt C n w'):
 ComN P ty Wg C n Sb Res N0 j ((gs.map (woken P a a' w')).setIfInBounds 0 a') w' (t++MemOp.ofEvents 0 fn pos es) D O Rk val F q Giv (grow o w w') (deafBehind d0 es):=by
 refine⟨by simp[h.size],fun k hk=> ?_,fun i Cd hi=> ?_,h.tn.app0 hN h.geo.apart B5,h.oldk.app (fun op A1=> .inl (B5 op A1).1),h.norel.app (norel_of Ep),by rw[Deaf_own,h.deaf0],fun k hk=>by rw[Deaf_other t (by omega) _ g_of_ofEvents,h.deafW k hk],fun k hk Ac=> ?_,fun k hk Ac=>⟨(Ix k hk).cell.trans (h.has k hk Ac).1,hR _ _ _ _ _ (Ix k hk).own (h.has k hk Ac).2⟩,Du,Z1c h.low Az C1,h.geo.grow0 Az⟩
 ·obtain⟨x,hx,M3⟩:=h.wk k hk;exact⟨x,by rw[get_map_set _ _ _ _ (by omega),hx,Option.map_some,M3.woken],M3.rely (Ix k hk)⟩
 ·obtain⟨x,hx,hq,hF⟩:=h.old i Cd hi;refine⟨x,by rw[get_map_set _ _ _ _ (by omega),hx,Option.map_some,woken_quitsD hq],?_,hF⟩;rw[Deaf_other t (by omega) _ g_of_ofEvents];exact hq
 ·obtain⟨r,hr⟩:=h.rel k hk Ac;exact⟨r,hr.app (hr.by_.appOther g_of_ofEvents (by omega)) (fun op A1 hg=>by have:=g_of_ofEvents op A1;omega)⟩
theorem ComN.stepL(h:ComN P ty Wg C n Sb Res N0 j gs w t D O Rk val F q Giv o d0){i m:Nat}(Cd:0<i)(hi:i<N0){g g':Goroutine}{fn:FuncId}{pos:String}{es:Array Event}(hm:∀e∈es,e.mute=true)(hq':QuitsD P m (deafBehind (Deaf t i) es) g')(Ep:∀e∈es,e.loc≠.mark (.release (stA Wg))):
 ComN P ty Wg C n Sb Res N0 j ((gs.map (woken P g g' w)).setIfInBounds i g') w (t++MemOp.ofEvents i fn pos es) D O Rk val (upd F i (Tr.ofNat m)) (upd q i m) Giv o d0:=by
 have hg:∀op∈MemOp.ofEvents i fn pos es,op.g=i:=g_of_ofEvents;have ht:∀op∈MemOp.ofEvents i fn pos es,op.act.touch? =none:=fun op A1=>by obtain⟨e,he,rfl⟩:=Go.Conc.mem_ofEvents A1;exact touch_mute (hm e he)
 have hl:∀op∈MemOp.ofEvents i fn pos es,op.act.low w.heap.size:=fun op A1=>by obtain⟨e,he,rfl⟩:=Go.Conc.mem_ofEvents A1;exact low_mute (hm e he) _
 refine⟨by simp[h.size],fun k hk=> ?_,fun i' Ri hi'=> ?_,h.tn.appMute (by omega) hg ht,h.oldk.app (fun op A1=> .inr (.inr (ht op A1))),h.norel.app (norel_of Ep),by rw[Deaf_other t (by omega) _ g_of_ofEvents,h.deaf0],fun k hk=>by rw[Deaf_other t (by omega) _ g_of_ofEvents,h.deafW k hk],fun k hk Ac=> ?_,h.has,h.pay,Z1c h.low (Nat.le_refl _) hl,h.geo⟩
 ·obtain⟨x,hx,M3⟩:=h.wk k hk;exact⟨x,by rw[get_map_set _ _ _ _ (by omega),hx,Option.map_some,M3.woken],by rw[upd_ne F _ (by omega)];exact M3⟩
 ·by_cases e:i'=i
  ·subst e;exact⟨g',get_map_set_same _ _ _ (by rw[h.size];omega),by rw[Deaf_own,upd_same];exact hq',by rw[upd_same,upd_same]⟩
  ·obtain⟨x,hx,hq,hF⟩:=h.old i' Ri hi';refine⟨x,by rw[get_map_set _ _ _ _ (by omega),hx,Option.map_some,woken_quitsD hq],?_,by rw[upd_ne F _ e,upd_ne q _ e];exact hF⟩;rw[Deaf_other t (by omega) _ g_of_ofEvents,upd_ne q _ e];exact hq
 ·obtain⟨r,hr⟩:=h.rel k hk Ac;exact⟨r,hr.app (hr.by_.appOther g_of_ofEvents (by omega)) (fun op A1 hg=>by have:=g_of_ofEvents op A1;omega)⟩
theorem ComN.spawn(h:ComN P ty Wg C n Sb Res N0 j gs w t D O Rk val F q Giv o 0)(hN:0<N0){a' child:Goroutine}{x y:MemOp}{r:Tr}(hx:x.g=0/\x.act= .go (N0+j))(hy:y.g=N0+j/\y.act= .start)
 (hc:GoT P false (RWo ty Wg C n j o) (DWo Wg C n Sb j o) (SW P ty Wg C n Res j) r (fun _=>False) child w):
 ComN P ty Wg C n Sb Res N0 (j+1) ((gs.setIfInBounds 0 a').push child) w (t++ #[x,y]) (upd D j ⟨7,0,0⟩) (upd O j (fun _=>False)) (upd Rk j o) val (upd F (N0+j) r) q o o 0:=by
 have hm:∀op∈#[x,y],op=x\/op=y:=by intro op A1;simpa using A1
 have Ac:∀op∈#[x,y],op.act≠.mark .disable/\op.act≠.mark .enable:=by
  intro op A1;rcases hm op A1 with rfl|rfl
  ·rw[hx.2];exact⟨by simp,by simp⟩
  ·rw[hy.2];exact⟨by simp,by simp⟩
 have Ew:GeoN Wg C Sb w (j+1) (upd O j (fun _=>False)) (upd Rk j o) o o:=by
  refine⟨fun k hk b hb=> ?_,fun k k' hk hk' A9 b hb=> ?_,h.geo.mo,fun k hk b hb=> ?_,fun b hb=>hb,h.geo.sb,h.geo.hWg,h.geo.hC,h.geo.hCW⟩
  ·by_cases e:k=j
   ·subst e;rw[upd_same] at hb;exact hb.elim
   ·rw[upd_ne O _ e] at hb;exact h.geo.sep k (by omega) b hb
  ·by_cases e:k=j
   ·subst e;rw[upd_same] at hb;exact hb.elim
   ·rw[upd_ne O _ e] at hb;by_cases e':k'=j
    ·subst e';rw[upd_same];exact id
    ·rw[upd_ne O _ e'];exact h.geo.sep2 k k' (by omega) (by omega) A9 b hb
  ·by_cases e:k=j
   ·subst e;rw[upd_same] at hb;exact hb
   ·rw[upd_ne Rk _ e] at hb;exact h.geo.giv b (h.geo.rdo k (by omega) b hb)
 have X5:TN N0 (ShN Wg) (Zu Sb) (Z5P C (upd O j (fun _=>False))) (RdL Sb (upd Rk j o)) t j:=by
  refine⟨h.tn.quiet,fun k hk l hl=> ?_,fun k hk l hl=> ?_,fun l hm hs hn hl=> ?_,fun l hm hs hn hl=> ?_,h.tn.nr,h.tn.gs⟩
  ·unfold Z5P at hl;rw[upd_ne O _ (by omega)] at hl;exact h.tn.own k hk l hl
  ·unfold RdL at hl;rw[upd_ne Rk _ (by omega)] at hl;exact h.tn.rd k hk l hl
  ·refine h.tn.free l hm hs hn fun k hk=> ?_
   have:=hl k hk;unfold Z5P RdL at this;rw[upd_ne O _ (by omega),upd_ne Rk _ (by omega)] at this;exact this
  ·refine h.tn.mine l hm hs hn fun k hk=> ?_
   have:=hl k hk;unfold Z5P at this;rw[upd_ne O _ (by omega)] at this;exact this
 refine⟨by simp[h.size];omega,fun k hk=> ?_,fun i Cd hi=> ?_,X5.fork hN Ew.apart (fun l hl=> ?_) (fun l hl=>Zco hl.1) hx hy h.deaf0,h.oldk.app (fun op A1=> ?_),h.norel.app fun op A1=> ?_,by rw[Deaf_still t 0 _ Ac,h.deaf0],fun k hk=> ?_,fun k hk hs=> ?_,fun k hk hs=> ?_,h.pay,Z1c h.low (Nat.le_refl _) (fun op A1=> ?_),Ew⟩
 ·rcases Nat.lt_or_ge k j with A4|Fa
  ·obtain⟨g,hg,K1⟩:=h.wk k A4;refine⟨g,?_,by rw[upd_ne D _ (by omega),upd_ne O _ (by omega),upd_ne Rk _ (by omega),upd_ne F _ (by omega)];exact K1⟩;rw[Array.getElem?_push_lt (by simp[h.size];omega),<-YN,YO (by omega)];exact hg
  ·obtain rfl:k=j:=by omega
   refine⟨child,?_,by rw[upd_same,upd_same,upd_same,upd_same];exact .work hc⟩;rw[show N0+k=(gs.setIfInBounds 0 a').size by simp[h.size],Array.getElem?_push_size]
 ·obtain⟨g,hg,hq,hF⟩:=h.old i Cd hi;refine⟨g,?_,by rw[Deaf_still t _ _ Ac];exact hq,by rw[upd_ne F _ (by omega)];exact hF⟩;rw[Array.getElem?_push_lt (by simp[h.size];omega),<-YN,YO (by omega)];exact hg
 ·rcases hl with hl|rfl
  ·exact Zco hl
  ·rfl
 ·rcases hm op A1 with rfl|rfl
  ·exact .inl hx.1
  ·exact .inr (.inl (by rw[hy.1];omega))
 ·rcases hm op A1 with rfl|rfl
  ·rw[hx.2];simp
  ·rw[hy.2];simp
 ·rw[Deaf_still t _ _ Ac];rcases Nat.lt_or_ge k j with A4|Fa
  ·rw[h.deafW k A4,upd_ne D _ (by omega)]
  ·obtain rfl:k=j:=by omega
   rw[upd_same];exact Deaf_absent fun a op ha e=>by have:=h.tn.gs a op ha;omega
 ·rcases Nat.lt_or_ge k j with A4|Fa
  ·rw[upd_ne D _ (by omega)] at hs;obtain⟨r,hr⟩:=h.rel k A4 hs;refine⟨r,hr.app (Go.ConcN.RelBy.appNot hr.by_ fun op A1=> ?_) (fun op A1 hg=> ?_)⟩
   ·rcases hm op A1 with rfl|rfl
    ·rw[hx.1];omega
    ·rw[hy.1];omega
   ·rcases hm op A1 with rfl|rfl
    ·rw[hx.1] at hg;omega
    ·rw[hy.1] at hg;omega
  ·obtain rfl:k=j:=by omega
   rw[upd_same] at hs;simp at hs
 ·rcases Nat.lt_or_ge k j with A4|Fa
  ·rw[upd_ne D _ (by omega)] at hs;rw[upd_ne O _ (by omega)];exact h.has k A4 hs
  ·obtain rfl:k=j:=by omega
   rw[upd_same] at hs;simp at hs
 ·rcases hm op A1 with rfl|rfl
  ·rw[hx.2];trivial
  ·rw[hy.2];trivial
end
end Go.Nk
namespace Go.Nk
open Go Go.Conc
open Go.ConcN (ShN WgLive PayAt Has CTag RW upd upd_same upd_ne WD RelBy get_map_set get_map_set_same norel_of Vc Ssum cnt phi phi_mono phi_retag isOpen isW3 isFin OpenSt AllQuit pend sumTo sumTo_upd Vc_upd Vc_le others_uncounted le_sumTo bk_cell deafBehind_idle)
open Go.ConcR (KK WgAt stA smA rd wr mk Payload DC0 g_of_ofEvents Bk ofEvent_loc_mark ofEvent_cell)
variable [Payload]
abbrev Mu:=(Nat×Nat×(Nat->Tr))×(Tr×Nat)
def ZdJ(a b:Tr×Nat):Prop:=ZaS a.1 b.1\/(a.1=b.1/\a.2<b.2)
theorem tnLt_wf:WellFounded ZdJ:=by
 constructor;have all:∀(r:Tr)(k:Nat),Acc ZdJ (r,k):=by
  intro r
  induction trLt_wf.apply r with
  |intro r _ ih=>
   intro k
   induction k using Nat.strongRecOn with
   |_ k ihk=>
    refine⟨_,?_⟩;rintro⟨r',k'⟩ (h|⟨h1,h2⟩)
    ·exact ih r' h k'
    ·simp only at h1 h2;subst h1;exact ihk k' h2
 exact fun⟨r,k⟩=>all r k
def Zdf(a b:Mu):Prop:=ZdR a.1 b.1\/(a.1=b.1/\ZdJ a.2 b.2)
theorem muLt2_wf:WellFounded Zdf:=by
 constructor;have all:∀(x:Nat×Nat×(Nat->Tr))(y:Tr×Nat),Acc Zdf (x,y):=by
  intro x
  induction muLt_wf.apply x with
  |intro x _ ih=>
   intro y
   induction tnLt_wf.apply y with
   |intro y _ ihy=>
    refine⟨_,?_⟩;rintro⟨x',y'⟩ (h|⟨h1,h2⟩)
    ·exact ih x' h y'
    ·simp only at h1 h2;subst h1;exact ihy y' h2
 exact fun⟨x,y⟩=>all x y
def AcqN(Wg N0 j:Nat)(t:Trace):Prop:=
 ∃q,t.act? q=some (.mark (.acquire (stA Wg)))/\t.g? q=some 0/\t.heard q/\∀k,k<j->∃r,RelN (ShN Wg) (stA Wg) t (N0+k) r/\r<q
omit [Payload] in
theorem AcqN.app{Wg N0 j:Nat}{t u:Trace}(h:AcqN Wg N0 j t)(hu:∀k r,k<j->RelN (ShN Wg) (stA Wg) t (N0+k) r->RelN (ShN Wg) (stA Wg) (t++u) (N0+k) r):AcqN Wg N0 j (t++u):=by
 obtain⟨q,h1,h2,h3,h4⟩:=h;have hq:=lt_of_act? h1;exact⟨q,by rw[act?_old hq];exact h1,by rw[g?_old hq];exact h2,(heard_old hq).2 h3,fun k hk=>let ⟨r,hr,O0⟩:=h4 k hk;⟨r,hu k r hk hr,O0⟩⟩
structure BaseN(w0:World)(G0:Nat->Prop)(w:World)(Giv:Nat->Prop):Prop where
 old:∀b,G0 b->Giv b/\w.heap[b]? =w0.heap[b]?
 tape:w.tape=w0.tape
 os:w.os=w0.os
 output:w.output=w0.output
 size:w0.heap.size<=w.heap.size
section
variable (P:Program) (ty:TypeId) (Wg C n:Nat) (Sb:Nat->Prop) (Res:Nat->(Nat->Prop)->Value->World->Prop) (End AnchW:(Nat->Prop)->Goroutine->World->Prop) (N0:Nat) (w0:World) (G0:Nat->Prop)
def InvN(μ:Mu)(m:Machine)(t:Trace):Prop:=
 ∃(gs:Array Goroutine)(w:World)(sl:Option (Nat×Nat))(j:Nat)(D:Nat->WD)(O Rk:Nat->Nat->Prop)(val:Nat->Value)(F:Nat->Tr)(q:Nat->Nat)(tag:CTag)(Giv o:Nat->Prop)(f0:Tr×Nat)(d0:Nat)(a:Goroutine)(st sm:Int),
  m=crowd gs w sl/\gs[0]? =some a/\CS P ty Wg C n Sb Res End AnchW tag j Giv o f0 d0 a w/\ComN P ty Wg C n Sb Res N0 j gs w t D O Rk val F q Giv o d0/\WgAt ty Wg w st sm/\Go.ConcN.Mode j D tag st sm/\
  (tag= .ret->AcqN Wg N0 j t)/\BaseN w0 G0 w Giv/\μ=((phi n (Vc j D) tag+Ssum j D,N0+j,F),f0)
def Z1y(μ:Mu)(s:Stepped×Array MemOp)(t:Trace):Prop:=
 ∃m₁ ops μ',s=(.next m₁,ops)/\Zdf μ' μ/\InvN P ty Wg C n Sb Res End AnchW N0 w0 G0 μ' m₁ (t++ops)
end
section
variable {P:Program} {ty:TypeId} {Wg C n:Nat} {Sb:Nat->Prop} {Res:Nat->(Nat->Prop)->Value->World->Prop} {End AnchW:(Nat->Prop)->Goroutine->World->Prop} {N0:Nat} {w0:World} {G0:Nat->Prop}
 {gs:Array Goroutine} {w w':World} {sl:Option (Nat×Nat)} {j:Nat} {D:Nat->WD} {O Rk:Nat->Nat->Prop} {val:Nat->Value} {F:Nat->Tr} {q:Nat->Nat} {tag:CTag} {Giv o:Nat->Prop} {f0:Tr×Nat} {d0:Nat} {a:Goroutine} {t:Trace} {st sm:Int}
omit [Payload] in
theorem BaseN.step(h:BaseN w0 G0 w Giv)(hO:∀b,Giv b->w'.heap[b]? =w.heap[b]?)(ht:w'.tape=w.tape)(ho:w'.os=w.os)(hu:w'.output=w.output)(hs:w.heap.size<=w'.heap.size){Giv':Nat->Prop}(hG:∀b,Giv b->Giv' b):BaseN w0 G0 w' Giv':=
 ⟨fun b hb=>⟨hG b (h.old b hb).1,(hO b (h.old b hb).1).trans (h.old b hb).2⟩,ht.trans h.tape,ho.trans h.os,hu.trans h.output,Nat.le_trans h.size hs⟩
theorem Z14(h:WgLive ty Wg w)(e:w'.heap[Wg]? =w.heap[Wg]?):WgLive ty Wg w':=let ⟨_,_,x⟩:=h;⟨_,_,x.of_block e⟩
omit [Payload] in
theorem Z6G{b:Nat}(e:w'.heap[b]? =w.heap[b]?)(i:Nat):w'.cell? ⟨b,i,none⟩=w.cell? ⟨b,i,none⟩:=by simp[World.cell?,e]
theorem Z0s(h:PayAt C n w)(e:w'.heap[C]? =w.heap[C]?):PayAt C n w':=let ⟨cs,h1,h2⟩:=h;⟨cs,e.trans h1,h2⟩
theorem RWo.of_wg{k:Nat}(hg:GeoN Wg C Sb w j O Rk Giv o)(hk:k<j)(h:Aside Wg w w')(hl:WgLive ty Wg w'):RWo ty Wg C n k (Rk k) (O k) w w':=
 ⟨fun b hb=>h.block b (hg.sep k hk b hb).2.1,fun b hb=>h.block b (hg.mo b (hg.giv b (hg.rdo k hk b hb))).2.1,Nat.le_of_eq h.size.symm,fun _=>hl,fun hp=>Z0s hp (h.block C hg.hCW),Z6G (h.block C hg.hCW) k⟩
theorem RMo.of_wg(hg:GeoN Wg C Sb w j O Rk Giv o)(h:Aside Wg w w')(hl:WgLive ty Wg w'):RMo ty Wg C n o w w':=
 ⟨fun b hb=>h.block b (hg.mo b hb).2.1,Nat.le_of_eq h.size.symm,fun _=>hl,fun hp=>Z0s hp (h.block C hg.hCW),h.tape,h.os,h.output⟩
theorem RWo.of_work{k k':Nat}{es:Array Event}(hg:GeoN Wg C Sb w j O Rk Giv o)(hk:k<j)(hk':k'<j)(A9:k'≠k)(h:DWo Wg C n Sb k (Rk k) (O k) w w' es):RWo ty Wg C n k' (Rk k') (O k') w w':=
 ⟨fun b hb=>h.stay b (hg.sep k' hk' b hb).1 (fun ho=>hg.sep2 k' k hk' hk A9 b hb ho) (hg.sep k' hk' b hb).2.2.1,
  fun b hb=>let Uw:=hg.giv b (hg.rdo k' hk' b hb);h.stay b (hg.mo b Uw).1 (fun ho=>(hg.sep k hk b ho).2.2.2 Uw) (hg.mo b Uw).2.2,
  h.size,fun hl=>Z14 hl (h.stay Wg hg.hWg (fun ho=>(hg.sep k hk _ ho).2.1 rfl) (Ne.symm hg.hCW)),h.pay,h.cells k' A9⟩
theorem RMo.of_work{k:Nat}{es:Array Event}(hg:GeoN Wg C Sb w j O Rk Giv o)(hk:k<j)(h:DWo Wg C n Sb k (Rk k) (O k) w w' es):RMo ty Wg C n o w w':=
 ⟨fun b hb=>h.stay b (hg.mo b hb).1 (fun ho=>(hg.sep k hk b ho).2.2.2 hb) (hg.mo b hb).2.2,
  h.size,fun hl=>Z14 hl (h.stay Wg hg.hWg (fun ho=>(hg.sep k hk _ ho).2.1 rfl) (Ne.symm hg.hCW)),h.pay,h.tape,h.os,h.output⟩
theorem RWo.of_main{k:Nat}{es:Array Event}(hg:GeoN Wg C Sb w j O Rk Giv o)(hk:k<j)(h:DMo Wg Sb Giv o w w' es):RWo ty Wg C n k (Rk k) (O k) w w':=
 ⟨fun b hb=>h.stay b (hg.sep k hk b hb).1 (.inl (hg.sep k hk b hb).2.2.2),fun b hb=>h.stay b (hg.mo b (hg.giv b (hg.rdo k hk b hb))).1 (.inr (hg.rdo k hk b hb)),h.size,
  fun hl=>Z14 hl (h.stay Wg hg.hWg (.inl fun ho=>(hg.mo _ ho).2.1 rfl)),fun hp=>Z0s hp (h.stay C hg.hC (.inl fun ho=>(hg.mo _ ho).2.2 rfl)),Z6G (h.stay C hg.hC (.inl fun ho=>(hg.mo _ ho).2.2 rfl)) k⟩
theorem Zdg{k:Nat}{fn:FuncId}{pos:String}{es:Array Event}{Ok:Nat->Prop}(h:∀e∈es,EvWo Wg C Sb k (Rk k) Ok e):∀op∈MemOp.ofEvents (N0+k) fn pos es,ZdT N0 (ShN Wg) (Z5P C (upd O k Ok)) (RdL Sb Rk) k op:=by
 intro op A1;obtain⟨e,he,rfl⟩:=Go.Conc.mem_ofEvents A1;refine⟨rfl,fun x hx=> ?_⟩;rcases(h e he).1 x hx with h1|h1|h1|⟨h1,h2,h3⟩
 ·exact .inl h1
 ·exact .inr (.inl (.inl (by rw[upd_same];exact h1)))
 ·exact .inr (.inl (.inr h1))
 ·exact .inr (.inr ⟨⟨h1,h2⟩,h3⟩)
theorem Z8o{k:Nat}{fn:FuncId}{pos:String}{es:Array Event}{OO:Nat->Nat->Prop}(h:∀e∈es,Bk Wg e):∀op∈MemOp.ofEvents (N0+k) fn pos es,ZdT N0 (ShN Wg) (Z5P C OO) (RdL Sb Rk) k op:=by
 intro op A1;obtain⟨e,he,rfl⟩:=Go.Conc.mem_ofEvents A1;refine⟨rfl,fun x hx=> ?_⟩;rcases h e he with h1|h1|⟨a,wr,rfl,ha⟩
 ·simp only[ofEvent_loc_mark h1] at hx;cases hx
 ·simp only[ofEvent_loc_mark h1] at hx;cases hx
 ·simp only[ofEvent_cell,MemAct.touch?,Option.some.injEq] at hx;subst hx;exact .inl ⟨⟨a,rfl,ha⟩,by simp,by simp⟩
theorem Z5Q{g:Nat}{fn:FuncId}{pos:String}{es:Array Event}{B:Nat}(hB:Wg<B)(h:∀e∈es,Bk Wg e):∀op∈MemOp.ofEvents g fn pos es,op.act.low B:=by
 intro op A1;obtain⟨e,he,rfl⟩:=Go.Conc.mem_ofEvents A1;rcases h e he with h1|h1|⟨a,wr,rfl,ha⟩
 ·rw[ofEvent_loc_mark h1];trivial
 ·rw[ofEvent_loc_mark h1];trivial
 ·rw[ofEvent_cell];show a.block<B;omega
theorem Z4b{g:Nat}{fn:FuncId}{pos:String}{es:Array Event}(h:∀e∈es,Bk Wg e):∀op∈MemOp.ofEvents g fn pos es,∀x,op.act.touch? =some x->ShN Wg x.loc/\x.kind= .atomic:=by
 intro op A1 x hx;obtain⟨e,he,rfl⟩:=Go.Conc.mem_ofEvents A1;rcases h e he with h1|h1|⟨a,wr,rfl,ha⟩
 ·simp only[ofEvent_loc_mark h1] at hx;cases hx
 ·simp only[ofEvent_loc_mark h1] at hx;cases hx
 ·simp only[ofEvent_cell,MemAct.touch?,Option.some.injEq] at hx;subst hx;exact⟨⟨a,rfl,ha⟩,rfl⟩
theorem Z3D(hR:ResOk Res)(hN:0<N0)(Dj:∀o g w,AnchW o g w->g.status= .running)(C6:∀o g w,End o g w->g.status= .running)
 (ha:gs[0]? =some a)(Ad:CS P ty Wg C n Sb Res End AnchW tag j Giv o f0 d0 a w)(A6:ComN P ty Wg C n Sb Res N0 j gs w t D O Rk val F q Giv o d0)(A5:BaseN w0 G0 w Giv)
 {k:Nat}(hk:k<j){g g':Goroutine}{es:Array Event}{s' dd':Nat}{r':Tr}{Ok:Nat->Prop}{v':Value}{st' sm':Int}(hg:gs[N0+k]? =some g)(Ai:stepG P false g w= .go g' w' es)
 (Iw:RMo ty Wg C n o w w')(Ix:∀k',k'<j->k'≠k->RWo ty Wg C n k' (Rk k') (O k') w w')
 (X4:∀b,O k b->Ok b)(Kt:∀b,Ok b->O k b\/(w.heap.size<=b/\b<w'.heap.size))
 (hs':WS P ty Wg C n Sb Res k (Rk k) v' s' Ok r' dd' g' w')
 (B5:∀op∈MemOp.ofEvents (N0+k) g.frame.fn g.frame.place es,ZdT N0 (ShN Wg) (Z5P C (upd O k Ok)) (RdL Sb Rk) k op)(C1:∀op∈MemOp.ofEvents (N0+k) g.frame.fn g.frame.place es,op.act.low w'.heap.size)(Ep:∀e∈es,e.loc≠.mark (.release (stA Wg)))
 (Iy:deafBehind (D k).deaf es=dd')(hrel:s'<=6->∃r,RelN (ShN Wg) (stA Wg) (t++MemOp.ofEvents (N0+k) g.frame.fn g.frame.place es) (N0+k) r)
 (Iz:s'<=6->Has C k v' w'/\Res k Ok v' w')(Au:WgAt ty Wg w' st' sm')
 (A7:∀tag',(tag'=tag\/(tag= .blk/\tag'= .w3))->(mayWake P g=true->g'.status= .running->tag'≠.blk)->Go.ConcN.Mode j (upd D k ⟨s',0,dd'⟩) tag' st' sm')
 (C3:tag= .ret->AcqN Wg N0 j (t++MemOp.ofEvents (N0+k) g.frame.fn g.frame.place es))
 (A4:(s'<(D k).stage/\cnt ⟨s',0,dd'⟩<=cnt (D k))\/(s'=(D k).stage/\ZaS r' (F (N0+k)))):
 Z1y P ty Wg C n Sb Res End AnchW N0 w0 G0 ((phi n (Vc j D) tag+Ssum j D,N0+j,F),f0) (runT P (crowd gs w sl) (N0+k)) t:=by
 obtain⟨tag',f',D4,Gf,M4⟩:=Ad.wokenBy Dj C6 Iw g g';have Cd:(N0+k==0)=false:=by simp;omega
 have Af:=runT_crowd_go (P:=P) (sl:=sl) (i:=N0+k) hg (by rw[Cd];exact Ai);have e1:=sumTo_upd D (⟨s',0,dd'⟩:WD) cnt hk;have e2:=sumTo_upd D (⟨s',0,dd'⟩:WD) WD.stage hk
 refine⟨_,_,((phi n (Vc j (upd D k ⟨s',0,dd'⟩)) tag'+Ssum j (upd D k ⟨s',0,dd'⟩),N0+j,upd F (N0+k) r'),f'),Af,?_,
  _,w',sl,j,upd D k ⟨s',0,dd'⟩,upd O k Ok,Rk,upd val k v',upd F (N0+k) r',q,tag',Giv,o,f',d0,woken P g g' w' a,st',sm',rfl,by rw[get_map_set _ _ _ _ (by omega),ha];rfl,D4,
  A6.stepW hR hN hk Iw Ix X4 Kt hs' B5 C1 Ep Iy hrel Iz,Au,A7 tag' Gf M4,?_,A5.step (fun b hb=>Iw.own b (A6.geo.giv b hb)) Iw.tape Iw.os Iw.output Iw.size (fun _ h=>h),rfl⟩
 ·rw[phi_retag n _ Gf];refine .inl ?_;simp only[Vc,Ssum] at*;rcases A4 with⟨h1,h2⟩|⟨h1,h2⟩
  ·refine .inl ?_;have:=phi_mono n (v':=sumTo j fun a=>cnt (upd D k ⟨s',0,dd'⟩ a)) (v:=sumTo j fun a=>cnt (D a)) (by omega) tag;show phi n (sumTo j fun a=>cnt (upd D k ⟨s',0,dd'⟩ a)) tag+_<_;omega
  ·have ec:cnt (⟨s',0,dd'⟩:WD)=cnt (D k):=by simp only[cnt,h1]
   have ev:(sumTo j fun a=>cnt (upd D k ⟨s',0,dd'⟩ a))=sumTo j fun a=>cnt (D a):=by omega
   have es':(sumTo j fun a=>(upd D k ⟨s',0,dd'⟩ a).stage)=sumTo j fun a=>(D a).stage:=by omega
   rw[ev,es'];refine .inr ⟨rfl,rfl,N0+k,by show N0+k<N0+j;omega,?_,fun i hi A9=> ?_⟩
   ·show ZaS (upd F (N0+k) r' (N0+k)) (F (N0+k));rw[upd_same];exact h2
   ·show upd F (N0+k) r' i=F i;exact upd_ne F _ A9
 ·intro e;rcases Gf with rfl|⟨_,rfl⟩
  ·exact C3 e
  ·cases e
theorem Z8p(hR:ResOk Res)(hN:0<N0)(Dj:∀o g w,AnchW o g w->g.status= .running)(C6:∀o g w,End o g w->g.status= .running)
 (ha:gs[0]? =some a)(Ad:CS P ty Wg C n Sb Res End AnchW tag j Giv o f0 d0 a w)(A6:ComN P ty Wg C n Sb Res N0 j gs w t D O Rk val F q Giv o d0)(A5:BaseN w0 G0 w Giv)(Au:WgAt ty Wg w st sm)(A7:Go.ConcN.Mode j D tag st sm)(C3:tag= .ret->AcqN Wg N0 j t)
 {i:Nat}(Cd:0<i)(hi:i<N0){g:Goroutine}(hg:gs[i]? =some g)(Af:g.status= .running):
 Z1y P ty Wg C n Sb Res End AnchW N0 w0 G0 ((phi n (Vc j D) tag+Ssum j D,N0+j,F),f0) (runT P (crowd gs w sl) i) t:=by
 obtain⟨x,hx,hq,hF⟩:=A6.old i Cd hi;rw[hg] at hx;cases hx;cases Gc:q i with
 |zero=>rw[Gc] at hq;rw[hq.1] at Af;cases Af
 |succ m=>
  rw[Gc] at hq hF;rcases hq with⟨hf,_⟩|⟨_,g',es,hm,Ni,hq'⟩
  ·rw[hf] at Af;cases Af
  have Pu:(i==0)=false:=by simp;omega
  have hr:=runT_crowd_go (P:=P) (sl:=sl) (i:=i) hg (by rw[Pu];exact Ni w);have Ep:∀e∈es,e.loc≠.mark (.release (stA Wg)):=fun e he hl=>by have:=hm e he;obtain⟨loc,wr,sy⟩:=e;simp only at hl;subst hl;simp[Event.mute] at this
  obtain⟨tag',f',D4,Gf,M4⟩:=Ad.wokenBy Dj C6 (.refl o w) g g'
  refine⟨_,_,((phi n (Vc j D) tag'+Ssum j D,N0+j,upd F i (Tr.ofNat m)),f'),hr,?_,_,w,sl,j,D,O,Rk,val,upd F i (Tr.ofNat m),upd q i m,tag',Giv,o,f',d0,woken P g g' w a,st,sm,rfl,by rw[get_map_set _ _ _ _ (by omega),ha];rfl,D4,
   A6.stepL Cd hi hm hq' Ep,Au,Go.ConcN.Mode.retag A7 Gf,?_,A5,rfl⟩
  ·rw[phi_retag n _ Gf];refine .inl (.inr ⟨rfl,rfl,i,by show i<N0+j;omega,?_,fun k hk A9=> ?_⟩)
   ·show ZaS (upd F i (Tr.ofNat m) i) (F i);rw[upd_same,hF];exact⟨_,w,rfl,rfl⟩
   ·exact upd_ne F _ A9
  ·intro e;rcases Gf with rfl|⟨_,rfl⟩
   ·exact(C3 e).app fun k r hk hr=>hr.app (hr.by_.appOther g_of_ofEvents (by omega)) (fun op A1 hg=>by have:=g_of_ofEvents op A1;omega)
   ·cases e
end
end Go.Nk
