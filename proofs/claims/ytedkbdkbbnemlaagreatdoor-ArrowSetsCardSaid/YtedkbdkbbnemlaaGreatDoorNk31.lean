/- nocklaw01.ArrowSets: for every stock and every index of a shaft the call returns true, on every schedule and without a data race; its arguments read afterwards as they read before; nothing that was in memory is changed; at the return no other goroutine does more than leave. The card ties the four listed package variables to the program's text. Conditions: none beyond the card's own (the listed variables hold what the program's text lays). The texts of this claim were shortened by program (no remarks, short names) to fit the bounds on a claim's size; their long form lies in the repository's folder wip. -/
import Derived.Test.YtedkbdkbbnemlaaGreatDoorNk30
import Derived.JoinedOf
import Derived.KernelRfl
import Derived.Test.YtedkbdkbbnemlaaGreatDoorRows
set_option linter.all false
namespace Go.Proofs.Tryq
set_option maxRecDepth 100000
set_option maxHeartbeats 8000000
open Go Go.Nk Go.RowKit
set_option linter.all false
theorem shareL_len:∀(t best:List (List Int))(taken:List Int),(shareL best t taken).length<=max best.length t.length
 |[],best,taken=>by simp[shareL]
 |s::t,best,taken=>by
  rw[shareL];split
  ·have:=shareL_len t best taken;simp only[List.length_cons];omega
  ·have h1:=shareL_len t [] (taken++s);have h3:([]:List (List Int)).length=0:=rfl;have h4:(s::t).length=t.length+1:=rfl;by_cases hb:best.length<(shareL [] t (taken++s)).length+1
   ·rw[if_pos hb];have h2:=shareL_len t (s::shareL [] t (taken++s)) taken;have h5:(s::shareL [] t (taken++s)).length=(shareL [] t (taken++s)).length+1:=rfl;omega
   ·rw[if_neg hb];have h2:=shareL_len t best taken;omega
def RawL2(w:World)(base:Option Addr)(ls:List (List Int)):Prop:=∀(i:Nat)(l:List Int),ls[i]? =some l->∃b off ad cp,base=some ⟨b,off,none⟩/\b<w.heap.size/\w.cell? ⟨b,off+i,none⟩=some (.slice ad l.length cp)/\(ad=none->cp=0)/\RawI w ad l
theorem RawL2.ext2{w w':World}{base:Option Addr}{ls:List (List Int)}(h:RawL2 w base ls)(e:Ext w w'):RawL2 w' base ls:=by
 intro i l hi;obtain⟨b,off,ad,cp,h1,h2,h3,h4,h5⟩:=h i l hi;exact⟨b,off,ad,cp,h1,e.lt h2,e.cellS h3,h4,h5.ext e⟩
theorem Shr.rawL2{b:Nat}{w:World}{v:Value}{ls:List (List Int)}(h:Shr b w v ls):∃ao cp,v= .slice ao ls.length cp/\(ls=[]->ao=none/\cp=0)/\RawL2 w ao ls:=by
 by_cases h0:ls=[]
 ·have:=h.1 h0;subst h0;exact⟨none,0,this,fun _=>⟨rfl,rfl⟩,fun i l hl=>by simp at hl⟩
 ·obtain⟨g,cp,rfl,_,hg,_⟩:=h.own h0;refine⟨_,cp,rfl,fun h=>absurd h h0,fun i l hl=> ?_⟩;obtain⟨ao,c,h1,h2,_,h3⟩:=h.cells hl;exact⟨g,0,ao,c,rfl,hg,by rw[Nat.zero_add];exact h1,h2,h3⟩
theorem ZhC(T:List (List Int))(ta:Option Addr)(tn ct:Nat)(Ks:T.length=tn)(ht512:tn<=512)(hTs:∀s∈T,s.length<=9):∀(f fr:Nat)(bt:Option Addr)(kt ct2:Nat)(taken:List Int)(W:World),fr+f=tn->taken.length=kt->kt<=9*fr->(bt=none->ct2=0)->RawL2 W ta T->RawI W bt taken->
 Calls prog 117 #[.slice ta tn ct,.int .i64 fr,.slice bt kt ct2] W fun e w'=>∃ao cp,e= .returned (.slice ao (shareL [] (T.drop fr) taken).length cp)/\RawL w' ao (shareL [] (T.drop fr) taken)/\(shareL [] (T.drop fr) taken=[]->ao=none/\cp=0)/\Ext W w':=by
 replace Ks:Hid (T.length=tn):=Ks;replace hTs:Hid (∀s∈T,s.length<=9):=hTs;intro f
 induction f using Nat.strongRecOn with
 |_ f ih=>
 intro fr bt kt ct2 taken W Pg Kx hkt9 Lr hT Vn;replace Kx:Hid (taken.length=kt):=Kx;replace Vn:Hid (RawI W bt taken):=Vn;replace hT:Hid (RawL2 W ta T):=hT
 have ih2:Hid (∀m<f,∀(fr:Nat)(bt:Option Addr)(kt ct2:Nat)(taken:List Int)(W:World),fr+m=tn->taken.length=kt->kt<=9*fr->(bt=none->ct2=0)->RawL2 W ta T->RawI W bt taken->
  Calls prog 117 #[.slice ta tn ct,.int .i64 fr,.slice bt kt ct2] W fun e w'=>∃ao cp,e= .returned (.slice ao (shareL [] (T.drop fr) taken).length cp)/\RawL w' ao (shareL [] (T.drop fr) taken)/\(shareL [] (T.drop fr) taken=[]->ao=none/\cp=0)/\Ext W w'):=ih
 clear ih;go_enter func117,ntmps117;go_wp2;go_loopw [7,8] (fun v7 v8 wr=>∃(i:Nat)(B:List (List Int))(ao:Option Addr)(cpb:Nat),fr<=i/\i<=tn/\v8= .int .i64 i/\v7= .slice ao B.length cpb/\RawL wr ao B/\(B=[]->ao=none/\cpb=0)/\Ext W wr/\B.length<=tn/\Hid (shareL [] (T.drop fr) taken=shareL B (T.drop i) taken)) (fun _ v8 _=>tn - (intOf v8).toNat)
 case atStart=>exact⟨fr,[],none,0,Nat.le_refl _,by omega,rfl,rfl,(fun i l hl=>by simp at hl),fun _=>⟨rfl,rfl⟩,Ext.rfl' W,Nat.zero_le _,rfl⟩
 case round=>
  obtain⟨i,B,ao,cpb,hfi,hi,rfl,rfl,hB,Vo,hE,Ly,HP⟩:=hrel;by_cases Ds:i=tn
  ·have HR:Hid (shareL [] (T.drop fr) taken=B):=by show _=_;rw[HP.out,Ds,<-Ks.out,List.drop_length];rfl
   subst Ds;clear HP;go_wp2;go_ret;rw[HR.out];exact⟨ao,cpb,rfl,hB,Vo,hE⟩
  ·have A3:i<tn:=by omega
   have C9:(i:Int)<(tn:Int):=by omega
   have Kt:(i:Int)<1000:=by omega
   obtain⟨s,hs⟩:∃s,T[i]? =some s:=⟨_,List.getElem?_eq_getElem (by have:=Ks.out;omega)⟩;have G6:=hTs.out s (List.mem_of_getElem? hs);have htl:taken.length<=5000:=by have:=Kx.out;omega
   obtain⟨tb,to,ad,cp,rfl,htb,Vp,Oz,Lo⟩:=hT.out i s hs;have Do:=hE.cellS Vp;have D7:=Lo.ext hE;have K1:=fun W' (hW:Ext wr W')=>Zhz ad s.length cp s bt kt ct2 taken W' rfl Kx.out ⟨by omega,by omega⟩ (D7.ext hW) ((Vn.out.ext hE).ext hW)
   cases hcc:ZQ s taken with
   |true=>
    have HN:Hid (shareL [] (T.drop fr) taken=shareL B (T.drop (i+1)) taken):=(by show _=_;rw[HP.out,Z0b hs,shareL,if_pos hcc]);simp only[hcc] at K1;clear HP hs hcc D7 Vp Lo;go_wp2_with (first|(go_at_call 154;(with_reducible refine(K1 _ (Ext.rfl' _)).mono ?_);rintro e w3 ⟨rfl,hF⟩;replace hE:=hE.trans hF;replace hB:=hB.ext hF));exact⟨⟨i+1,B,ao,cpb,by omega,by omega,by push_cast;rfl,rfl,hB,Vo,hE,Ly,HN⟩,by simp[intOf];omega⟩
   |false=>
    have Mt:=ih2.out (tn - (i+1)) (by omega) (i+1);have P0:=shareL_len (T.drop (i+1)) [] (taken++s);have HS:Hid (shareL [] (T.drop fr) taken=shareL (if B.length<(shareL [] (T.drop (i+1)) (taken++s)).length+1 then s::shareL [] (T.drop (i+1)) (taken++s) else B) (T.drop (i+1)) taken):=by
     show _=_;rw[HP.out,Z0b hs,shareL,if_neg (by rw[hcc];decide)]
    have Co:=fun(a7:Option Addr)(n7 c7:Nat)(W7:World)(e7:Ext W W7)(U7:n7=kt+s.length)(h7n:a7=none->c7=0)(Vq:RawI W7 a7 (taken++s))=>Mt a7 n7 c7 (taken++s) W7 (by omega) (by rw[List.length_append,Kx.out,U7]) (by omega) h7n (hT.out.ext2 e7) Vq
    obtain⟨R,Jn⟩:∃R,R=shareL [] (T.drop (i+1)) (taken++s):=⟨_,rfl⟩;rw[<-Jn] at P0 HS Co;have Q9:R.length<=tn - (i+1):=by
     have h1:=Ks.out;simp only[List.length_drop,List.length_nil] at P0;omega
    rw[show((i+1:Nat):Int)=(i:Int)+1 from rfl] at Co;simp only[hcc] at K1;clear HP hs hcc P0 Mt Jn;go_wp2_with (first|(go_at_call 154;(with_reducible refine(K1 _ (Ext.rfl' _)).mono ?_);rintro e w3 ⟨rfl,hF⟩;replace hE:=hE.trans hF;replace hB:=hB.ext hF;replace Do:=hF.cellS Do;replace D7:=D7.ext hF));clear hF K1;obtain⟨wr,Qt⟩:∃x:World,x=w3:=⟨_,rfl⟩;subst Qt;refine Zhk (ExtX fun q=>wr.heap.size<=q) (by kernel_rfl) ?_;have hD:=(Ext.rfl' wr).drew;have Kb:=hE.trans hD;have hBd:=hB.ext hD;have D5:=hD.cellS Do;have Oy:=D7.ext hD;obtain⟨M,hM⟩:∃M,M=wr.heap.size:=⟨_,rfl⟩;have Kc:M<=wr.drew.heap.size:=(by rw[hM];exact Nat.le_refl _);have hWM:W.heap.size<=M:=(by rw[hM];exact hE.size);have htN:¬M<=tb:=(by have:=hE.lt htb;omega);rw[<-hM];generalize wr.drew=Wd at Kb hBd D5 Oy Kc⊢;clear hE hB Do D7 hM hD;have gu:=GrE.cell (X:=fun q=>M<=q) htN D5;refine Zh8 (ExtX.pre _) [0,1,2,4,6,7,8,9] (by kernel_rfl) (by kernel_rfl) ?_;simp only[ZeD,List.getElem?_cons_succ,List.getElem?_cons_zero,List.cons_append,List.nil_append]
    repeat (go_big_quiet_step (fail))
    refine wpQuiet_nil ?_;refine Zh4 3 rfl (by kernel_rfl) rfl ?_;clear gu;refine Zf3 ⟨.slice (some ⟨Wd.heap.size,0,none⟩) 0 0,Wd.alloc (.cells #[] 3),by simp[go_sem,execOp,Act.eval],Go.Nk.Ext.toX ((Ext.rfl' _).alloc _) _,?_⟩;obtain⟨D,hD⟩:∃D,D=Wd.heap.size:=⟨_,rfl⟩;have hDd:D<=Wd.heap.size:=(by omega);have h5:OwnI D (Wd.alloc (.cells #[] 3)) (.slice (some ⟨Wd.heap.size,0,none⟩) 0 0) []:=Z6s Wd D 3 #[] 0 Wd.heap.size rfl hDd rfl (by decide);have eA:=(Ext.rfl' Wd).alloc (.cells #[] 3);generalize Wd.alloc _=WA at h5 eA⊢;go_simp;refine Zh4 5 rfl (by kernel_rfl) rfl ?_;refine Zhm _ _ rfl D _ [] rfl h5 bt ct2 taken (by rw[Kx.out];rfl) Lr ((Vn.out.ext Kb).ext eA) (by simp only[List.length_nil];omega) (Nat.le_trans hDd eA.size) (fun v6 W6 own6 Qc=>⟨Zhv Qc (fun k hk=>by have:=(h5.lt k hk).1;omega),?_⟩);have e6:Ext Wd W6:=eA.grown Qc (fun k hk=>by cases hk;exact Nat.le_refl _);rw[List.nil_append] at own6;obtain⟨a6,n6,c6,hv6⟩:∃a n c,v6= .slice a n c:=by
     obtain⟨a,c,h,_⟩:=own6.raw2;exact⟨_,_,_,h⟩
    subst hv6;go_simp;refine Zh4 10 rfl (by kernel_rfl) rfl ?_;refine Zhm _ _ rfl D (.slice a6 n6 c6) taken rfl own6 ad cp s rfl Oz (Oy.ext e6) (by omega) (Nat.le_trans hDd e6.size) (fun v7 W7 own7 hg7=>⟨Zhv hg7 (fun k hk=>by have:=(own6.lt k hk).1;omega),?_⟩);have e7d:=e6.grown hg7 (fun k hk=>by have:=(own6.lt k hk).1;omega);have e7:=Kb.trans e7d;have Vr:RawL W7 ao B:=hBd.ext e7d;obtain⟨a7,c7,Qd,h7n,h7l,Vq⟩:=own7.raw2;rw[List.length_append,Kx.out] at Qd h7l;subst Qd;obtain⟨n7,U7⟩:∃z,z=kt+s.length:=⟨_,rfl⟩;rw[<-U7];go_simp;refine Zh4 11 rfl (by kernel_rfl) rfl ?_;refine Zfo (f:=117) (args:= #[.slice (some ⟨tb,to,none⟩) tn ct,.int .i64 (i+1),.slice a7 n7 c7]) (by simp[go_sem,execOp,Act.eval,U7]) ?_;refine(Co a7 n7 c7 W7 e7 U7 h7n Vq).mono ?_;rintro e W9 ⟨ao2,cp2,rfl,Uv,E4,C1⟩;refine⟨_,rfl,Go.Nk.Ext.toX C1 _,?_⟩;have e9:=e7.trans C1;replace Vr:=Vr.ext C1;go_simp;refine Zh8 (ExtX.pre _) [12] (by kernel_rfl) (by kernel_rfl) ?_;simp only[ZeD,List.getElem?_cons_succ,List.getElem?_cons_zero,List.cons_append,List.nil_append]
    repeat (go_big_quiet_step (fail))
    refine wpQuiet_nil ?_;refine ZhF (by kernel_rfl) ?_;have hs9b:s.length<=1000000:=(by omega);have Qb:=e9.cellS Vp;have H2:=Lo.ext e9;clear Vp Lo Kb hBd D5 Oy h5 eA own6 e6 Qc own7 hg7 e7d e7 C1 Vq Co Kc hWM htN;by_cases If:B.length<R.length+1
    ·have HN:Hid (shareL [] (T.drop fr) taken=shareL (s::R) (T.drop (i+1)) taken):=(by show _=_;rw[HS.out,if_pos If]);have J4:(B.length:Int)<(R.length:Int)+1:=(by omega);clear HS Vr Vo
     go_wp2_with (
      at_builtin
      refine wpList_plain rfl fun K hK=> ?_
      refine ZhS _ _ rfl W9.heap.size (.slice ad s.length cp) s ad cp rfl hs9b (H2.ext ((Ext.rfl' W9).alloc _)) rfl (Z6s W9 W9.heap.size 27 #[.slice ad s.length cp] 1 W9.heap.size rfl (Nat.le_refl _) rfl (by decide)) (by rw[Z2];omega) ao2 R cp2 rfl (Uv.ext ((Ext.rfl' W9).alloc _)) E4 (by omega) (fun g' cp' W8 U2 H1=>hK _ _ ?_);replace e9:=(e9.alloc _).trans H1)
     exact⟨⟨i+1,s::R,some ⟨g',0,none⟩,cp',by omega,by omega,by push_cast;rfl,rfl,U2,(fun h=>nomatch h),e9,by simp;omega,HN⟩,by simp[intOf];omega⟩
    ·have HN:Hid (shareL [] (T.drop fr) taken=shareL B (T.drop (i+1)) taken):=(by show _=_;rw[HS.out,if_neg If]);have J4:¬(B.length:Int)<(R.length:Int)+1:=(by omega);clear HS Uv E4 Qb H2;go_wp2;exact⟨⟨i+1,B,ao,cpb,by omega,by omega,by push_cast;rfl,rfl,Vr,Vo,e9,by omega,HN⟩,by simp[intOf];omega⟩
end Go.Proofs.Tryq
namespace Go.Proofs.Tryq
open Go Go.Nk Go.RowKit
set_option linter.all false
theorem ZeO(n:Nat):∀(l:List Int)(o:Option Int),(∀y,o=some y->∀x∈l,y<x)->l.Pairwise (·<·)->(∀x∈l,0<=x/\x<n)->Z1k n o l=0
 |[],_,_,_,_=>rfl
 |x::t,o,h1,h2,h3=>by
  rw[Z8y];have hx:=h3 x (List.mem_cons_self ..);rw[if_neg (by simp only[Decidable.not_not];omega)];obtain⟨h4,h5⟩:=List.pairwise_cons.1 h2;have ih:=ZeO n t (some x) (fun y e z hz=>by injection e with e;subst e;exact h4 z hz) h5 (fun z hz=>h3 z (List.mem_cons_of_mem _ hz));cases o with
  |none=>simpa using ih
  |some y=>
   have h6:=h1 y rfl x (List.mem_cons_self ..);have h7:decide (x<=y)=false:=by simp only[decide_eq_false_iff_not];omega
   simpa[h7] using ih
theorem ZeE{n:Nat}{l:List Int}(h2:l.Pairwise (·<·))(h3:∀x∈l,0<=x/\x<n):Zq n l=0:=
 ZeO n l none (fun y e=>by cases e) h2 h3
set_option linter.all false
theorem chooseR_iff:∀(s l:List Int),l∈chooseR s↔l.Sublist s
 |[],l=>by simp[chooseR]
 |x::t,l=>by
  have h:l∈chooseR (x::t)↔(l=[]\/(∃c∈chooseR t,x::c=l)\/l∈(chooseR t).tail):=by
   show l∈[]::((chooseR t).map (x::·)++(chooseR t).tail)↔_;rw[List.mem_cons,List.mem_append,List.mem_map]
  rw[h];constructor
  ·rintro(rfl|⟨c,hc,rfl⟩|h)
   ·exact List.nil_sublist _
   ·exact((chooseR_iff t c).1 hc).cons_cons x
   ·exact((chooseR_iff t l).1 (by rw[chooseR_head];exact List.mem_cons_of_mem _ h)).cons x
  ·intro h;cases h with
   |cons _ h=>
    have h2:=(chooseR_iff t l).2 h;rw[chooseR_head] at h2;rcases List.mem_cons.1 h2 with h2|h2
    ·exact .inl h2
    ·exact .inr (.inr h2)
   |cons_cons _ h=>exact .inr (.inl ⟨_,(chooseR_iff t _).2 h,rfl⟩)
theorem ZgT{a b c:Int}{L:List Sf}{m:Nat}{s l:List Int}:l∈ZgO a b c L m s↔l.Sublist s/\l.length=m/\Zr (apA a b c L l)=1:=by
 rw[ZgO,List.mem_filter,chooseR_iff];simp
def ZgA(a b c m:Int)(L:List Sf):List (List Int):=if Zo a b c m L []=0 then Zt a b c L L.length (fun _=>false) m.toNat [] 0 else[]
theorem ZgU(n:Nat):ZeS n (fun _=>false) 0=(List.range n).map fun(i:Nat)=>(i:Int):=by
 simp only[ZeS,List.range_eq_range',Nat.sub_zero,Bool.not_false];congr 1;exact List.filter_eq_self.2 fun _ _=>rfl
theorem ZgK(n:Nat):((List.range n).map fun(i:Nat)=>(i:Int)).Pairwise (·<·):=by
 rw[List.pairwise_map];exact(List.pairwise_lt_range (n:=n)).imp fun h=>by omega
theorem ZgC{a b c m:Int}{L:List Sf}(h:Zo a b c m L []=0):ZgA a b c m L=ZgO a b c L m.toNat ((List.range L.length).map fun(i:Nat)=>(i:Int)):=by
 rw[ZgA,if_pos h,Zh0,ZgU]
theorem ZgD{a b c m:Int}{L:List Sf}{l:List Int}(hl:l∈ZgA a b c m L):l.length=m.toNat/\Zq L.length l=0:=by
 by_cases h:Zo a b c m L []=0
 ·rw[ZgC h] at hl;obtain⟨h1,h2,_⟩:=ZgT.1 hl
  exact⟨h2,ZeE ((ZgK _).sublist h1) (fun p hp=>by
   obtain⟨i,hi,rfl⟩:=List.mem_map.1 (h1.subset hp);have:=List.mem_range.1 hi;omega)⟩
 ·rw[ZgA,if_neg h] at hl;cases hl
theorem ZgL{a b c m:Int}{L:List Sf}{l:List Int}(hl:l∈Z66 a b c m L):l∈ZgA a b c m L:=by
 by_cases h:Zo a b c m L []=0
 ·rw[Z66,if_pos h] at hl;rw[ZgA,if_pos h];exact Z3O _ _ _ _ hl
 ·rw[Z66,if_neg h] at hl;cases hl
end Go.Proofs.Tryq
namespace Go.Proofs.Tryq
set_option maxRecDepth 100000
set_option maxHeartbeats 4000000
open Go Go.Nk Go.RowKit
set_option linter.all false
theorem Zhq(a b c m:Int)(L:List Sf):Zo a b c m L []=Zp a b c m L:=by
 rw[Zo,firstV];split
 ·rename_i h;rw[h];rfl
 ·rfl
theorem ZhG{a b c m:Int}{L:List Sf}(k:Int):Zo a b c m L [k]=if Zp a b c m L=0 then(if 0<=k/\k<=(L.length:Int) - 1 then 0 else 6) else Zp a b c m L:=by
 rw[Zo,firstV];split
 ·simp only[firstV,Zq,Z1k];by_cases h:0<=k/\k<=(L.length:Int) - 1
  ·rw[if_pos h];simp[h]
  ·rw[if_neg h];simp[h]
 ·rfl
theorem Zhg(a b c m:Int)(base:Option Addr)(n cap:Nat)(L:List Sf)(k:Int)(w:World)(A2:L.length=n)(hn:n<=20)(hS:RawA w base L):
 Calls prog 118 #[.agg #[.int .i64 a,.int .i64 b,.int .i64 c,.int .i64 m,.slice base n cap],.int .i64 k] w fun e w'=>e= .returned (.int .i64 (Zo a b c m L [k]))/\Ext w w':=by
 have hc:=fun W hW=>Z1P a b c m base n cap L W A2 (by omega) (hS.ext hW)
 rw[ZhG,A2];have As:=fun W=>Z4r k 0 ((n:Int) - 1) W
 by_cases h0:Zp a b c m L=0
 ·rw[if_pos h0];simp only[h0] at hc;by_cases hk:0<=k/\k<=(n:Int) - 1
  ·rw[if_pos hk];rw[decide_eq_true hk] at As;clear hk;go_enter func118,ntmps118
   go_wp2_with (first
    |(go_at_call 26;refine(hc _ ((Ext.rfl' w).alloc _)).mono ?_;rintro e w2 ⟨rfl,A5⟩
      have g:=A5.get ((Z3 _ _ _).trans (if_pos rfl));have q4:=Z0 g 4;have Ag:=((Ext.rfl' w).alloc _).trans A5;simp only[List.getElem?_toArray,List.getElem?_cons_zero,List.getElem?_cons_succ] at q4)
    |(go_at_call 93;refine(As _).mono ?_;rintro e w3 ⟨rfl,rfl⟩))
   go_ret;exact⟨rfl,Ag⟩
  ·rw[if_neg hk];rw[decide_eq_false hk] at As;clear hk;go_enter func118,ntmps118
   go_wp2_with (first
    |(go_at_call 26;refine(hc _ ((Ext.rfl' w).alloc _)).mono ?_;rintro e w2 ⟨rfl,A5⟩
      have g:=A5.get ((Z3 _ _ _).trans (if_pos rfl));have q4:=Z0 g 4;have Ag:=((Ext.rfl' w).alloc _).trans A5;simp only[List.getElem?_toArray,List.getElem?_cons_zero,List.getElem?_cons_succ] at q4)
    |(go_at_call 93;refine(As _).mono ?_;rintro e w3 ⟨rfl,rfl⟩))
   go_ret;exact⟨rfl,Ag⟩
 ·rw[if_neg h0];have A8:(Zp a b c m L !=0)=true:=by simpa using h0
  generalize Zp a b c m L=f at hc A8⊢;go_enter func118,ntmps118
  go_wp2_with (first
   |(go_at_call 26;refine(hc _ ((Ext.rfl' w).alloc _)).mono ?_;rintro e w2 ⟨rfl,A5⟩))
  go_ret;exact⟨rfl,((Ext.rfl' w).alloc _).trans A5⟩
theorem RawL2.rawL{w:World}{base:Option Addr}{ls:List (List Int)}(h:RawL2 w base ls)(hb:∀l∈ls,l.length<=1000000):RawL w base ls:=by
 intro i l hi;obtain⟨b,off,ad,cp,h1,h2,h3,_,h5⟩:=h i l hi;exact⟨b,off,ad,cp,h1,h2,h3,hb l (List.mem_of_getElem? hi),h5⟩
theorem mem_upLs{n:Nat}{p:Int}:p∈upL n↔0<=p/\p<n:=by
 simp only[upL,List.mem_map,List.mem_range];constructor
 ·rintro⟨i,h,rfl⟩;omega
 ·intro h;exact⟨p.toNat,by omega,by omega⟩
theorem ZhH(a b c m:Int)(base:Option Addr)(n cap:Nat)(L:List Sf)(w:World)(A2:L.length=n)(hn:n<=20)(hS:RawA w base L):
 Calls prog 55 #[.agg #[.int .i64 a,.int .i64 b,.int .i64 c,.int .i64 m,.slice base n cap]] w fun e w'=>∃ao cp,e= .returned (.tuple #[.slice ao (ZgA a b c m L).length cp,.int .i64 (Zo a b c m L [])])/\RawL w' ao (ZgA a b c m L)/\Ext w w':=by
 have hc:=fun W hW=>Z1P a b c m base n cap L W A2 (by omega) (hS.ext hW)
 have A1:=Zhq a b c m L;by_cases h:Zo a b c m L []=0
 ·obtain⟨hG,_,E4,hm⟩:=Z1n h;rw[<-A1,h] at hc;rw[A2] at E4;have hA:ZgA a b c m L=ZgO a b c L m.toNat (upL n):=by rw[ZgC h,A2];rfl
  rw[hA,h];have Jp:(upL n).length=n:=by simp[upL]
  have Dx:=fun W (_:Ext w W)=>Zg9 n W (by omega)
  have Ib:∀W bl cl,Ext w W->n<=cl->RawI W bl (upL n)->Calls prog 116 #[.agg #[.int .i64 a,.int .i64 b,.int .i64 c,.int .i64 m,.slice base n cap],.slice bl n cl] W fun e w'=>∃v,e= .returned v/\Shr W.heap.size w' v (ZgO a b c L m.toNat (upL n))/\Ext W w':=
   fun W bl cl hW D2 hI=>Zha a b c m base n cap L bl n cl (upL n) W hG A2 hn hm Jp E4 D2 (fun p hp=>mem_upLs.1 hp) (hS.ext hW) hI
  have T4:∀l∈ZgO a b c L m.toNat (upL n),l.length<=1000000:=fun l hl=>by
   have:=(ZgT.1 hl).2.1;omega
  generalize ZgO a b c L m.toNat (upL n)=SR at Ib T4⊢;replace Jp:Hid ((upL n).length=n):=Jp;clear hA h A1 hS;go_enter func55,ntmps55
  go_wp2_with (first
   |(go_at_call 26;refine(hc _ ((Ext.rfl' w).alloc _)).mono ?_;rintro e w2 ⟨rfl,A5⟩
     have hr:=A5.get (b:=w.heap.size) (o:=(.cells #[.int .i64 a,.int .i64 b,.int .i64 c,.int .i64 m,.slice base n cap] 26)) ((Z3 _ _ _).trans (if_pos rfl));have hE:=((Ext.rfl' w).alloc _).trans A5))
  obtain⟨q0,q1,q2,q3,q4⟩:=Zh3 hr;have g0:=Zet q0;have g1:=Zet q1;have g2:=Zet q2;have g3:=Zet q3;have g4:=Zet q4;clear hc hr A5;refine ZeG 8 (by kernel_rfl) ?_;refine ZeB [0,1,2,3] (by kernel_rfl) (by kernel_rfl) ?_;simp only[ZeD,List.getElem?_cons_succ,List.getElem?_cons_zero,List.cons_append,List.nil_append]
  repeat (go_big_quiet_step (fail))
  refine wpQuiet_nil ?_;refine Zfa 4 rfl (by kernel_rfl) rfl (fun W hW=>Zfo (f:=44) (args:= #[.int .i64 n]) (by simp[go_sem,execOp,Act.eval]) ?_);refine(Dx W (hE.trans hW)).mono ?_;rintro e W2 ⟨x,rfl,Ml,Ag⟩;obtain⟨bl,cl,rfl,hI,D2⟩:=Ml.rawI;rw[show(upL n).length=n from Jp.out] at D2;rw[show(upL n).length=n from Jp.out];refine⟨.slice bl n cl,rfl,Ag,?_⟩;have B6:=(hE.trans hW).trans Ag;clear Ag hW Ml;clear W;clear g0 g1 g2 g3 g4 q0 q1 q2 q3 q4;go_simp;refine Zfa 5 rfl (by kernel_rfl) rfl (fun W hW=>Zfo (f:=116) (args:= #[.agg #[.int .i64 a,.int .i64 b,.int .i64 c,.int .i64 m,.slice base n cap],.slice bl n cl]) (by simp[go_sem,execOp,Act.eval]) ?_);refine(Ib W bl cl (B6.trans hW) D2 (hI.ext hW)).mono ?_;rintro e W3 ⟨v,rfl,P3,By⟩;obtain⟨ao,cp,rfl,Bq,P4⟩:=P3.rawL2;refine⟨.slice ao SR.length cp,rfl,By,?_⟩;have Gc:=(B6.trans hW).trans By;clear By B6 hW hI D2 P3;clear W;go_simp;refine ZeB [6,7] (by kernel_rfl) (by kernel_rfl) ?_;simp only[ZeD,List.getElem?_cons_succ,List.getElem?_cons_zero,List.cons_append,List.nil_append]
  repeat (go_big_quiet_step (fail))
  refine wpQuiet_nil ?_;refine Zf6 (by kernel_rfl) (fun W hW=> ?_);have H1:=Gc.trans hW;have U3:=P4.rawL T4;replace U3:=U3.ext hW;clear P4 Bq Gc hW;go_wp2;go_ret2;exact⟨ao,cp,rfl,U3,H1⟩
 ·have hA:ZgA a b c m L=[]:=by rw[ZgA,if_neg h]
  have A8:(Zo a b c m L [] !=0)=true:=by simpa using h
  rw[hA];rw[<-A1] at hc;generalize Zo a b c m L []=f at hc A8⊢;go_enter func55,ntmps55
  go_wp2_with (first
   |(go_at_call 26;refine(hc _ ((Ext.rfl' w).alloc _)).mono ?_;rintro e w2 ⟨rfl,A5⟩))
  go_ret2;exact⟨none,0,rfl,(fun i l hl=>by simp at hl),((Ext.rfl' w).alloc _).trans A5⟩
end Go.Proofs.Tryq
namespace Go.Proofs.Tryq
set_option maxRecDepth 100000
set_option maxHeartbeats 8000000
open Go Go.Nk Go.RowKit
set_option linter.all false
theorem flatten_len:∀(S:List (List Int))(k i:Nat),(∀t∈S,t.length<=k)->S.length<=i->S.flatten.length<=k*i
 |[],k,i,_,_=>by simp
 |s::S,k,i,h,hl=>by
  cases i with
  |zero=>simp at hl
  |succ i=>
   have h1:=h s List.mem_cons_self;have h2:=flatten_len S k i (fun t ht=>h t (List.mem_cons_of_mem _ ht)) (by simp at hl;omega);rw[List.flatten_cons,List.length_append,Nat.mul_succ];omega
theorem Zhe(a b c:Int)(L:List Sf)(m:Nat)(s:List Int)(hs:s.length<=9):(ZgO a b c L m s).length<=512/\∀l∈ZgO a b c L m s,l.length=m/\l.length<=9:=by
 refine⟨?_,fun l hl=> ?_⟩
 ·refine Nat.le_trans (List.length_filter_le _ _) ?_;rw[chooseR_len];exact Nat.pow_le_pow_right (n:=2) (by omega) hs
 ·obtain⟨h1,h2,_⟩:=ZgT.1 hl;exact⟨h2,Nat.le_trans h1.length_le hs⟩
theorem shareL_mem:∀(t best:List (List Int))(taken:List Int),∀l∈shareL best t taken,l∈best\/l∈t
 |[],best,taken,l,h=> .inl h
 |s::t,best,taken,l,h=>by
  rw[shareL] at h;split at h
  ·rcases shareL_mem t best taken l h with h|h
   ·exact .inl h
   ·exact .inr (List.mem_cons_of_mem _ h)
  ·rcases shareL_mem t _ taken l h with h|h
   ·split at h
    ·rcases List.mem_cons.1 h with rfl|h
     ·exact .inr List.mem_cons_self
     ·rcases shareL_mem t [] (taken++s) l h with h|h
      ·cases h
      ·exact .inr (List.mem_cons_of_mem _ h)
    ·exact .inl h
   ·exact .inr (List.mem_cons_of_mem _ h)
theorem Zhl(a b c:Int)(L:List Sf)(m:Nat)(s:List Int)(hs:s.length<=9)(W:World)(ao:Option Addr)(cp:Nat)(h:RawL2 W ao (ZgO a b c L m s)):
 Calls prog 117 #[.slice ao (ZgO a b c L m s).length cp,.int .i64 0,.slice none 0 0] W fun e w'=>∃aq cs,e= .returned (.slice aq (shareL [] (ZgO a b c L m s) []).length cs)/\RawL w' aq (shareL [] (ZgO a b c L m s) [])/\(shareL [] (ZgO a b c L m s) []=[]->aq=none/\cs=0)/\Ext W w':=by
 have Hr:=Zhe a b c L m s hs;exact ZhC (ZgO a b c L m s) ao _ cp rfl Hr.1 (fun l hl=>(Hr.2 l hl).2) _ 0 none 0 0 [] W (Nat.zero_add _) rfl (Nat.zero_le _) (fun _=>rfl) h (fun i x hx=>by simp at hx)
theorem ZhI(a b c m:Int)(base:Option Addr)(n cap:Nat)(L:List Sf)(w:World)(A2:L.length=n)(hn:n<=20)(hS:RawA w base L):
 Calls prog 57 #[.agg #[.int .i64 a,.int .i64 b,.int .i64 c,.int .i64 m,.slice base n cap]] w fun e w'=>∃ao cp bl cl,e= .returned (.tuple #[.slice ao (Z66 a b c m L).length cp,.slice bl (Z6T a b c m L).length cl,.int .i64 (Zo a b c m L [])])/\RawL w' ao (Z66 a b c m L)/\RawI w' bl (Z6T a b c m L)/\Ext w w':=by
 have hc:=fun W hW=>Z1P a b c m base n cap L W A2 (by omega) (hS.ext hW)
 have A1:=Zhq a b c m L;by_cases h:Zo a b c m L []=0
 ·obtain⟨hG,_,E4,hm⟩:=Z1n h;rw[<-A1,h] at hc;rw[A2] at E4;have Jp:(upL n).length=n:=by simp[upL]
  have hA:Z66 a b c m L=shareL [] (ZgO a b c L m.toNat (upL n)) []:=by
   rw[Z66,if_pos h,Zhd a b c L m.toNat L.length (by omega) (fun _=>false) (fun _=>false) [] (by simp),ZgU,A2];rfl
  have hB:Z6T a b c m L=Z32 n (Z66 a b c m L):=by rw[Z6T,if_pos h,A2]
  rw[hB,hA,h];have Dx:=fun W (_:Ext w W)=>Zg9 n W (by omega)
  have Ib:∀W bl cl,Ext w W->n<=cl->RawI W bl (upL n)->Calls prog 116 #[.agg #[.int .i64 a,.int .i64 b,.int .i64 c,.int .i64 m,.slice base n cap],.slice bl n cl] W fun e w'=>∃v,e= .returned v/\Shr W.heap.size w' v (ZgO a b c L m.toNat (upL n))/\Ext W w':=
   fun W bl cl hW D2 hI=>Zha a b c m base n cap L bl n cl (upL n) W hG A2 hn hm Jp E4 D2 (fun p hp=>mem_upLs.1 hp) (hS.ext hW) hI
  have B5:=fun W ao cp (_:Ext w W)(h:RawL2 W ao (ZgO a b c L m.toNat (upL n)))=>Zhl a b c L m.toNat (upL n) (by omega) W ao cp h
  have Hr:=Zhe a b c L m.toNat (upL n) (by omega);have Vs:Hid (∀s∈shareL [] (ZgO a b c L m.toNat (upL n)) [],2<=s.length/\s.length<=9):=by
   intro s hs;rcases shareL_mem _ _ _ s hs with h|h
   ·cases h
   ·have:=Hr.2 s h;omega
  have Hh:(shareL [] (ZgO a b c L m.toNat (upL n)) []).length<=512:=by
   have h1:=shareL_len (ZgO a b c L m.toNat (upL n)) [] [];have h2:=Hr.1;have h3:([]:List (List Int)).length=0:=rfl;omega
  have Mv:Hid ((shareL [] (ZgO a b c L m.toNat (upL n)) []).flatten.length<=9*512):=flatten_len _ 9 512 (fun t ht=>(Vs.out t ht).2) Hh;clear Hr;generalize shareL [] (ZgO a b c L m.toNat (upL n)) []=FS at B5 Vs Hh Mv⊢;generalize ZgO a b c L m.toNat (upL n)=SR at Ib B5⊢;replace Jp:Hid ((upL n).length=n):=Jp;clear hA hB h A1 hS;go_enter func57,ntmps57
  go_wp2_with (first
   |(go_at_call 26;refine(hc _ ((Ext.rfl' w).alloc _)).mono ?_;rintro e w2 ⟨rfl,A5⟩
     have hr:=A5.get (b:=w.heap.size) (o:=(.cells #[.int .i64 a,.int .i64 b,.int .i64 c,.int .i64 m,.slice base n cap] 26)) ((Z3 _ _ _).trans (if_pos rfl));have hE:=((Ext.rfl' w).alloc _).trans A5))
  obtain⟨q0,q1,q2,q3,q4⟩:=Zh3 hr;have g0:=Zet q0;have g1:=Zet q1;have g2:=Zet q2;have g3:=Zet q3;have g4:=Zet q4;clear hc A5;refine ZeG 8 (by kernel_rfl) ?_;refine ZeB [0,1,2,3] (by kernel_rfl) (by kernel_rfl) ?_;simp only[ZeD,List.getElem?_cons_succ,List.getElem?_cons_zero,List.cons_append,List.nil_append]
  repeat (go_big_quiet_step (fail))
  refine wpQuiet_nil ?_;refine Zfa 4 rfl (by kernel_rfl) rfl (fun W hW=>Zfo (f:=44) (args:= #[.int .i64 n]) (by simp[go_sem,execOp,Act.eval]) ?_);refine(Dx W (hE.trans hW)).mono ?_;rintro e W2 ⟨x,rfl,Ml,Ag⟩;obtain⟨bl,cl,rfl,hI,D2⟩:=Ml.rawI;rw[show(upL n).length=n from Jp.out] at D2;rw[show(upL n).length=n from Jp.out];refine⟨.slice bl n cl,rfl,Ag,?_⟩;have B6:=(hE.trans hW).trans Ag;replace hr:=(hW.trans Ag).get hr;clear Ag hW Ml;clear W;clear g0 g1 g2 g3 g4 q0 q1 q2 q3 q4;go_simp;refine Zfa 5 rfl (by kernel_rfl) rfl (fun W hW=>Zfo (f:=116) (args:= #[.agg #[.int .i64 a,.int .i64 b,.int .i64 c,.int .i64 m,.slice base n cap],.slice bl n cl]) (by simp[go_sem,execOp,Act.eval]) ?_);refine(Ib W bl cl (B6.trans hW) D2 (hI.ext hW)).mono ?_;rintro e W3 ⟨v,rfl,P3,By⟩;obtain⟨ao,cp,rfl,Bq,P4⟩:=P3.rawL2;refine⟨.slice ao SR.length cp,rfl,By,?_⟩;have Gc:=(B6.trans hW).trans By;replace hr:=(hW.trans By).get hr;clear By B6 hW hI D2 P3;clear W;go_simp;refine Zfa 6 rfl (by kernel_rfl) rfl (fun W hW=>Zfo (f:=117) (args:= #[.slice ao SR.length cp,.int .i64 0,.slice none 0 0]) (by simp[go_sem,execOp,Act.eval]) ?_);refine(B5 W ao cp (Gc.trans hW) (P4.ext2 hW)).mono ?_;rintro e W4 ⟨aq,cs,rfl,hRS,_,C1⟩
  refine⟨.slice aq FS.length cs,rfl,C1,?_⟩;have Db:=(Gc.trans hW).trans C1;replace hr:=(hW.trans C1).get hr;clear C1 hW P4 Bq Gc;clear W;go_simp;refine ZeB [7] (by kernel_rfl) (by kernel_rfl) ?_;simp only[ZeD,List.getElem?_cons_succ,List.getElem?_cons_zero,List.cons_append,List.nil_append]
  repeat (go_big_quiet_step (fail))
  refine wpQuiet_nil ?_;refine Zf6 (by kernel_rfl) (fun W hW=> ?_);have Hq:=Db.trans hW;have Vt:=hRS.ext hW;replace hr:=hW.get hr;clear Db hRS hW;go_wp2;generalize hW1:W=w1 at Hq Vt hr⊢;clear hW1;obtain⟨N,hN⟩:∃N,N=w1.heap.size:=⟨_,rfl⟩;have U8:OwnI N w1 (.slice none 0 0) ((FS.take 0).flatten):=World.ownsRow_nil _ _ _ _;go_loopw [7,9] (fun v7 v9 wr=>∃i:Nat,i<=FS.length/\v9= .int .i64 i/\Ext w1 wr/\OwnI N wr v7 ((FS.take i).flatten)) (fun _ v9 _=>FS.length - (intOf v9).toNat)
  case atStart=>exact⟨0,Nat.zero_le _,rfl,Ext.rfl' w1,U8⟩
  case round=>
   clear U8;obtain⟨i,hi,rfl,hE,A9⟩:=hrel;by_cases Ds:i=FS.length
   ·subst Ds;rw[List.take_length] at A9;replace hr:=hE.get hr;have Jm:=Hq.trans hE;have U9:=Vt.ext hE;obtain⟨at',ct,rfl,_,hcl7,hI7⟩:=A9.raw2;clear A9 Vt hE Hq;obtain⟨w2,Ef⟩:∃x:World,x=wr:=⟨_,rfl⟩;subst Ef;have H6:=Mv.out;have hh:=fun x W (hW:Ext w2 W)=>Zhj at' (FS.flatten).length ct (FS.flatten) x W rfl (by omega) (hI7.ext hW)
    obtain⟨F,hF⟩:∃F,F=FS.flatten:=⟨_,rfl⟩;rw[<-hF] at hh H6 hcl7;have hinl:Hid (∀j:Nat,decide ((j:Int)∈F)=inL FS j):=by
     intro j;rw[hF,Bool.eq_iff_iff];simp[inL,List.mem_flatten]
    rw[<-hF];clear hF hI7;obtain⟨N2,hN2⟩:∃N,N=w2.heap.size:=⟨_,rfl⟩;have Ps:OwnI N2 w2 (.slice none 0 0) (Z32 0 FS):=World.ownsRow_nil _ _ _ _;go_wp2;go_loopw [8,10] (fun v8 v10 wr=>∃i:Nat,i<=n/\v10= .int .i64 i/\Ext w2 wr/\OwnI N2 wr v8 (Z32 i FS)) (fun _ v10 _=>n - (intOf v10).toNat)
    case atStart=>exact⟨0,Nat.zero_le _,rfl,Ext.rfl' w2,Ps⟩
    case round=>
     clear Ps;obtain⟨i,hi,rfl,hE,A9⟩:=hrel;obtain⟨q0,q1,q2,q3,q4⟩:=Zh3 (hE.get hr);by_cases Ds:i=n
     ·subst Ds;obtain⟨al,cl,rfl,_,_,hI8⟩:=A9.raw2;have hRF3:=U9.ext hE;have hE13:=Jm.trans hE;clear A9 hE Jm U9;go_wp2;go_ret3;exact⟨_,_,_,_,rfl,hRF3,hI8,hE13⟩
     ·have A3:i<n:=(by omega);have C9:(i:Int)<(n:Int):=(by omega);have Az:=hE.size;have B3:=hh i;rw[hinl.out i] at B3;have Ac:=Z8C FS i;have I5:=Zaq i FS;obtain⟨l,hl⟩:∃l,l=Z32 i FS:=⟨_,rfl⟩;rw[<-hl] at A9 I5 Ac;clear hl;cases hb:inL FS i with
      |true=>
       have H3:Hid (Z32 (i+1) FS=l):=(by show _=_;rw[Ac,hb];rfl);rw[hb] at B3;clear Ac hb;go_wp2_with (first|(go_at_call 39;(with_reducible refine(B3 _ hE).mono ?_);rintro e w3 ⟨rfl,hF⟩;replace hE:=hE.trans hF;replace A9:=A9.ext hF));exact⟨⟨i+1,by omega,by push_cast;rfl,hE,by rw[H3.out];exact A9⟩,by simp[intOf];omega⟩
      |false=>
       have H3:Hid (Z32 (i+1) FS=l++[(i:Int)]):=(by show _=_;rw[Ac,hb];rfl);rw[hb] at B3;clear Ac hb
       go_wp2_with (first
        |(go_at_call 39;(with_reducible refine(B3 _ hE).mono ?_);rintro e w3 ⟨rfl,hF⟩;replace hE:=hE.trans hF;replace A9:=A9.ext hF;replace Az:=hE.size)
        |(at_builtin
          refine wpList_append_own _ rfl _ _ _ rfl N2 3 Tryz.t3 (.int .i64 0) 1 8 Go.Proofs.Tryq.u27 i3 t3z t3s t3b rfl (by omega) _ _ _ rfl (A9.alloc _) ⟨w3.heap.size,0,none⟩ 1 1 [.int .i64 i] rfl rfl (Z1N _ _ _) (by intro u hu;simp at hu;subst hu;rfl) (by(try simp[maxLen]);omega) (by(try simp);omega) (by(try simp only[Z2]);omega) ?_;intro v' w4 Af Ab _;have Ag:Ext w2 w4:=(hE.alloc _).grown Ab (fun k hk=>by have:=(A9.lt k hk).1;omega)))
       exact⟨⟨i+1,by omega,by push_cast;rfl,Ag,by rw[H3.out];simpa[OwnI] using Af⟩,by simp[intOf];omega⟩
   ·have A3:i<FS.length:=(by omega);have C9:(i:Int)<(FS.length:Int):=(by omega);have Kt:(i:Int)<1000:=(by omega);obtain⟨s,hs⟩:∃s,FS[i]? =some s:=⟨_,List.getElem?_eq_getElem A3⟩;have D0:=Vs.out s (List.mem_of_getElem? hs);obtain⟨tb,to,ad,cp,rfl,htb,Do,_,D7⟩:=(Vt.ext hE) i s hs;have Oz:ad=none->cp=0:=by
     rintro rfl;obtain⟨x,hx⟩:∃x,s[0]? =some x:=⟨_,List.getElem?_eq_getElem (by omega)⟩;obtain⟨_,_,e,_⟩:=D7 0 x hx;cases e
    have HN:Hid ((FS.take (i+1)).flatten=(FS.take i).flatten++s):=(by show _=_;rw[Z0G hs];simp);have hfb:((FS.take i).flatten).length<=9*i:=flatten_len _ 9 i (fun t ht=>(Vs.out t (List.mem_of_mem_take ht)).2) (List.length_take_le _ _);generalize (FS.take i).flatten=F at A9 HN hfb;have Az:=hE.size;clear hs
    go_wp2_with (
     at_builtin
     refine wpList_plain rfl fun K hK=> ?_
     refine Zhm _ _ rfl N _ F rfl A9 ad cp s rfl Oz D7 (by omega) (by omega) (fun v' w3 Af Dp=>hK _ _ ?_);have Ag:=hE.grown Dp (fun k hk=>by have:=(A9.lt k hk).1;omega))
    exact⟨⟨i+1,by omega,by push_cast;rfl,Ag,by rw[HN.out];exact Af⟩,by simp[intOf];omega⟩
 ·have hA:Z66 a b c m L=[]:=by rw[Z66,if_neg h]
  have hB:Z6T a b c m L=[]:=by rw[Z6T,if_neg h]
  have A8:(Zo a b c m L [] !=0)=true:=by simpa using h
  rw[hA,hB];rw[<-A1] at hc;generalize Zo a b c m L []=f at hc A8⊢;go_enter func57,ntmps57
  go_wp2_with (first
   |(go_at_call 26;refine(hc _ ((Ext.rfl' w).alloc _)).mono ?_;rintro e w2 ⟨rfl,A5⟩))
  go_ret3;exact⟨none,0,none,0,rfl,(fun i l hl=>by simp at hl),(fun i l hl=>by simp at hl),((Ext.rfl' w).alloc _).trans A5⟩
theorem Zhr(a b c m:Int)(base:Option Addr)(n cap:Nat)(L:List Sf)(k:Int)(w:World)(A2:L.length=n)(hn:n<=20)(hS:RawA w base L):
 Calls prog 60 #[.agg #[.int .i64 a,.int .i64 b,.int .i64 c,.int .i64 m,.slice base n cap],.int .i64 k] w fun e w'=>e= .returned (.tuple #[.int .i64 (Z1Y a b c m L k),.int .i64 (Zo a b c m L [k])])/\Ext w w':=by
 have hc:=fun W hW=>Zhg a b c m base n cap L k W A2 hn (hS.ext hW)
 by_cases h:Zo a b c m L [k]=0
 ·obtain⟨hG,P5,E4,hm⟩:=Z1n h;rw[A2] at E4 P5;obtain⟨q,rfl⟩:=Int.eq_ofNat_of_zero_le (P5 k (by simp)).1;obtain⟨U,hU⟩:∃U:Nat->List Int,U=fun i=>((List.range i).filter fun j=> !(j==q)).map fun(j:Nat)=>(j:Int):=⟨_,rfl⟩
  have hA:Z1Y a b c m L q=(shareL [] (ZgO a b c L m.toNat (U n)) []).length:=by
   rw[Z1Y,if_pos h,ZhE a b c L m.toNat L.length (by omega),hU,A2,Int.toNat_natCast];simp[ZeS,List.range_eq_range']
  rw[hA];rw[h] at hc⊢;have Ua:∀i,∀p∈U i,0<=p/\p<(i:Int):=by
   intro i p hp;rw[hU] at hp;obtain⟨j,hj,rfl⟩:=List.mem_map.1 hp;have:=List.mem_range.1 (List.mem_filter.1 hj).1;omega
  have hUl:Hid (∀i,(U i).length<=i):=by
   intro i;rw[hU];have:=List.length_filter_le (fun j=> !(j==q)) (List.range i);simpa using this
  have hUs:Hid (∀i,U (i+1)=if i=q then U i else U i++[(i:Int)]):=by
   intro i;rw[hU];simp only[List.range_succ,List.filter_append,List.map_append];by_cases h:i=q
   ·simp[h]
   ·simp[h]
  have hU0:Hid (U 0=[]):=by rw[hU];rfl
  clear hU hA
  have Ib:∀W bl cl,Ext w W->(U n).length<=cl->RawI W bl (U n)->Calls prog 116 #[.agg #[.int .i64 a,.int .i64 b,.int .i64 c,.int .i64 m,.slice base n cap],.slice bl (U n).length cl] W fun e w'=>∃v,e= .returned v/\Shr W.heap.size w' v (ZgO a b c L m.toNat (U n))/\Ext W w':=
   fun W bl cl hW D2 hI=>Zha a b c m base n cap L bl (U n).length cl (U n) W hG A2 hn hm rfl (Nat.le_trans (hUl.out n) E4) D2 (Ua n) (hS.ext hW) hI
  have B5:=fun W ao cp (_:Ext w W)(h:RawL2 W ao (ZgO a b c L m.toNat (U n)))=>Zhl a b c L m.toNat (U n) (Nat.le_trans (hUl.out n) E4) W ao cp h
  generalize shareL [] (ZgO a b c L m.toNat (U n)) []=FS at B5⊢;generalize ZgO a b c L m.toNat (U n)=SR at Ib B5⊢;clear P5 Ua h hS;go_enter func60,ntmps60
  go_wp2_with (first
   |(go_at_call 118;refine(hc _ ((Ext.rfl' w).alloc _)).mono ?_;rintro e w2 ⟨rfl,A5⟩
     have hr:=A5.get (b:=w.heap.size) (o:=(.cells #[.int .i64 a,.int .i64 b,.int .i64 c,.int .i64 m,.slice base n cap] 26)) ((Z3 _ _ _).trans (if_pos rfl));have Bg:=((Ext.rfl' w).alloc _).trans A5))
  clear hc A5;obtain⟨N,hN⟩:∃N,N=w2.heap.size:=⟨_,rfl⟩;have U8:OwnI N w2 (.slice none 0 0) (U 0):=by rw[hU0.out];exact World.ownsRow_nil _ _ _ _
  go_loopw [7,8] (fun v7 v8 wr=>∃i:Nat,i<=n/\v8= .int .i64 i/\Ext w2 wr/\OwnI N wr v7 (U i)) (fun _ v8 _=>n - (intOf v8).toNat)
  case atStart=>exact⟨0,Nat.zero_le _,rfl,Ext.rfl' w2,U8⟩
  case round=>
   clear U8;obtain⟨i,hi,rfl,hE,A9⟩:=hrel;obtain⟨q0,q1,q2,q3,q4⟩:=Zh3 (hE.get hr);have Az:=hE.size;by_cases Ds:i=n
   ·subst Ds;obtain⟨al,cl,rfl,_,D2,hI8⟩:=A9.raw2;have Ai:=Bg.trans hE;clear A9 hE Bg hr
    go_wp2_with (first
     |(go_at_call 116;(with_reducible refine(Ib _ al cl Ai D2 hI8).mono ?_);rintro e w3 ⟨v,rfl,P3,hF⟩
       obtain⟨ao,cp,rfl,_,P4⟩:=P3.rawL2;replace Ai:=Ai.trans hF)
     |(go_at_call 117;(with_reducible refine(B5 _ ao cp Ai P4).mono ?_);rintro e w4 ⟨aq,cs,rfl,_,_,A0⟩
       replace Ai:=Ai.trans A0))
    go_ret2;exact⟨rfl,Ai⟩
   ·have A3:i<n:=(by omega);have C9:(i:Int)<(n:Int):=(by omega);have Ac:=hUs.out i;have I5:=hUl.out i;obtain⟨l,hl⟩:∃l,l=U i:=⟨_,rfl⟩;rw[<-hl] at A9 I5 Ac;clear hl;by_cases hiq:i=q
    ·have H3:Hid (U (i+1)=l):=(by show _=_;rw[Ac,if_pos hiq]);clear Ac;subst hiq;go_wp2;exact⟨⟨i+1,by omega,by push_cast;rfl,hE,by rw[H3.out];exact A9⟩,by simp[intOf];omega⟩
    ·have H3:Hid (U (i+1)=l++[(i:Int)]):=(by show _=_;rw[Ac,if_neg hiq]);have hb:((i:Int) !=(q:Int))=true:=bne_iff_ne.2 (by omega);have hiq2:¬(i:Int)=(q:Int):=(by omega);clear Ac
     go_wp2_with (
      at_builtin
      refine wpList_append_own _ rfl _ _ _ rfl N 3 Tryz.t3 (.int .i64 0) 1 8 Go.Proofs.Tryq.u27 i3 t3z t3s t3b rfl (by omega) _ _ _ rfl (A9.alloc _) ⟨wr.heap.size,0,none⟩ 1 1 [.int .i64 i] rfl rfl (Z1N _ _ _) (by intro u hu;simp at hu;subst hu;rfl) (by(try simp[maxLen]);omega) (by(try simp);omega) (by(try simp only[Z2]);omega) ?_;intro v' w4 Af Ab _;have Ag:Ext w2 w4:=(hE.alloc _).grown Ab (fun k hk=>by have:=(A9.lt k hk).1;omega))
     exact⟨⟨i+1,by omega,by push_cast;rfl,Ag,by rw[H3.out];simpa[OwnI] using Af⟩,by simp[intOf];omega⟩
 ·have hA:Z1Y a b c m L k=0:=by rw[Z1Y,if_neg h]
  have A8:(Zo a b c m L [k] !=0)=true:=by simpa using h
  rw[hA];generalize Zo a b c m L [k]=f at hc A8⊢;go_enter func60,ntmps60
  go_wp2_with (first
   |(go_at_call 118;refine(hc _ ((Ext.rfl' w).alloc _)).mono ?_;rintro e w2 ⟨rfl,A5⟩))
  go_ret2;exact⟨rfl,((Ext.rfl' w).alloc _).trans A5⟩
end Go.Proofs.Tryq
namespace Go.Proofs.Tryq
set_option maxRecDepth 100000
set_option maxHeartbeats 4000000
open Go Go.Nk Go.RowKit
set_option linter.all false
theorem Zh1{b:Nat}{w:World}{v:Value}{vs:List Value}{ls:List (List Int)}(h1:w.ownsRow b 27 1 v vs.length vs)(h2:Each (fun u s=>OwnI b w u s) vs ls)(hb:∀l∈ls,l.length<=1000000):∃ao cp,v= .slice ao ls.length cp/\RawL w ao ls:=by
 have A2:=h2.length;by_cases h0:ls=[]
 ·subst h0;have O1:vs.length=0:=by simpa using A2
  rcases h1.2 with⟨rfl,_⟩|⟨g,cp,_,rfl,_⟩
  ·exact⟨none,0,rfl,fun i l hl=>by simp at hl⟩
  ·exact⟨_,cp,by rw[O1];rfl,fun i l hl=>by simp at hl⟩
 ·have hp:0<vs.length:=by rw[A2];exact List.length_pos_iff.2 h0
  obtain⟨g,cr,rfl,_,hg⟩:=h1.form hp;refine⟨_,cr,by rw[A2],fun i l hl=> ?_⟩;obtain⟨u,hu,Ci⟩:=h2.get i l hl;have hc:=h1.cells (g:=g) rfl i u hu;rw[Z0c] at hc;obtain⟨ad,cu,rfl,hr,_⟩:=Ci.rawI;exact⟨g,0,ad,cu,rfl,hg,by rw[Nat.zero_add];exact hc,hb l (List.mem_of_getElem? hl),hr⟩
theorem ZgY{a b c m:Int}{L:List Sf}:(ZgA a b c m L).length<=100000:=by
 unfold ZgA;split
 ·rename_i h;obtain⟨_,_,E4,hm⟩:=Z1n h;refine Nat.le_trans (Z3L a b c L L.length _ E4 m.toNat [] 0) ?_;have:m.toNat=2\/m.toNat=3\/m.toNat=4:=by omega
  rcases this with h|h|h<;>rw[h]<;>decide
 ·simp
theorem Zh2(a b c m:Int)(base:Option Addr)(n cap:Nat)(L:List Sf)(w:World)(A2:L.length=n)(hn:n<=20)(hM:Meas w)(hS:RawA w base L):
 Calls prog 54 #[.agg #[.int .i64 a,.int .i64 b,.int .i64 c,.int .i64 m,.slice base n cap]] w fun e w'=>∃ao cp,e= .returned (.tuple #[.slice ao (ZgA a b c m L).length cp,.int .i64 (Zo a b c m L [])])/\RawL w' ao (ZgA a b c m L)/\Ext w w':=by
 have ho:=fun W hW=>Z3c a b c m base n cap L none 0 0 [] W A2 hn rfl (by omega) (hM.ext hW) (hS.ext hW) (fun i x hx=>by simp at hx)
 by_cases h:Zo a b c m L []=0
 ·obtain⟨hG,_,E4,hm⟩:=Z1n h;have Js:ZgA a b c m L=Zt a b c L n (fun _=>false) m.toNat [] 0:=by rw[ZgA,if_pos h,A2]
  have B5:=fun W hW=>ZbU a b c m base n cap L (fun _=>false) W hG A2 (by omega) hm (hM.ext hW) (hS.ext hW)
  have Bc:∀l∈Zt a b c L n (fun _=>false) m.toNat [] 0,l.length<=1000000:=fun l hl=>by
   have:=(Z2A a b c L n (fun _=>false) m.toNat [] 0 l hl (by simp) List.Pairwise.nil).2.2;simp at this;omega
  rw[Js];rw[h] at ho⊢;generalize Zt a b c L n (fun _=>false) m.toNat [] 0=S at B5 Bc⊢;simp only[Zs] at B5;clear Js h;go_enter func54,ntmps54
  go_wp2_with (first
   |(go_at_call 86;refine(ho _ (by(repeat (with_reducible first|assumption|exact Ext.rfl' _|apply Ext.alloc|apply Ext.drew)))).mono ?_;rintro e w2 ⟨rfl,A5⟩
     have Ag:Ext w w2:=Ext.trans (by(repeat (with_reducible first|assumption|exact Ext.rfl' _|apply Ext.alloc|apply Ext.drew))) A5)
   |(go_at_call 115;refine(B5 _ (by(repeat (with_reducible first|assumption|exact Ext.rfl' _|apply Ext.alloc|apply Ext.drew)))).mono ?_;rintro e w3 ⟨v,vs,rfl,An,Ub,Av⟩
     obtain⟨ao,cp,rfl,hraw⟩:=Zh1 An Ub Bc;have B6:Ext w w3:=Ext.trans (by(repeat (with_reducible first|assumption|exact Ext.rfl' _|apply Ext.alloc|apply Ext.drew))) Av))
  go_ret2;exact⟨ao,cp,rfl,hraw,B6⟩
 ·have hF:ZgA a b c m L=[]:=by rw[ZgA,if_neg h]
  have A8:(Zo a b c m L [] !=0)=true:=by simpa using h
  rw[hF];generalize Zo a b c m L []=f at ho A8⊢;go_enter func54,ntmps54
  go_wp2_with (
   go_at_call 86;refine(ho _ (by(repeat (with_reducible first|assumption|exact Ext.rfl' _|apply Ext.alloc|apply Ext.drew)))).mono ?_;rintro e w2 ⟨rfl,A5⟩
   have Ag:Ext w w2:=Ext.trans (by(repeat (with_reducible first|assumption|exact Ext.rfl' _|apply Ext.alloc|apply Ext.drew))) A5)
  go_ret2;exact⟨none,0,rfl,fun i l hl=>by simp at hl,Ag.alloc _⟩
end Go.Proofs.Tryq
namespace Go.Proofs.Tryq
set_option maxRecDepth 100000
set_option maxHeartbeats 8000000
open Go Go.Nk Go.RowKit
set_option linter.all false
theorem ZhJ(a b c m:Int)(L:List Sf):(Z6T a b c m L).length<=L.length:=by
 rw[Z6T];split
 ·exact Zaq _ _
 ·exact Nat.zero_le _
theorem ZhK(a b c m:Int)(L:List Sf):(Z66 a b c m L).length<=L.length:=by
 rw[Z66];split
 ·exact Z2C _ _ _ _
 ·exact Nat.zero_le _
theorem ZhD(a b c m k:Int)(base:Option Addr)(n cap:Nat)(w:World)
 (I2:∀W,Ext w W->Calls prog 21 #[.agg #[.int .i64 a,.int .i64 b,.int .i64 c,.int .i64 m,.slice base n cap]] W fun e w'=>e= .returned (.bool true)/\Ext W w')
 (B5:∀W,Ext w W->Calls prog 22 #[] W fun e w'=>e= .returned (.bool true)/\Ext W w'):
 Calls prog 11 #[.agg #[.int .i64 a,.int .i64 b,.int .i64 c,.int .i64 m,.slice base n cap],.int .i64 k] w fun e w'=>e= .returned (.bool true):=by
 go_enter func11,ntmps11
 go_wp2_with (first
  |(go_at_call 21;refine(I2 _ ((Ext.rfl' w).alloc _)).mono ?_;rintro e w2 ⟨rfl,A5⟩
    have Ag:=((Ext.rfl' w).alloc _).trans A5)
  |(go_at_call 22;refine(B5 _ Ag).mono ?_;rintro e w3 ⟨rfl,Av⟩))
 go_ret;exact rfl
theorem ZhL(a b c m k:Int)(base:Option Addr)(n cap:Nat)(w:World)(A F:List (List Int))(l:List Int)(f g r:Int)(K2:A.length<=1000000)(Hh:F.length<=1000000)(I5:l.length<=1000000)
 (I2:∀W,Ext w W->Calls prog 21 #[.agg #[.int .i64 a,.int .i64 b,.int .i64 c,.int .i64 m,.slice base n cap]] W fun e w'=>e= .returned (.bool false)/\Ext W w')
 (h54:∀W,Ext w W->Calls prog 54 #[.agg #[.int .i64 a,.int .i64 b,.int .i64 c,.int .i64 m,.slice base n cap]] W fun e w'=>∃ao cp,e= .returned (.tuple #[.slice ao A.length cp,.int .i64 f])/\RawL w' ao A/\Ext W w')
 (h55:∀W,Ext w W->Calls prog 55 #[.agg #[.int .i64 a,.int .i64 b,.int .i64 c,.int .i64 m,.slice base n cap]] W fun e w'=>∃ao cp,e= .returned (.tuple #[.slice ao A.length cp,.int .i64 f])/\RawL w' ao A/\Ext W w')
 (h37:∀W,Ext w W->Calls prog 37 #[.agg #[.int .i64 a,.int .i64 b,.int .i64 c,.int .i64 m,.slice base n cap]] W fun e w'=>∃ao cp bl cl,e= .returned (.tuple #[.slice ao F.length cp,.slice bl l.length cl,.int .i64 f])/\RawL w' ao F/\RawI w' bl l/\Ext W w')
 (h57:∀W,Ext w W->Calls prog 57 #[.agg #[.int .i64 a,.int .i64 b,.int .i64 c,.int .i64 m,.slice base n cap]] W fun e w'=>∃ao cp bl cl,e= .returned (.tuple #[.slice ao F.length cp,.slice bl l.length cl,.int .i64 f])/\RawL w' ao F/\RawI w' bl l/\Ext W w')
 (h59:∀W,Ext w W->Calls prog 59 #[.agg #[.int .i64 a,.int .i64 b,.int .i64 c,.int .i64 m,.slice base n cap],.int .i64 k] W fun e w'=>e= .returned (.tuple #[.int .i64 r,.int .i64 g])/\Ext W w')
 (h60:∀W,Ext w W->Calls prog 60 #[.agg #[.int .i64 a,.int .i64 b,.int .i64 c,.int .i64 m,.slice base n cap],.int .i64 k] W fun e w'=>e= .returned (.tuple #[.int .i64 r,.int .i64 g])/\Ext W w')
 (B5:∀W,Ext w W->Calls prog 22 #[] W fun e w'=>e= .returned (.bool true)/\Ext W w'):
 Calls prog 11 #[.agg #[.int .i64 a,.int .i64 b,.int .i64 c,.int .i64 m,.slice base n cap],.int .i64 k] w fun e w'=>e= .returned (.bool true):=by
 have Gf:(w.alloc (.cells #[.int .i64 a,.int .i64 b,.int .i64 c,.int .i64 m,.slice base n cap] 26)).heap[w.heap.size]? =some (.cells #[.int .i64 a,.int .i64 b,.int .i64 c,.int .i64 m,.slice base n cap] 26):=by rw[Z3,if_pos rfl]
 go_enter func11,ntmps11
 go_wp2_with (first
  |(go_at_call 21;refine(I2 _ ((Ext.rfl' w).alloc _)).mono ?_;rintro e w2 ⟨rfl,A5⟩
    have hE:=((Ext.rfl' w).alloc _).trans A5;have hr:=A5.get Gf;obtain⟨q0,q1,q2,q3,q4⟩:=Zh3 hr)
  |(go_at_call 54;refine(h54 _ hE).mono ?_;rintro e w3 ⟨ao1,cp1,rfl,Me,hF⟩
    replace hr:=hF.get hr;replace hE:=hE.trans hF;clear q0 q1 q2 q3 q4 hF;obtain⟨q0,q1,q2,q3,q4⟩:=Zh3 hr)
  |(go_at_call 55;refine(h55 _ hE).mono ?_;rintro e w4 ⟨ao2,cp2,rfl,Sz,hF⟩
    replace hr:=hF.get hr;replace hE:=hE.trans hF;replace Me:=Me.ext hF;clear q0 q1 q2 q3 q4 hF;obtain⟨q0,q1,q2,q3,q4⟩:=Zh3 hr)
  |(go_at_call 56;(with_reducible refine(Z55 ao1 A.length cp1 A ao2 A.length cp2 A _ rfl rfl ⟨K2,K2⟩ Me Sz).mono ?_);rw[decide_eq_true rfl];rintro e w5 ⟨rfl,hF⟩
    replace hr:=hF.get hr;replace hE:=hE.trans hF;clear q0 q1 q2 q3 q4 hF Me Sz;obtain⟨q0,q1,q2,q3,q4⟩:=Zh3 hr)
  |(go_at_call 37;refine(h37 _ hE).mono ?_;rintro e w6 ⟨ao3,cp3,bl3,cl3,rfl,Na,Ko,hF⟩
    replace hr:=hF.get hr;replace hE:=hE.trans hF;clear q0 q1 q2 q3 q4 hF;obtain⟨q0,q1,q2,q3,q4⟩:=Zh3 hr)
  |(go_at_call 57;refine(h57 _ hE).mono ?_;rintro e w7 ⟨ao4,cp4,bl4,cl4,rfl,hF4,Vu,hF⟩
    replace hr:=hF.get hr;replace hE:=hE.trans hF;replace Na:=Na.ext hF;replace Ko:=Ko.ext hF;clear q0 q1 q2 q3 q4 hF;obtain⟨q0,q1,q2,q3,q4⟩:=Zh3 hr)
  |(go_at_call 56;(with_reducible refine(Z55 ao3 F.length cp3 F ao4 F.length cp4 F _ rfl rfl ⟨Hh,Hh⟩ Na hF4).mono ?_);rw[decide_eq_true rfl];rintro e w8 ⟨rfl,hF⟩
    replace hr:=hF.get hr;replace hE:=hE.trans hF;replace Ko:=Ko.ext hF;replace Vu:=Vu.ext hF;clear q0 q1 q2 q3 q4 hF Na hF4;obtain⟨q0,q1,q2,q3,q4⟩:=Zh3 hr)
  |(go_at_call 58;(with_reducible refine(Z1d bl3 l.length cl3 l bl4 l.length cl4 l _ rfl rfl ⟨I5,I5⟩ Ko Vu).mono ?_);rw[decide_eq_true rfl];rintro e w9 ⟨rfl,hF⟩
    replace hr:=hF.get hr;replace hE:=hE.trans hF;clear q0 q1 q2 q3 q4 hF Ko Vu;obtain⟨q0,q1,q2,q3,q4⟩:=Zh3 hr)
  |(go_at_call 59;refine(h59 _ hE).mono ?_;rintro e w10 ⟨rfl,hF⟩
    replace hr:=hF.get hr;replace hE:=hE.trans hF;clear q0 q1 q2 q3 q4 hF;obtain⟨q0,q1,q2,q3,q4⟩:=Zh3 hr)
  |(go_at_call 60;refine(h60 _ hE).mono ?_;rintro e w11 ⟨rfl,hF⟩
    replace hr:=hF.get hr;replace hE:=hE.trans hF;clear q0 q1 q2 q3 q4 hF;obtain⟨q0,q1,q2,q3,q4⟩:=Zh3 hr)
  |(go_at_call 22;refine(B5 _ hE).mono ?_;rintro e w12 ⟨rfl,hF⟩))
 go_ret;exact rfl
theorem Zho(a b c m k:Int)(base:Option Addr)(n cap:Nat)(L:List Sf)(w:World)(A2:L.length=n)(hM:Meas w)(E2:Most w)(hd:Deb w)(hS:RawA w base L):
 Calls prog 11 #[.agg #[.int .i64 a,.int .i64 b,.int .i64 c,.int .i64 m,.slice base n cap],.int .i64 k] w fun e w'=>e= .returned (.bool true):=by
 have B5:∀W,Ext w W->Calls prog 22 #[] W fun e w'=>e= .returned (.bool true)/\Ext W w':=fun W (hW:Ext w W)=>Zce W (hM.ext hW) (E2.ext hW) (hd.ext hW)
 have I2:=fun W (hW:Ext w W)=>ZaR a b c m base n cap L W A2 (hS.ext hW)
 cases hg:Z1B L with
 |true=>
  simp only[hg] at I2;exact ZhD a b c m k base n cap w I2 B5
 |false=>
  simp only[hg] at I2;have hn:n<=20:=by
   rw[<-A2];simp only[Z1B,Bool.or_eq_false_iff,decide_eq_false_iff_not] at hg;omega
  refine ZhL a b c m k base n cap w (ZgA a b c m L) (Z66 a b c m L) (Z6T a b c m L) (Zo a b c m L []) (Zo a b c m L [k]) (Z1Y a b c m L k) (Nat.le_trans ZgY (by omega)) (Nat.le_trans (ZhK a b c m L) (by omega)) (Nat.le_trans (ZhJ a b c m L) (by omega)) I2
   (fun W hW=>Zh2 a b c m base n cap L W A2 hn (hM.ext hW) (hS.ext hW)) (fun W hW=>ZhH a b c m base n cap L W A2 hn (hS.ext hW)) (fun W hW=> ?_) (fun W hW=>ZhI a b c m base n cap L W A2 hn (hS.ext hW))
   (fun W hW=>Z6S a b c m base n cap L k W A2 hn (hM.ext hW) (hS.ext hW)) (fun W hW=>Zhr a b c m base n cap L k W A2 hn (hS.ext hW)) B5
  refine(ZbY a b c m base n cap L W A2 hn (hM.ext hW) (hS.ext hW)).mono ?_;rintro e w2 ⟨v1,v2,rfl,h1,h2,hE⟩
  obtain⟨ao,cp,rfl,hR⟩:=h1.rawL (fun l hl=>by
   have h1:=(ZgD (ZgL hl)).1;by_cases h:Zo a b c m L []=0
   ·have:=Z1n h;omega
   ·rw[Z66,if_neg h] at hl;cases hl)
  obtain⟨bl,cl,rfl,hI,_⟩:=h2.rawI;exact⟨ao,cp,bl,cl,rfl,hR,hI,hE⟩
end Go.Proofs.Tryq
section
set_option maxRecDepth 100000
namespace Go.Proofs.YtedkbdkbbnemlaaGreatDoor
open Go
namespace JarrowSets
theorem k0:Rows.arrowSetsRow.wf (OpenSpec.ofChange Rows.arrowSetsSpec)=true:=by kernel_rfl
theorem k1:laidOutB Tryz.prog=true:=by kernel_rfl
theorem k2:mapsRowed Tryz.prog=true:=by kernel_rfl
theorem k3:Tryz.f11.params.all (Tryz.prog.readableRec ·)=true:=by kernel_rfl
theorem k4:namedTie Tryz.prog Rows.arrowSetsRow.named Rows.arrowSetsSpec.vars=true:=by kernel_rfl
theorem k5:(Rows.arrowSetsRow.stops==[])=true:=by kernel_rfl
theorem k6:(Tryz.prog.stops==[])=true:=by kernel_rfl
theorem k7:(Rows.arrowSetsRow.knobs==[])=true:=by kernel_rfl
theorem k8:(Tryz.prog.stopKnobs==[])=true:=by kernel_rfl
theorem k9:(Rows.arrowSetsRow.inPlace==Tryz.prog.inPlace 11)=true:=by kernel_rfl
theorem k10:(Rows.arrowSetsRow.unfollowed==Tryz.prog.unfollowed 11)=true:=by kernel_rfl
theorem k11:(Rows.arrowSetsRow.recurses==Tryz.prog.recurses 11)=true:=by kernel_rfl
theorem k12:(Rows.arrowSetsRow.named==Tryz.prog.varsNamed 11)=true:=by kernel_rfl
theorem k13:(Rows.arrowSetsRow.maps==(Tryz.f11.params.toList++Rows.arrowSetsSpec.plain.varTypes Tryz.prog).any (Tryz.prog.mapsRec ·))=true:=by kernel_rfl
theorem k14:(Rows.arrowSetsRow.ifaces==(Tryz.f11.params.toList++Rows.arrowSetsSpec.plain.varTypes Tryz.prog).any (Tryz.prog.ifacesRec ·))=true:=by kernel_rfl
theorem k15:(Rows.arrowSetsRow.mapsOut==Tryz.prog.mapsAmong Tryz.f11.resultTypes.toList)=true:=by kernel_rfl
theorem k16:(Rows.arrowSetsRow.loops==(Tryz.f11.params.toList++Rows.arrowSetsSpec.plain.varTypes Tryz.prog).any (Tryz.prog.loopsFrom ·))=true:=by kernel_rfl
theorem k17:(Rows.arrowSetsRow.wideKeys==(Tryz.f11.params.toList++Rows.arrowSetsSpec.plain.varTypes Tryz.prog++Tryz.f11.resultTypes.toList).any (Tryz.prog.wideKeysFrom ·))=true:=by kernel_rfl
theorem k18:Rows.arrowSetsSpec.vars.all (Tryz.prog.varReadable ·)=true:=by kernel_rfl
theorem k19:Tryz.f11.resultTypes.all (fun t=>Tryz.prog.readableRec t&&decide (t<Tryz.prog.types.size))=true:=by kernel_rfl
theorem k20:(Rows.arrowSetsRow.ifacesOut==Tryz.f11.resultTypes.toList.any (Tryz.prog.ifacesRec ·))=true:=by kernel_rfl
theorem k21:(Rows.arrowSetsRow.loopsOut==Tryz.f11.resultTypes.toList.any (Tryz.prog.loopsFrom ·))=true:=by kernel_rfl
theorem k22:(Rows.arrowSetsRow.plainKeys==Tryz.prog.plainKeys)=true:=by kernel_rfl
theorem k23:Rows.arrowSetsRow.shortTexts.isNone=true:=by kernel_rfl
theorem k24:Tryz.prog.stopsHeard=true:=by kernel_rfl
theorem k25:Tryz.prog.mayEnter=true:=by kernel_rfl
theorem k26:(Rows.arrowSetsRow.lifted==Tryz.prog.liftsFinal)=true:=by kernel_rfl
theorem k27:(Tryz.prog.make==some Rows.arrowSetsRow.make)=true:=by kernel_rfl
theorem k28:(Rows.arrowSetsRow.kinds==(if Rows.arrowSetsRow.domain.isEmpty then[] else Tryz.f11.params.toList.map fun t=>match Tryz.prog.underlying t with|some (.int k)=>some k|_=>none))=true:=by kernel_rfl
theorem k29:(Rows.arrowSetsRow.pinned==Rows.arrowSetsRow.pinnedBy)=true:=by kernel_rfl
theorem k30:(Rows.arrowSetsRow.veiled==(Tryz.f11.params.toList++Rows.arrowSetsSpec.plain.varTypes Tryz.prog++Tryz.f11.resultTypes.toList).any (Tryz.prog.veiledRec ·))=true:=by kernel_rfl
theorem k31:Rows.arrowSetsRow.veiledFits Tryz.prog Tryz.f11.params.toList (Tryz.f11.params.toList++Rows.arrowSetsSpec.plain.varTypes Tryz.prog++Tryz.f11.resultTypes.toList)=true:=by kernel_rfl
theorem ZI{a b:Bool}(ha:a=true)(hb:b=true):(a&&b)=true:=by rw[ha,hb];rfl
theorem facts:joinedFacts Tryz.prog 11 Tryz.f11 Rows.arrowSetsSpec Rows.arrowSetsRow=true:=(ZI (ZI (ZI (ZI (ZI (ZI (ZI (ZI (ZI (ZI (ZI (ZI (ZI (ZI (ZI (ZI (ZI (ZI (ZI (ZI (ZI (ZI (ZI (ZI (ZI (ZI (ZI (ZI (ZI (ZI (ZI k0 k1) k2) k3) k4) k5) k6) k7) k8) k9) k10) k11) k12) k13) k14) k15) k16) k17) k18) k19) k20) k21) k22) k23) k24) k25) k26) k27) k28) k29) k30) k31)
end JarrowSets
end Go.Proofs.YtedkbdkbbnemlaaGreatDoor
end
namespace Go.Proofs.Tryq
set_option maxRecDepth 100000
open Go Go.Nk Go.RowKit Go.ChangeShapes Go.WideShapes Go.ChangeAt Go.Conc Go.Deep
attribute [local instance] theBan
section
variable {H:Type} {enc:TypeId×Value->H} {W:World} {b0:Nat}
theorem Zf4{t:TypeId}{k:IntKind}(hu:Tryz.prog.underlying t=some (.int k))(hs:isS Tryz.prog t=false)(ha:isA Tryz.prog t=false)(hl:(Z3e Tryz.prog 0 t 0).any (fun y=>y.1==0&&y.2==t)=true)(El:Tryz.prog.cellsOf t=1){v:Value}{d:DataW H}{p:List MemPlace}(hv:Value.okWide Tryz.prog W .any b0 t v)(h:DataW.Trod enc Tryz.prog W 0 (fun _=>true) true t v d p):
 ∃n:Int,v= .int k n/\(Lit.int k n).wf=true/\VRel id (Nk.Live (Zx W)) v v:=by
 have hc:=Zei hv hs ha;obtain⟨fuel,hf⟩:=h;have e:v.cells.toList=[v]:=by
  cases v<;>first|rfl|skip
  rename_i cs;simp[Cell.okWide,Cell.ok,hu] at hc
 rw[e] at hf;have Ah:[v].length<=Tryz.prog.cellsOf t:=by rw[El];exact Nat.le_refl _
 obtain⟨x1,e1,hw⟩:=Z0z (n:=0) (o:=0) (u:=t) Ah ⟨_,_,hf⟩ hl hu;obtain rfl:v= .int k x1:=by simpa using e1
 exact⟨x1,rfl,hw,.int _ _⟩
theorem ZhO{v:Value}{d:DataW H}{p:List MemPlace}(hv:Value.okWide Tryz.prog W .any b0 3 v)(h:DataW.Trod enc Tryz.prog W 0 (fun _=>true) true 3 v d p):∃n:Int,v= .int .i64 n/\(Lit.int .i64 n).wf=true/\VRel id (Nk.Live (Zx W)) v v:=
 Zf4 under3 (by kernel_rfl) (by kernel_rfl) (by kernel_rfl) (by kernel_rfl) hv h
end
end Go.Proofs.Tryq
namespace Go.Proofs.YtedkbdkbbnemlaaGreatDoor
set_option maxRecDepth 100000
open Go Go.Nk Go.RowKit Go.ChangeShapes Go.WideShapes Go.ChangeAt Go.Conc
open Go.Proofs.Tryq
attribute [local instance] theBan
theorem Zhb(os:Os)(started:os.Started)(H:Type)(enc:TypeId×Value->H):
 ReturnsInLeavingWide {} Tryz.checked os 11 .any (fun w args=>(Rows.arrowSetsSpec.pre enc Tryz.prog Tryz.f11 [] false w args/\laidMetH Tryz.prog laidL w)/\sizedMet enc Tryz.prog Tryz.f11 (OpenSpec.ofChange Rows.arrowSetsSpec) false w args)
  (Rows.arrowSetsSpec.post enc Tryz.prog Tryz.f11 false true false false):=by
 refine Z4e (n:=2) (ts:=[26,3]) started (by simp[keptList]) Tryz.func11 same11 (by kernel_rfl) Tryz.results11 (by kernel_rfl) (by rw[Tryz.params11]) rfl rfl (by kernel_rfl) (fun ds hd=>by
  match ds,hd with
  |[_,_],_=>rfl) (by kernel_rfl)
  (ChangeSpec.witness_shaped (enc:=enc) (C:=Tryz.checked) (os:=os) (X:=fun w _=>laidMetH Tryz.prog laidL w) false (World.doorLaid Tryz.prog 400 os) #[.agg #[.int .i64 0,.int .i64 0,.int .i64 0,.int .i64 0,.slice none 0 0],.int .i64 0] 8 rfl (Z3F os _) (by kernel_rfl) (by kernel_rfl) (by kernel_rfl) (Z7C os _)) ?_
 intro W base args ds p Gj hA hM E2 hd;rw[Tryz.params11] at Gj;obtain⟨v0,v1,dx0,dx1,px0,px1,rfl,rfl,rfl,h0,h1⟩:=trodAll_two hA;obtain⟨a0,b0,c0,d0,ab0,n0,k0,S0,rfl,hL0,Ud,D3,Gf,Fo,Mx⟩:=Z4c (Gj 0 26 v0 rfl rfl) h0;obtain⟨u1,rfl,O0,E6⟩:=ZhO (Gj 1 3 v1 rfl rfl) h1;refine⟨(AR.nil.push Gf).push E6,fun t=> ?_⟩;exact Zho a0 b0 c0 d0 u1 ab0 n0 k0 S0 (retape t (Zx W)) hL0 hM (Za7 t E2) hd (Za8 t (Z5T Fo))
theorem arrowSets_row:Rows.ArrowSetsSaid:=
 OpenClaim.holds_of_wide_leaving 11 Tryz.f11 rfl rfl rfl rfl rfl rfl rfl ⟨rfl,rfl,rfl,rfl,rfl⟩ rfl rfl rfl rfl rfl (by kernel_rfl) Tryz.func11 JarrowSets.facts
  (of_decide_eq_true (by kernel_rfl)) (by unfold Func.isWrapper;first|(rw[if_pos (by decide+kernel)];kernel_rfl)|(rw[if_neg (by decide+kernel)];exact⟨rfl,rfl⟩))
  (fun os started H enc _=>Zhb os started H enc)
theorem arrowSets_card:Rows.ArrowSetsCardSaid:=
 Zac .later [.data,.data,.data,.funcs] true (true,"0e1059176c690520e63ed0d32383d6ff1680ebd08dcb3a61820afc84c46f7b58") false
  arrowSets_row (by kernel_rfl) arrowSets_row_tie rfl ⟨rfl,rfl⟩ (by kernel_rfl) rfl
  (fun f fn hf hfn=>by
    obtain rfl:f=11:=Option.some.inj ((show Tryz.prog.funcNamed "nock/nocklaw01.ArrowSets" =some 11 by kernel_rfl).symm.trans hf) |>.symm
    obtain rfl:fn=Tryz.f11:=(Option.some.inj (Tryz.func11.symm.trans hfn)).symm
    exact⟨by kernel_rfl,fun j t ht=>by
     rw[Tryz.params11] at ht;have hm:t∈[26,3]:=(by simpa using Array.mem_of_getElem? ht);have Aj:([26,3].all fun u=> !Tryz.prog.wantsStandIn u)=true:=(by kernel_rfl);exact(show Tryz.prog.wantsStandIn t=false by simpa using List.all_eq_true.1 Aj t hm)⟩)
  (by kernel_rfl)
end Go.Proofs.YtedkbdkbbnemlaaGreatDoor
