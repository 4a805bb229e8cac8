import Derived.Test.YtedkbdkbbnemlaaGreatDoorNkA
import Derived.Test.YtedkbdkbbnemlaaGreatDoorNk22
import Derived.Laws.NewBlocks
set_option linter.all false
namespace Go.Proofs.Tryq
set_option maxRecDepth 100000
set_option maxHeartbeats 8000000
open Go Go.Nk Go.RowKit
structure Ctb(a b c m:Int)(base:Option Addr)(n cap:Nat)(T:List (List Int))(B sb nb yb fb kb yk:Nat)(W:World):Prop where
 hs:W.heap[sb]? =some (.cells #[.int .i64 a,.int .i64 b,.int .i64 c,.int .i64 m,.slice base n cap] 120)
 hnb:W.heap[nb]? =some (.cells #[.map (some kb)] 183)
 hyb:W.heap[yb]? =some (.cells #[.map (some yk)] 182)
 hfn:W.heap[fb]? =some (.cells #[.func (.func 145) #[] #[.pointer (some ⟨sb,0,none⟩),.pointer (some ⟨nb,0,none⟩),.pointer (some ⟨yb,0,none⟩),.pointer (some ⟨fb,0,none⟩)]] 184)
 rows:∃G,MapAt prog 3 W yk G/\∀i:Nat,i<n->Shr B W ((G (.int .i64 i)).getD (.slice none 0 0)) (byL T i)
 ne:sb≠kb/\nb≠kb/\yb≠kb/\fb≠kb/\yk≠kb
 sz:B<=W.heap.size
theorem Ctb.step{a b c m:Int}{base:Option Addr}{n cap:Nat}{T:List (List Int)}{B sb nb yb fb kb yk:Nat}{W W':World}(h:Ctb a b c m base n cap T B sb nb yb fb kb yk W)(hX:Map1 kb W W'){es:Array MapEntry}{ck:Nat}(hk:W.heap[kb]? =some (.map es ck)):Ctb a b c m base n cap T B sb nb yb fb kb yk W':=by
 obtain⟨G,hG,hr⟩:=h.rows
 exact⟨(hX.block _ (Z5 h.hs) h.ne.1).trans h.hs,(hX.block _ (Z5 h.hnb) h.ne.2.1).trans h.hnb,(hX.block _ (Z5 h.hyb) h.ne.2.2.1).trans h.hyb,(hX.block _ (Z5 h.hfn) h.ne.2.2.2.1).trans h.hfn,
  ⟨G,hG.keep (hX.block _ hG.lt h.ne.2.2.2.2),fun i hi=>(hr i hi).map1 hX hk⟩,h.ne,Nat.le_trans h.sz hX.size⟩
theorem Z2B{kb:Nat}(w:World)(o:Obj):Map1 kb w (Go.ChangeMaps.setBlock w kb o):=
 ⟨rfl,rfl,rfl,by rw[Z2s];exact Nat.le_refl _,fun k _ hn=>Z0O hn o⟩
open Classical in
theorem Known.update{T:List (List Int)}{n B kb:Nat}{w:World}{G:Value->Option Value}(hT:Z62 T)(K5:∀l∈T,(∀p∈l,0<=p/\p<(n:Int))/\l.length<=9)(hn:n<=9)(h:Known T n B kb w G)(key:Nat->Bool)(V:Value)(hV:Shr B w V (Zk T n 0 key)):
 ∃o G',(Instr.mapUpdate 183 (.map (some kb)) (.agg (Zs key)) V).run prog w= .ok () (Go.ChangeMaps.setBlock w kb o)/\Known T n B kb (Go.ChangeMaps.setBlock w kb o) G':=by
 obtain⟨kl,F0⟩:=Z4k key;obtain⟨es,ck,Fl⟩:=h.isMap;obtain⟨o,h1,h2⟩:=h.map.update K138 u183 F0 V;refine⟨o,_,h1,h2,fun key' v hv=> ?_⟩;split at hv
 ·rename_i he;cases hv;have hk:Zs key'=Zs key:=by simpa using he
  rw[Z1W (N:=n) hT (fun l hl p hp=>((K5 l hl).1 p hp).2) n 0 key' key (fun j _ hj=>ZbV hk j (by omega))];exact hV.map1 (Z2B w o) Fl
 ·exact(h.val key' v hv).map1 (Z2B w o) Fl
theorem Z3N{B:Nat}{w:World}:∀{vs:List Value}{ls:List (List Int)},Each (fun u s=>OwnI B w u s) vs ls->∀u∈vs,u.oneCell'=true
 |[],_,_,u,hu=>by cases hu
 |v::vs,[],h,u,hu=>h.elim
 |v::vs,l::ls,⟨h1,h2⟩,u,hu=>by
  rcases List.mem_cons.1 hu with rfl|hu
  ·rcases h1.2 with⟨rfl,_⟩|⟨g,cp,_,rfl,_⟩<;>rfl
  ·exact Z3N h2 u hu
theorem Z2C(T:List (List Int)):∀(d i:Nat)(u:Nat->Bool),(Zk T d i u).length<=d
 |0,_,_=>by simp[Zk]
 |d+1,i,u=>by
  have hb:∀a b:List (List Int),a.length<=d+1->b.length<=d+1->(Z0q a b).length<=d+1:=fun a b h h'=>by unfold Z0q;split<;>assumption
  have hf:∀(B m:List (List Int)),m.length<=d+1->(B.foldl (ZL u (Zk T d (i+1))) m).length<=d+1:=by
   intro B
   induction B with
   |nil=>exact fun m h=>h
   |cons l B ih=>
    intro m h;rw[List.foldl_cons];refine ih _ ?_;unfold ZL;split
    ·exact h
    ·exact hb _ _ h (by rw[YP];have:=Z2C T d (i+1) (by assumption);omega)
  rw[Zk];exact hb _ _ (hf _ _ (by simp)) (by have:=Z2C T d (i+1) u;omega)
theorem Z8B(a b c m:Int)(base:Option Addr)(n cap:Nat)(T:List (List Int))(B sb nb yb fb kb yk:Nat)(hn:n<=9)(hT:Z62 T)(Xx:T.length<=1000000)(K5:∀l∈T,(∀p∈l,0<=p/\p<n)/\l.length<=9):
 ∀(d i0:Nat)(used:Nat->Bool)(W:World)(G:Value->Option Value),i0+d=n->Ctb a b c m base n cap T B sb nb yb fb kb yk W->Known T n B kb W G->
 Calls prog 145 #[.int .i64 i0,.agg (Zs used),.pointer (some ⟨sb,0,none⟩),.pointer (some ⟨nb,0,none⟩),.pointer (some ⟨yb,0,none⟩),.pointer (some ⟨fb,0,none⟩)] W fun e W'=>∃v G',e= .returned v/\Shr B W' v (Zk T d i0 used)/\Known T n B kb W' G'/\Map1 kb W W':=by
 intro d
 induction d with
 |zero=>
  intro i0 used W G hd hC hK;have hi:i0=n:=by omega
  subst hi;have s4:=Z0 hC.hs 4;simp only[YC,YA,YB] at s4;have A4:=Z5 hC.hs;generalize Di:Zs used=no;have Xv:no.size=9:=by rw[<-Di];rfl
  go_enter func145,ntmps145;go_wp2;refine wp_scope_straight ?_;go_wp2;rw[Exit.noGoto_ret];refine bodyPost_ret (results_tmp rfl _ _ _) rfl ?_;exact⟨_,G,rfl,Shr.nil _ _,hK.ext ((Ext.rfl' W).alloc _),Map1.of_ext ((Ext.rfl' W).alloc _)⟩
 |succ d ih=>
  intro i0 used W G hd hC hK;have s4:=Z0 hC.hs 4;simp only[YC,YA,YB] at s4;have A4:=Z5 hC.hs;have Aw:((i0:Int)==(n:Int))=false:=by simp;omega
  simp only[Zs];go_enter func145,ntmps145;go_wp2;refine wp_scope_straight ?_;go_wp2;have Bi:Ext W ((W.alloc (.cells (Zs used) 138)).alloc (.cells (Zs used) 138)):=((Ext.rfl' W).alloc _).alloc _;have Cl:((W.alloc (.cells (Zs used) 138)).alloc (.cells (Zs used) 138)).heap[W.heap.size]? =some (.cells (Zs used) 138):=by simp only[Z3,Z2];rw[if_neg (by omega),if_pos trivial]
  have R6:((W.alloc (.cells (Zs used) 138)).alloc (.cells (Zs used) 138)).heap[W.heap.size+1]? =some (.cells (Zs (Z51 0 used)) 138):=by
   simp only[Z3,Z2];rw[if_pos trivial];rw[Z1o (out:=Z51 0 used) (out':=used) (fun j _=>by simp[Z51])]
  simp only[Zs] at Bi Cl R6;generalize (W.alloc _).alloc _=W1 at Bi Cl R6⊢;have hi9:i0<9:=by omega
  go_loopw [10,27] (fun _ v27 wr=>∃i:Nat,i<=i0/\v27= .int .i64 i/\Ext W wr/\wr.heap[W.heap.size]? =some (.cells (Zs used) 138)/\wr.heap[W.heap.size+1]? =some (.cells (Zs (Z51 i used)) 138)) (fun _ v27 _=>i0 - (intOf v27).toNat)
  case atStart=>exact⟨0,Nat.zero_le _,rfl,Bi,Cl,R6⟩
  case round=>
   obtain⟨i,hi,rfl,hE,h0,h1⟩:=hrel;clear Bi Cl R6;by_cases hii:i=i0
   ·subst hii;have Sq:=hK.ext hE;obtain⟨kl,F0⟩:=Z4k (Z51 i used);have Fc:=Sq.map.lookup K138 u183 (Zap wr) F0 true;have Ex:Zk T (d+1) i used=Zk T n 0 (Z51 i used):=(by rw[Zao (N:=n) hT (fun l hl p hp=>((K5 l hl).1 p hp).2),hd]);have Q5:=(Map1.of_ext (kb:=kb) hE).block nb (Z5 hC.hnb) hC.ne.2.1;have n0:=Z0 (Q5.trans hC.hnb) 0;simp only[YC,YA] at n0;have y0:=Z0 h1 0;have y1:=Z0 h1 1;have y2:=Z0 h1 2;have y3:=Z0 h1 3;have y4:=Z0 h1 4;have y5:=Z0 h1 5;have y6:=Z0 h1 6;have y7:=Z0 h1 7;have y8:=Z0 h1 8;simp only[Zs,YC,YA,YB] at y0 y1 y2 y3 y4 y5 y6 y7 y8 Fc;cases hG:G (.agg (Zs (Z51 i used))) with
    |some v=>
     have hv:=Sq.val _ v hG;simp only[Zs] at hG;rw[hG] at Fc;simp only[if_true,Option.getD_some,Option.isSome_some] at Fc;go_wp2;rw[Exit.noGoto_ret];refine bodyPost_ret (results_tmp rfl _ _ _) rfl ?_;exact⟨v,G,rfl,by rw[Ex];exact hv,Sq,Map1.of_ext hE⟩
    |none=>
     have hGn:G (.agg (Zs (Z51 i used)))=none:=hG;simp only[Zs] at hG;rw[hG] at Fc;simp only[if_true,Option.getD_none,Option.isSome_none] at Fc;obtain⟨es,ck,Fl⟩:=hK.isMap;have Gj:=hC.step (Map1.of_ext hE) Fl;obtain⟨Gy,hGy,Bp⟩:=Gj.rows;obtain⟨kl3,Xy⟩:=Z3M i (by omega);have Xz:=hGy.lookup K3 u182 (Zap wr) Xy false;have An:=Bp i (by omega);simp only[if_neg (show¬(false=true) by decide)] at Xz;generalize (Gy (.int .i64 i)).getD (.slice none 0 0)=rv at Xz An;obtain⟨ao,cp,rfl⟩:=An.form;have x0:=Z0 Gj.hyb 0;simp only[YC,YA] at x0;clear hGy Bp;go_wp2;refine wp_label ?_;go_wp2;have hmax:(byL T i).length<=1000000:=Nat.le_trans (List.length_filter_le _ _) Xx;obtain⟨wo,rfl⟩:∃wo:World,wo=wr:=⟨_,rfl⟩;clear y0 y1 y2 y3 y4 y5 y6 y7 y8 Fc Xz n0 x0;go_loopw [13,45] (fun v13 v45 w2=>∃(j:Nat)(G':Value->Option Value),j<=(byL T i).length/\v45= .int .i64 j/\Shr B w2 v13 (((byL T i).take j).foldl (ZL used (Zk T d (i+1))) [])/\Known T n B kb w2 G'/\Map1 kb wo w2) (fun _ v45 _=>(byL T i).length - (intOf v45).toNat)
     case atStart=>exact⟨0,G,Nat.zero_le _,rfl,Shr.nil _ _,Sq,Map1.refl _ _⟩
     case round=>
      obtain⟨j,G',hj,rfl,I6,Q6,Ct⟩:=hrel;obtain⟨es2,ck2,Of⟩:=Sq.isMap;have F0:=hK.map.lt;have Sr:=Gj.step Ct Of;have z0:=Z0 Sr.hfn 0;simp only[YC,YA] at z0;have Pt:=Z5 h0;have h7:wr.heap[W.heap.size]? =some (.cells (Zs used) 138):=(Ct.block _ Pt (by omega)).trans h0;have y0:=Z0 h7 0;have y1:=Z0 h7 1;have y2:=Z0 h7 2;have y3:=Z0 h7 3;have y4:=Z0 h7 4;have y5:=Z0 h7 5;have y6:=Z0 h7 6;have y7:=Z0 h7 7;have y8:=Z0 h7 8;simp only[Zs,YC,YA,YB] at y0 y1 y2 y3 y4 y5 y6 y7 y8;obtain⟨a13,c13,rfl⟩:=I6.form;by_cases Io:j=(byL T i).length
      ·have Og:Shr B wr (.slice a13 ((byL T i).foldl (ZL used (Zk T d (i+1))) []).length c13) ((byL T i).foldl (ZL used (Zk T d (i+1))) []):=(by rw[Io,List.take_length] at I6;exact I6);have B6:=ih (i+1) used wr G' (by omega) Sr Q6;have F8:Zk T (d+1) i used=Z0q ((byL T i).foldl (ZL used (Zk T d (i+1))) []) (Zk T d (i+1) used):=rfl;rw[show((i+1:Nat):Int)=(i:Int)+1 from rfl] at B6;simp only[Zs] at B6;subst Io;rw[List.take_length];clear I6;generalize (byL T i).foldl (ZL used (Zk T d (i+1))) []=M at Og F8⊢;generalize Zk T d (i+1) used=M2 at B6 F8;by_cases C0:M.length<M2.length
       ·have Dx:=fun a3 c3 w=>Z1V a13 M.length c13 a3 M2.length c3 w
        simp only[if_pos C0] at Dx
        go_wp2_with (first
         |(go_at_call 145;refine B6.mono ?_;rintro e w3 ⟨v3,G3,rfl,Oh,Ss,Ky⟩
           obtain⟨a3,c3,rfl⟩:=Oh.form;obtain⟨es3,ck3,Ja⟩:=Q6.isMap;have Q3:=Sr.step Ky Ja;have Su:=Og.map1 Ky Ja;have n3:=Z0 Q3.hnb 0;have F3:w3.heap[W.heap.size+1]? =some (.cells (Zs (Z51 i used)) 138):=(Ky.block _ (by have:=Ct.size;have:=Z5 h1;omega) (by omega)).trans ((Ct.block _ (Z5 h1) (by omega)).trans h1);have y0:=Z0 F3 0;have y1:=Z0 F3 1;have y2:=Z0 F3 2;have y3:=Z0 F3 3;have y4:=Z0 F3 4;have y5:=Z0 F3 5;have y6:=Z0 F3 6;have y7:=Z0 F3 7;have y8:=Z0 F3 8;simp only[Zs,YC,YA,YB] at y0 y1 y2 y3 y4 y5 y6 y7 y8 n3;obtain⟨o,G4,En,Y0⟩:=Ss.update hT K5 hn (Z51 i used) (.slice a3 M2.length c3) (by rw[<-Ex,F8];simp only[Z0q,if_pos C0];assumption);have Sv:=Z2B (kb:=kb) w3 o;simp only[Zs] at En)
         |(go_at_call 146;refine(Dx _ _ _).mono ?_;rintro e w4 ⟨rfl,Me⟩;subst Me))
        obtain⟨es4,ck4,Oi⟩:=Ss.isMap;rw[Exit.noGoto_ret];refine bodyPost_ret (results_tmp rfl _ _ _) rfl ?_;exact⟨_,G4,rfl,by rw[F8];simp only[Z0q,if_pos C0];exact Oh.map1 Sv Oi,Y0,((Map1.of_ext hE).trans Ct).trans (Ky.trans Sv)⟩
       ·have Dx:=fun a3 c3 w=>Z1V a13 M.length c13 a3 M2.length c3 w
        simp only[if_neg C0] at Dx
        go_wp2_with (first
         |(go_at_call 145;refine B6.mono ?_;rintro e w3 ⟨v3,G3,rfl,Oh,Ss,Ky⟩
           obtain⟨a3,c3,rfl⟩:=Oh.form;obtain⟨es3,ck3,Ja⟩:=Q6.isMap;have Q3:=Sr.step Ky Ja;have Su:=Og.map1 Ky Ja;have n3:=Z0 Q3.hnb 0;have F3:w3.heap[W.heap.size+1]? =some (.cells (Zs (Z51 i used)) 138):=(Ky.block _ (by have:=Ct.size;have:=Z5 h1;omega) (by omega)).trans ((Ct.block _ (Z5 h1) (by omega)).trans h1);have y0:=Z0 F3 0;have y1:=Z0 F3 1;have y2:=Z0 F3 2;have y3:=Z0 F3 3;have y4:=Z0 F3 4;have y5:=Z0 F3 5;have y6:=Z0 F3 6;have y7:=Z0 F3 7;have y8:=Z0 F3 8;simp only[Zs,YC,YA,YB] at y0 y1 y2 y3 y4 y5 y6 y7 y8 n3;obtain⟨o,G4,En,Y0⟩:=Ss.update hT K5 hn (Z51 i used) (.slice a13 M.length c13) (by rw[<-Ex,F8];simp only[Z0q,if_neg C0];assumption);have Sv:=Z2B (kb:=kb) w3 o;simp only[Zs] at En)
         |(go_at_call 146;refine(Dx _ _ _).mono ?_;rintro e w4 ⟨rfl,Me⟩;subst Me))
        obtain⟨es4,ck4,Oi⟩:=Ss.isMap;rw[Exit.noGoto_ret];refine bodyPost_ret (results_tmp rfl _ _ _) rfl ?_;exact⟨_,G4,rfl,by rw[F8];simp only[Z0q,if_neg C0];exact Su.map1 Sv Oi,Y0,((Map1.of_ext hE).trans Ct).trans (Ky.trans Sv)⟩
      ·have Cp:j<(byL T i).length:=(by omega);obtain⟨_,vs,hvr,I7⟩:=An.map1 Ct Of;obtain⟨l,hl⟩:∃l,(byL T i)[j]? =some l:=⟨_,YH Cp⟩;obtain⟨u,hu,Er⟩:=I7.get j l hl;have Q1:=YQ hl;obtain⟨Fa,tl,Sw⟩:=Z6Q hT Q1;have hlT:=K5 l (List.mem_filter.1 Q1).1;obtain⟨gr,cr,Sy,Sz,Kz⟩:=hvr.form (by rw[I7.length];omega);obtain⟨rfl,La,rfl⟩:ao=some ⟨gr,0,none⟩/\(byL T i).length=vs.length/\cp=cr:=(by simpa using Sy);have Lb:=hvr.cells (g:=gr) rfl j u hu;rw[Z0c] at Lb;obtain⟨gl,cl,rfl,T0,Jb⟩:=Er.form (by rw[Sw];simp);have Vd:((byL T i).take (j+1)).foldl (ZL used (Zk T d (i+1))) []=ZL used (Zk T d (i+1)) (((byL T i).take j).foldl (ZL used (Zk T d (i+1))) []) l:=(by rw[Z0G hl,List.foldl_append];rfl);clear Sw;have hj0:(0:Int)<=(j:Int):=(by omega);have hjL:(j:Int)<((byL T i).length:Int):=(by omega);go_wp2;have B4:Ext wr (wr.alloc (.cells (Zs used) 138)):=(Ext.rfl' wr).alloc _;have h5:(wr.alloc (.cells (Zs used) 138)).heap[wr.heap.size]? =some (.cells (Zs used) 138):=(by rw[Z3,if_pos rfl]);simp only[Zs] at B4;have h5':(wr.alloc (.cells #[.bool (used 0),.bool (used 1),.bool (used 2),.bool (used 3),.bool (used 4),.bool (used 5),.bool (used 6),.bool (used 7),.bool (used 8)] 138)).heap[wr.heap.size]? =some (.cells (Zs used) 138):=h5
       clear h5 y0 y1 y2 y3 y4 y5 y6 y7 y8;generalize wr.alloc _=w6 at B4 h5'⊢;obtain⟨wq,rfl⟩:∃wq:World,wq=wr:=⟨_,rfl⟩;go_loopw [52] (fun v52 w3=>∃(k:Nat)(u':Nat->Bool),k<=l.length/\v52= .int .i64 k/\Ext wq w3/\w3.heap[wq.heap.size]? =some (.cells (Zs u') 138)/\Hid (take1 used l=take1 u' (l.drop k))) (fun v52 _=>l.length - (intOf v52).toNat)
       case atStart=>exact⟨0,used,Nat.zero_le _,rfl,B4,h5',rfl⟩
       case round=>
        obtain⟨k,u',hk,rfl,Ce,h6,Oj⟩:=hrel;by_cases Y1:k=l.length
        ·subst Y1;have T1:take1 used l=some u':=(by rw[Oj.out,List.drop_length];rfl);have Q7:=Sr.step (Map1.of_ext Ce) (Q6.isMap).choose_spec.choose_spec;have Q8:=Q6.ext Ce;have z6:=Z0 Q7.hfn 0;simp only[YC,YA] at z6;have y0:=Z0 h6 0;have y1:=Z0 h6 1;have y2:=Z0 h6 2;have y3:=Z0 h6 3;have y4:=Z0 h6 4;have y5:=Z0 h6 5;have y6:=Z0 h6 6;have y7:=Z0 h6 7;have y8:=Z0 h6 8;simp only[Zs,YC,YA,YB] at y0 y1 y2 y3 y4 y5 y6 y7 y8;have ho6:=Er.ext Ce;have T2:=I6.ext Ce;have hfbl:fb<wr.heap.size:=Z5 Q7.hfn;have hwql:wq.heap.size<wr.heap.size:=Z5 h6;have Lc:ZL used (Zk T d (i+1)) (((byL T i).take j).foldl (ZL used (Zk T d (i+1))) []) l=Z0q (((byL T i).take j).foldl (ZL used (Zk T d (i+1))) []) (l::Zk T d (i+1) u'):=(by simp only[ZL,T1]);have T3:∀W8,Ext wr W8->_:=fun W8 K6=>ih (i+1) u' W8 G' (by omega) (Q7.step (Map1.of_ext K6) (Q8.isMap).choose_spec.choose_spec) (Q8.ext K6)
         have Mf:=Z6s wr B 27 #[.slice (some ⟨gl,0,none⟩) l.length cl] 1 wr.heap.size rfl Q7.sz rfl (by simp[maxLen]);rw[show((i+1:Nat):Int)=(i:Int)+1 from rfl] at T3;simp only[Zs] at T3;generalize ((byL T i).take j).foldl (ZL used (Zk T d (i+1))) []=Mp at T2 Lc Vd⊢;have Gl:(Zk T d (i+1) u').length<=1000000:=Nat.le_trans (Z2C T d (i+1) u') (by omega);generalize Zk T d (i+1) u'=M9 at T3 Lc Gl;by_cases C0:Mp.length<M9.length+1
         ·have Dx:=fun a3 c3 w=>Z1V a13 Mp.length c13 a3 (M9.length+1) c3 w
          simp only[if_pos C0] at Dx
          go_wp2_with (first
           |(go_at_call 145;refine(T3 _ (by(repeat (with_reducible first|assumption|exact Ext.rfl' _|apply Ext.alloc|apply Ext.drew)))).mono ?_;rintro e w9 ⟨v9,G9,rfl,T4,Y3,Ol⟩
             obtain⟨a9,c9,rfl⟩:=T4.form;obtain⟨Jc,vs9,Om,Q9⟩:=T4;have K7:=Q9.length;have Jd:=Z2R (Mf:(wr.alloc (.cells #[.slice (some ⟨gl,0,none⟩) l.length cl] 27)).ownsRow B 27 1 _ 1 _) Ol (Q8.ext ((Ext.rfl' wr).alloc (.cells #[.slice (some ⟨gl,0,none⟩) l.length cl] 27))).isMap.choose_spec.choose_spec)
           |(at_builtin
             refine Z1p rfl _ _ rfl B wr.heap.size _ rfl Jd (.slice a9 M9.length c9) M9.length vs9 rfl (by rw[<-K7];exact K7▸Om) (fun h=>Jc (List.eq_nil_of_length_eq_zero h)) (Z3N Q9) Gl (Nat.le_trans Q7.sz (Nat.le_trans (by simp) Ol.size)) ?_;intro g' cap' w10 h10 Eb)
           |(go_at_call 146;refine(Dx _ _ _).mono ?_;rintro e w4 ⟨rfl,Me⟩;subst Me))
          have Je:Map1 kb wr w4:=((Map1.of_ext ((Ext.rfl' wr).alloc (.cells #[.slice (some ⟨gl,0,none⟩) l.length cl] 27))).trans Ol).trans (Map1.of_ext Eb);have Kl:=Q8.isMap.choose_spec.choose_spec;rw[La];refine⟨⟨_,_,_,_,_,_,_,_,_,_,_,_,_,_,_,_,_,_,_,_,_,_,_,_,_,_,_,_,_,_,_,_,⟨j+1,G9,by omega,by push_cast;rfl,?_,Y3.ext Eb,(Ct.trans (Map1.of_ext Ce)).trans Je⟩,rfl⟩,by simp[intOf];omega⟩;rw[Vd,Lc,Z0q,if_pos (by simpa using C0)];exact⟨fun h=>(by cases h),_::vs9,by rw[YP,K7];exact h10,Z2R ho6 Je Kl,Q9.mono fun u s h=>Z00 h Eb⟩
         ·have Dx:=fun a3 c3 w=>Z1V a13 Mp.length c13 a3 (M9.length+1) c3 w
          simp only[if_neg C0] at Dx
          go_wp2_with (first
           |(go_at_call 145;refine(T3 _ (by(repeat (with_reducible first|assumption|exact Ext.rfl' _|apply Ext.alloc|apply Ext.drew)))).mono ?_;rintro e w9 ⟨v9,G9,rfl,T4,Y3,Ol⟩
             obtain⟨a9,c9,rfl⟩:=T4.form;obtain⟨Jc,vs9,Om,Q9⟩:=T4;have K7:=Q9.length;have Jd:=Z2R (Mf:(wr.alloc (.cells #[.slice (some ⟨gl,0,none⟩) l.length cl] 27)).ownsRow B 27 1 _ 1 _) Ol (Q8.ext ((Ext.rfl' wr).alloc (.cells #[.slice (some ⟨gl,0,none⟩) l.length cl] 27))).isMap.choose_spec.choose_spec)
           |(at_builtin
             refine Z1p rfl _ _ rfl B wr.heap.size _ rfl Jd (.slice a9 M9.length c9) M9.length vs9 rfl (by rw[<-K7];exact K7▸Om) (fun h=>Jc (List.eq_nil_of_length_eq_zero h)) (Z3N Q9) Gl (Nat.le_trans Q7.sz (Nat.le_trans (by simp) Ol.size)) ?_;intro g' cap' w10 h10 Eb)
           |(go_at_call 146;refine(Dx _ _ _).mono ?_;rintro e w4 ⟨rfl,Me⟩;subst Me))
          have Je:Map1 kb wr w4:=((Map1.of_ext ((Ext.rfl' wr).alloc (.cells #[.slice (some ⟨gl,0,none⟩) l.length cl] 27))).trans Ol).trans (Map1.of_ext Eb);have Kl:=Q8.isMap.choose_spec.choose_spec;rw[La];refine⟨⟨_,_,_,_,_,_,_,_,_,_,_,_,_,_,_,_,_,_,_,_,_,_,_,_,_,_,_,_,_,_,_,_,⟨j+1,G9,by omega,by push_cast;rfl,?_,Y3.ext Eb,(Ct.trans (Map1.of_ext Ce)).trans Je⟩,rfl⟩,by simp[intOf];omega⟩;rw[Vd,Lc,Z0q,if_neg (by simpa using C0)];exact T2.map1 Je Kl
        ·obtain⟨p,hp⟩:∃p,l[k]? =some p:=⟨_,YH (by omega)⟩;have O8:=hlT.1 p (YQ hp);obtain⟨q,rfl⟩:=Int.eq_ofNat_of_zero_le O8.1;have Mg:q<9:=(by omega);have Kx:=Er.cells (g:=gl) rfl k (.int .i64 q) (by rw[List.getElem?_map,hp];rfl);rw[Z0c] at Kx;replace Kx:=Ce.cellS Kx;have Qa:=Z0 h6 q;rw[Z1u _ q Mg] at Qa;have hfq:=Z8 h6 q;have Y4:(0:Int)<=(k:Int):=(by omega);have hkL:(k:Int)<(l.length:Int):=(by omega);have R9:(0:Int)<=(q:Int):=(by omega);have Y5:(q:Int)<9:=(by omega);have Ij:=Z0b hp;by_cases Ve:u' q=true
         ·rw[Ve] at Qa;have T5:take1 used l=none:=(by rw[Oj.out,Ij,take1,if_pos (by simpa using Ve)]);go_wp2;refine⟨⟨j+1,G',by omega,by push_cast;rfl,?_,Q6.ext Ce,Ct.trans (Map1.of_ext Ce)⟩,by simp[intOf];omega⟩;rw[Vd];simp only[ZL,T5];exact I6.ext Ce
         ·have Y6:u' q=false:=(by simpa using Ve);rw[Y6] at Qa;have Y7:Hid (take1 used l=take1 (fun j=>u' j||j==q) (l.drop (k+1))):=by
           show _=_;rw[Oj.out,Ij,take1,if_neg (by simpa using Ve)];simp
          go_wp2;exact⟨⟨k+1,_,by omega,by push_cast;rfl,Ce.setCell _ _ (Nat.le_refl _),by rw[Zb h6,Z52 _ q Mg],Y7⟩,by simp[intOf];omega⟩
   ·have Hi:i<i0:=(by omega);have c1:=Z0 h1 i;rw[Z1u _ i (by omega)] at c1;have f1:=Z8 h1 i;have Cd:(0:Int)<=(i:Int):=(by omega);have hi8:(i:Int)<9:=(by omega);have hi7:(i:Int)<(i0:Int):=(by omega);go_wp2;refine⟨⟨i+1,by omega,by push_cast;rfl,hE.setCell _ _ (by simp),(set_ne (by simp) _).trans h0,?_⟩,by simp[intOf];omega⟩;rw[Zb h1,Z52 _ i (by omega)];rw[Z1o (out':=Z51 (i+1) used)];intro j _;simp only[Z51];by_cases hj:j=i
    ·subst hj;simp
    ·have e1:(j==i)=false:=(by simpa using hj);have e2:decide (j<i+1)=decide (j<i):=decide_eq_decide.2 (by omega);rw[e1,e2,Bool.or_false]
end Go.Proofs.Tryq
namespace Go.Nk
open Go Go.Region
open Go.Proofs.Tryq (Ext Z3 Z2)
variable {P:Program} {ops:Array Oper} {Q:Exit->Act->World->Prop}
variable {n:Nat} {Dl:List (Option Tmp)} {S:List (Option Value)} {L0:Tmp->Value} {M:(Nat->Bool)->(Tmp->Value)->World->Prop} {ℓ:Nat->Bool} {a:Act} {w w':World} {i:Nat} {o:Oper}
structure Sx where
 al:Nat
 t:Tmp
 k:Nat
 z:Array Value
 ty:TypeId
variable {w1:World} {B:List Sx} {x:Tmp->Value}
end Go.Nk
namespace Go.Proofs.Tryq
open Go Go.Nk Go.RowKit
open Go.Maps (Keyed)
open Go.ChangeMaps (setBlock)
theorem run_append_keep{P:Program}(w:World)(base:Nat)(t ty e:TypeId)(i:TypeInfo)(z:Value)(size bytes:Nat)(ht:P.underlying t=some (.slice e))(hi:P.info? e=some i)(hz:i.zero=some z)
 (Fs:i.size=size)(Ka:i.bytes=bytes)(Vf:z.cells.size=size)(Az:0<size)
 (v:Value)(n:Nat)(xs:List Value)(Ak:w.ownsRow base e size v n xs)
 (a:Addr)(m c:Nat)(news:List Value)(hl:news.length=m*size)(Dy:∀j u,news[j]? =some u->w.cell? (a.add j)=some u)(h1:∀u∈news,u.oneCell'=true)
 (Vg:n+m<=maxLen)(F4:(n+m)*bytes<=140737488355328)(A5:base<=w.heap.size):
 ∃v' w',(Builtin.append_ #[t,t] ty #[v,.slice (some a) m c]).run P w= .ok v' w'/\w'.ownsRow base e size v' (n+m) (xs++news)/\w.grownBy w' v.ownBlock/\
  ((v'.ownBlock=v.ownBlock)\/∀k,v'.ownBlock=some k->w.heap.size<=k):=by
 rcases Ak.2 with⟨rfl,rfl⟩|⟨g,cap,cur,rfl,Xp,hg,Fg,Pr,Ad,J1⟩
 ·have hx:xs=[]:=List.eq_nil_of_length_eq_zero (by simpa using Ak.1);subst hx;obtain⟨v',w',r1,r2,r3,_⟩:=run_append_own (P:=P) w w.heap.size t ty e i z size bytes ht hi hz Fs Ka Vf Az (.slice none 0 0) 0 [] (World.ownsRow_nil _ _ _ _) a m c news hl Dy h1 Vg F4 (Nat.le_refl _);exact⟨v',w',r1,Z05 r2 A5,r3,.inr fun k hk=>(r2.lt k hk).1⟩
 ·by_cases T6:n+m<=cap
  ·obtain⟨w',r1,r2,r3⟩:=run_append_fits (P:=P) w base t ty e i size ht hi Fs g n cap xs Ak a m c news hl Dy h1 T6;exact⟨_,w',r1,r2,r3,.inl rfl⟩
  ·obtain⟨v',w',r1,r2,r3⟩:=run_append_arg_grows (P:=P) w t ty e i z size bytes ht hi hz Fs Ka Vf Az ⟨g,0,none⟩ n cap xs Ak.1 (Ak.cells (g:=g) rfl) a m c news hl Dy (by omega) Vg F4;exact⟨v',w',r1,Z05 r2 A5,⟨r3.os,r3.tape,r3.output,r3.size,fun b hb _=>r3.block b hb (fun e=>by cases e)⟩,.inr fun k hk=>(r2.lt k hk).1⟩
theorem Z3V{P:Program}{w:World}{o:Oper}{a:Act}{K:Act->World->Prop}{Q:Exit->Act->World->Prop}(s x:Operand)(t:TypeId)
 (ho:o.op= .call {callee:= .builtin .append,args:= #[s,x],argTypes:= #[t,t]})
 (base:Nat)(e:TypeId)(i:TypeInfo)(z:Value)(size bytes:Nat)(ht:P.underlying t=some (.slice e))(hi:P.info? e=some i)(hz:i.zero=some z)
 (Fs:i.size=size)(Ka:i.bytes=bytes)(Vf:z.cells.size=size)(Az:0<size)
 (v:Value)(n:Nat)(xs:List Value)(hs:a.eval s=v)(Ak:w.ownsRow base e size v n xs)
 (ad:Addr)(m c:Nat)(news:List Value)(hx:a.eval x= .slice (some ad) m c)(hl:news.length=m*size)(Dy:∀j u,news[j]? =some u->w.cell? (ad.add j)=some u)(h1:∀u∈news,u.oneCell'=true)
 (Vg:n+m<=maxLen)(F4:(n+m)*bytes<=140737488355328)(A5:base<=w.heap.size)
 (h:∀v' w',w'.ownsRow base e size v' (n+m) (xs++news)->w.grownBy w' v.ownBlock->((v'.ownBlock=v.ownBlock)\/∀k,v'.ownBlock=some k->w.heap.size<=k)->K (a.put o.dst v') w'):o.wp P a w K Q:=by
 obtain⟨v',w',hr,h2,h3,h4⟩:=run_append_keep (P:=P) w base t o.type e i z size bytes ht hi hz Fs Ka Vf Az v n xs Ak ad m c news hl Dy h1 Vg F4 A5;unfold Oper.wp execOp;simp only[ho,resolve,invoke,builtin,Sem.run_bind,Sem.run_pure,Result.andThen_ok,List.map_toArray,List.map_cons,List.map_nil,hs,hx,hr];exact h v' w' h2 h3 h4
def ZO(G:Value->Option Value)(i:Nat):Value:=(G (.int .i64 i)).getD (.slice none 0 0)
def ByAt(B B2 n yk:Nat)(D:List (List Int))(w:World):Prop:=
 ∃G:Value->Option Value,MapAt prog 3 w yk G/\(∀i:Nat,i<n->Shr B w (ZO G i) (byL D i))/\(∀i j:Nat,i<n->j<n->i≠j->(ZO G i).ownBlock=none\/(ZO G i).ownBlock≠(ZO G j).ownBlock)/\∀i:Nat,i<n->∀k,(ZO G i).ownBlock=some k->B2<=k
theorem Shr.lt{B:Nat}{w:World}{v:Value}{ls:List (List Int)}(h:Shr B w v ls){k:Nat}(hk:v.ownBlock=some k):B<=k/\k<w.heap.size:=by
 obtain⟨_,vs,h1,_⟩:=h;exact h1.lt k hk
theorem Shr.isCells{B:Nat}{w:World}{v:Value}{ls:List (List Int)}(h:Shr B w v ls){k:Nat}(hk:v.ownBlock=some k):∃c,w.heap[k]? =some (.cells c 27):=by
 obtain⟨_,vs,h1,_⟩:=h;rcases h1.2 with⟨rfl,_⟩|⟨g,cp,cur,rfl,_,hg,_⟩
 ·cases hk
 ·cases hk;exact⟨cur,hg⟩
theorem Shr.grown{B:Nat}{W w:World}{v rv:Value}{ls rs:List (List Int)}(h:Shr B W v ls)(hr:Shr B W rv rs)(hg:W.grownBy w rv.ownBlock)(A9:v.ownBlock=none\/v.ownBlock≠rv.ownBlock):Shr B w v ls:=by
 obtain⟨h0,vs,h1,h2⟩:=h;refine⟨h0,vs,h1.kept hg A9,h2.mono fun u s hu=>hu.kept hg ?_⟩;obtain⟨_,rvs,k1,_⟩:=hr;exact Z4i hu k1 (by decide)
theorem OwnI.grownRow{B:Nat}{W w:World}{u rv:Value}{l:List Int}{rs:List (List Int)}(h:OwnI B W u l)(hr:Shr B W rv rs)(hg:W.grownBy w rv.ownBlock):OwnI B w u l:=by
 obtain⟨_,rvs,k1,_⟩:=hr;exact World.ownsRow.kept h hg (Z4i h k1 (by decide))
theorem ZbW(D:List (List Int))(l:List Int)(i:Nat):byL (D++[l]) i=if l.head? =some (i:Int) then byL D i++[l] else byL D i:=by
 unfold byL;rw[List.filter_append];by_cases h:l.head? =some (i:Int)
 ·rw[if_pos h,List.filter_cons_of_pos (by simpa using h),List.filter_nil]
 ·rw[if_neg h,List.filter_cons_of_neg (by simpa using h),List.filter_nil,List.append_nil]
open Classical in
theorem ByAt.step{B B2 n yk:Nat}{D:List (List Int)}{W:World}{G:Value->Option Value}(hm:MapAt prog 3 W yk G)(Bp:∀i:Nat,i<n->Shr B W (ZO G i) (byL D i))
 (Ch:∀i j:Nat,i<n->j<n->i≠j->(ZO G i).ownBlock=none\/(ZO G i).ownBlock≠(ZO G j).ownBlock)(Ao:∀i:Nat,i<n->∀k,(ZO G i).ownBlock=some k->B2<=k)(O9:B2<=W.heap.size){l:List Int}{i:Nat}(hi:i<n)(hn:n<100)(hl:l.head? =some (i:Int)){u v':Value}{w3:World}{vs:List Value}
 (hu:OwnI B W u l)(Ee:W.ownsRow B 27 1 (ZO G i) vs.length vs)(he:Each (fun u s=>OwnI B W u s) vs (byL D i))
 (Ak:w3.ownsRow B 27 1 v' (vs.length+1) (vs++[u]))(hg:W.grownBy w3 (ZO G i).ownBlock)(Jf:(v'.ownBlock=(ZO G i).ownBlock)\/∀k,v'.ownBlock=some k->W.heap.size<=k):
 ∃o,(Instr.mapUpdate 182 (.map (some yk)) (.int .i64 i) v').run prog w3= .ok () (setBlock w3 yk o)/\ByAt B B2 n yk (D++[l]) (setBlock w3 yk o):=by
 have hyk:∀k,(ZO G i).ownBlock=some k->k≠yk:=by
  rintro k hk rfl;obtain⟨c,hc⟩:=(Bp i hi).isCells hk;obtain⟨es,ck,hb,_⟩:=hm;rw[hb] at hc;cases hc
 have No:MapAt prog 3 w3 yk G:=hm.keep (hg.block _ hm.lt (fun e=>hyk _ e.symm rfl));obtain⟨es,ck,Fl,_⟩:=No;have No:MapAt prog 3 w3 yk G:=hm.keep (hg.block _ hm.lt (fun e=>hyk _ e.symm rfl));obtain⟨kl,F0⟩:=Z3M i (by omega);obtain⟨o,h1,h2⟩:=No.update K3 u182 F0 v';refine⟨o,h1,_,h2,?_,?_,?_⟩
 ·have hX:=Z2B (kb:=yk) w3 o;intro j hj;have An:ZO (fun x=>if x=Value.int .i64 i then some v' else G x) j=if j=i then v' else ZO G j:=by
   unfold ZO;by_cases Am:j=i
   ·subst Am;simp
   ·have A9:¬(Value.int .i64 (j:Int)=Value.int .i64 (i:Int)):=(by simp;omega);simp[Am,A9]
  rw[An,ZbW];by_cases Am:j=i
  ·subst Am;rw[if_pos rfl,if_pos hl];have hr:=Bp j hj;refine Shr.map1 (w:=w3) ⟨fun h=>by simp at h,vs++[u],by simpa using Ak,Each.append (he.mono fun u s h=>OwnI.grownRow h hr hg) ⟨OwnI.grownRow hu hr hg,trivial⟩⟩ hX Fl
  ·rw[if_neg Am,if_neg (by rw[hl];simp;omega)];exact((Bp j hj).grown (Bp i hi) hg (Ch j i hj hi Am)).map1 hX Fl
 ·have An:∀j:Nat,ZO (fun x=>if x=Value.int .i64 i then some v' else G x) j=if j=i then v' else ZO G j:=by
   intro j;unfold ZO;by_cases Am:j=i
   ·subst Am;simp
   ·have A9:¬(Value.int .i64 (j:Int)=Value.int .i64 (i:Int)):=(by simp;omega);simp[Am,A9]
  intro p q hp hq Ft;rw[An,An];have key:∀j,j<n->j≠i->∀k,(ZO G j).ownBlock=some k->v'.ownBlock≠some k:=by
   intro j hj Am k hk he;rcases Jf with h|h
   ·rcases Ch j i hj hi Am with h'|h'
    ·rw[hk] at h';cases h'
    ·rw[hk,<-h,he] at h';exact h' rfl
   ·have:=h k he;have:=((Bp j hj).lt hk).2;omega
  by_cases R1:p=i
  ·have Gc:q≠i:=fun h=>Ft (R1.trans h.symm)
   rw[if_pos R1,if_neg Gc];cases hv:v'.ownBlock with
   |none=>exact .inl rfl
   |some k=>exact .inr fun h=>key q hq Gc k h.symm hv
  ·rw[if_neg R1];by_cases Gc:q=i
   ·rw[if_pos Gc];cases hv:(ZO G p).ownBlock with
    |none=>exact .inl rfl
    |some k=>exact .inr fun h=>key p hp R1 k hv h.symm
   ·rw[if_neg Gc];exact Ch p q hp hq Ft
 ·intro j hj k;have An:ZO (fun x=>if x=Value.int .i64 i then some v' else G x) j=if j=i then v' else ZO G j:=by
   unfold ZO;by_cases Am:j=i
   ·subst Am;simp
   ·have A9:¬(Value.int .i64 (j:Int)=Value.int .i64 (i:Int)):=(by simp;omega);simp[Am,A9]
  rw[An];by_cases Am:j=i
  ·rw[if_pos Am];intro hk;rcases Jf with h|h
   ·exact Ao i hi k (by rw[<-h];exact hk)
   ·exact Nat.le_trans O9 (h k hk)
  ·rw[if_neg Am];exact Ao j hj k
end Go.Proofs.Tryq
section
namespace Go.Nk
open Go Go.Region Go.Proofs.Tryq
section
variable {P:Program} {ops:Array Oper} {R:Exit->Act->World->Prop} {t:Nat} {l:List Nat}
def Ziq(ops:Array Oper):List Nat->List Nat->Bool
 |[],l=>(Region.ready .any ops (mark ops.size l)).isEmpty&&decide (l.length=ops.size)
 |k::ks,l=>(Region.ready .any ops (mark ops.size l)==[k])&&decide (k<ops.size)&&decide (l.length<ops.size)&&Ziq ops ks (k::l)
variable {i d:Nat} {pre:List Nat} {obj:Obj}
def Zic(ops:Array Oper):Nat->Nat->Nat->Bool
 |0,_,_=>false
 |f+1,i,j=>match ops[j]? with|some o=>(Zi7 o).any fun m=>m==i||Zic ops f i m|none=>false
def Closed(ops:Array Oper)(listed:Array Bool):Prop:=∀j o,ops[j]? =some o->listed.getD j false=true->∀m∈Zi7 o,listed.getD m false=true
theorem Zi9{listed:Array Bool}(hc:Closed ops listed):∀(f i j:Nat)(o:Oper),ops[j]? =some o->(∀m∈Zi7 o,listed.getD m false=true)->Zic ops f i j=true->listed.getD i false=true
 |0,_,_,_,_,_,h=>by cases h
 |f+1,i,j,o,ho,hm,h=>by
  rw[Zic,ho] at h;obtain⟨m,Dr,Jz⟩:=List.any_eq_true.1 h;have h1:=hm m Dr;simp only[Bool.or_eq_true,beq_iff_eq] at Jz;rcases Jz with rfl|Jz
  ·exact h1
  ·cases hom:ops[m]? with
   |none=>cases f<;>simp[Zic,hom] at Jz
   |some om=>exact Zi9 hc f i m om hom (hc m om hom h1) Jz
theorem Zii{l:Array Bool}{i j:Nat}(h:l.getD i false=true):(l.setIfInBounds j true).getD i false=true:=by
 simp only[Array.getD_eq_getD_getElem?,Array.getElem?_setIfInBounds] at*;split
 ·split
  ·rfl
  ·rename_i h1 h2;subst h1;rw[Array.getElem?_eq_none (by omega)] at h;exact h
 ·exact h
theorem Closed.set{listed:Array Bool}(hc:Closed ops listed){j:Nat}(hj:j∈Region.ready .any ops listed):Closed ops (listed.setIfInBounds j true):=by
 intro k o ho hk m hm;by_cases e:k=j
 ·subst e;obtain⟨_,o',ho',Ah⟩:=Go.mem_ready.1 hj;rw[ho] at ho';injection ho' with e;subst e;obtain⟨e,he,hb,rfl⟩:=Zf2 hm;exact Zii (Ah e he hb)
 ·have:listed.getD k false=true:=by
   simp only[Array.getD_eq_getD_getElem?,Array.getElem?_setIfInBounds] at*;rw[if_neg (fun h=>e h.symm)] at hk;exact hk
  exact Zii (hc k o ho this m hm)
def Zf9(ops:Array Oper)(t i:Nat):Bool:=(List.range ops.size).all fun j=>decide (j<t)||Zic ops ops.size i j
theorem ZeJ{listed:Array Bool}{i j:Nat}(hc:Closed ops listed)(hs:Zf9 ops t i=true)(hi:i∈Region.ready .any ops listed)(hj:j∈Region.ready .any ops listed):j<t:=by
 rcases Nat.lt_or_ge j t with h|h
 ·exact h
 ·obtain⟨_,oj,Bo,Ah⟩:=Go.mem_ready.1 hj;have h1:=YL.1 hs j (YU.2 (YF.1 Bo).1);simp only[Bool.or_eq_true,decide_eq_true_eq] at h1;rcases h1 with h1|h1
  ·omega
  ·have h3:=Zi9 hc _ i j oj Bo (fun m hm=>by obtain⟨e,he,hb,rfl⟩:=Zf2 hm;exact Ah e he hb) h1;have h4:=(Go.mem_ready.1 hi).1;rcases Nat.lt_or_ge i listed.size with h'|h'
   ·simp[h'] at h3 h4;rw[h3] at h4;cases h4
   ·simp[Array.getElem?_eq_none h'] at h3
theorem Zih{i:Nat}{oi:Oper}{v:Value}(hi:ops[i]? =some oi)(Cf:∀(j:Nat)(o:Oper) cs b,ops[j]? =some o->o.op≠.select cs b)(Ac:Zf9 ops t i=true)(hit:i<t):
 ∀(n:Nat)(listed:Array Bool)(a:Act)(w:World),Closed ops listed->
  (∀j oj,ops[j]? =some oj->j≠i->listed.getD j true=false->(∀e∈oj.after,Region.binds .any e=true->e.on≠i)->oi.apart ops oj=true)->
  i∈Region.ready .any ops listed->YE P ops w oi v a->anyE P ops R t n (listed.setIfInBounds i true) (a.put oi.dst v) w->anyE P ops R t (n+1) listed a w:=by
 intro n
 induction n with
 |zero=>
  intro listed a w _ _ hr hy H W hW;refine⟨fun h=>(by rw[h] at hr;cases hr),fun j hj=> ?_⟩;by_cases Am:j=i
  ·subst Am;exact⟨fun _=>hy.wpOp hi hW fun W' hW'=>⟨hW',H.ext (hW.trans hW')⟩,fun h=>by omega⟩
  ·have:=Go.ready_mono hj Am;rw[H.1] at this;cases this
 |succ n ih=>
  intro listed a w hc C9 hr hy H W hW;refine⟨fun h=>(by rw[h] at hr;cases hr),fun j hj=> ?_⟩;by_cases Am:j=i
  ·subst Am;exact⟨fun _=>hy.wpOp hi hW fun W' hW'=>⟨hW',H.ext (hW.trans hW')⟩,fun h=>by omega⟩
  ·obtain⟨D1,oj,Bo,Ah⟩:=Go.mem_ready.1 hj;have Ch:=C9 j oj Bo Am D1 (ZeW (j:=j) (Go.mem_ready.1 hr).1 Ah)
   have D2:∀k ok,ops[k]? =some ok->k≠i->(listed.setIfInBounds j true).getD k true=false->
    (∀e∈ok.after,Region.binds .any e=true->e.on≠i)->oi.apart ops ok=true:=fun k ok hk Fi Hd Di=>by
    refine C9 k ok hk Fi ?_ Di;by_cases Gw:j=k
    ·subst Gw;exact D1
    ·rw[getD_set_ne true Gw] at Hd;exact Hd
   refine⟨fun Pn=> ?_,fun Pn=> ?_⟩
   ·have h1:=((H W hW).2 j (Go.ready_mono hj Am)).1 Pn;refine wpOp_mono (fun a' w' h3=> ?_) (ZeV Bo Ch (fun cs b=>Cf j oj cs b Bo) h1);obtain⟨⟨u,d,rfl⟩,h4,h5⟩:=h3;refine⟨h4,ih (listed.setIfInBounds j true) _ w' (hc.set hj) D2 (Go.ready_mono hr (Ne.symm Am)) (YE.kept Ch (fun cs b=>Cf i oi cs b hi) (hy.ext (hW.trans h4))) ?_⟩;rw[Array.setIfInBounds_comm _ _ Am];exact h5
   ·have:=ZeJ hc Ac hr hj;omega
def Zik(ops:Array Oper)(l:List Nat):Bool:=(List.range ops.size).all fun j=> !(mark ops.size l).getD j false||match ops[j]? with|some o=>(Zi7 o).all fun m=>(mark ops.size l).getD m false|none=>true
theorem Zid(h:Zik ops l=true):Closed ops (mark ops.size l):=by
 intro j o ho hj m hm;have h1:=YL.1 h j (YU.2 (YF.1 ho).1);rw[hj,ho] at h1;simp only[Bool.not_true,Bool.false_or] at h1;exact YL.1 h1 m hm
def Zil(ops:Array Oper)(t:Nat)(l:List Nat)(k:Nat):Bool:=decide (k<t)&&decide (l.length<ops.size)&&(Region.ready .any ops (mark ops.size l)).contains k&&Region.free .any ops (mark ops.size l) k&&Zf9 ops t k&&Zik ops l
theorem Zim{k:Nat}{o:Oper}{v:Value}{a:Act}{w:World}(hs:okT ops t=true)(hi:ops[k]? =some o)(hf:Zil ops t l k=true)(hy:YE P ops w o v a)(h:LX P ops R t (k::l) (a.put o.dst v) w):LX P ops R t l a w:=by
 unfold okT at hs;unfold Zil at hf;simp only[YG,decide_eq_true_eq] at hf;obtain⟨⟨⟨⟨⟨h1,h2⟩,h3⟩,h4⟩,h5⟩,h6⟩:=hf;unfold LX at*;rw[show ops.size - l.length=(ops.size - (k::l).length)+1 by simp only[YP];omega];exact Zih hi (Region.noSelect_spec hs) h5 h1 _ _ a w (Zid h6) (Region.free_spec hi h4) (by simpa using h3) hy h
def Zij(ops:Array Oper)(t:Nat):List Nat->List Nat->Bool
 |[],_=>true
 |k::ks,l=>Zil ops t l k&&(match ops[k]? with|some o=>ZeC o|none=>false)&&Zij ops t ks (k::l)
theorem Zio{w:World}(X:List Nat->Act->Prop)(E7:∀l k o v a,ops[k]? =some o->Zil ops t l k=true->YE P ops w o v a->X (k::l) (a.put o.dst v)->X l a):∀(ks l:List Nat)(a:Act),Zij ops t ks l=true->wpQuiet P ops (fun w'=>∃p:Gr,w'=gr w p.d p.os) (X (doneL ks l)) (ZeD ops.toList ks) a->X l a:=by
 intro ks
 induction ks with
 |nil=>intro l a _ h;exact h
 |cons k ks ih=>
  intro l a hp h;simp only[Zij,YG] at hp;obtain⟨⟨hf,ho⟩,hp⟩:=hp;cases hi:ops[k]? with
  |none=>rw[hi] at ho;cases ho
  |some o=>
   rw[hi] at ho;rw[ZeD,show ops.toList[k]? =some o by rw[Array.getElem?_toList];exact hi] at h;have hq:qOp P ops (fun w'=>∃p:Gr,w'=gr w p.d p.os) k (wpQuiet P ops (fun w'=>∃p:Gr,w'=gr w p.d p.os) (X (doneL (k::ks) l)) (ZeD ops.toList ks)) a:=by
    unfold qOp;simp only[hi];exact h
   obtain⟨v,hy,hK⟩:=yieldsIn_of_qOp hi hq;exact E7 l k o v a hi hf (hy.imp (fun h=>⟨h.1,fun W hW=>Zis ho (h.2 W (Zfi hW))⟩) id) (ih _ _ hp hK)
theorem Zin{o:List Oper}(ks:List Nat){a:Act}{w:World}(hs:okT o.toArray t=true)(hp:Zij o.toArray t ks l=true)(h:wpQuiet P o.toArray (fun w'=>∃p:Gr,w'=gr w p.d p.os) (fun a'=>LX P o.toArray R t (doneL ks l) a' w) (ZeD o ks) a):LX P o.toArray R t l a w:=
 Zio (X:=fun l a=>LX P o.toArray R t l a w) (fun _ _ _ _ _ hi hf hy h=>Zim hs hi hf hy h) ks l a hp h
def Zip(a:Act):List (Nat×Value)->Act
 |[]=>a
 |(d,v)::L=>Zip (a.put (some d) v) L
theorem Zia{c:Code}{a:Act}{w:World}{T:Type}(L:T->List (Nat×Value))(F:T->World->Prop)(h:c.wp P (fun e a' w'=>e= .normal/\∃x,a'=Zip a (L x)/\F x w') a w)(k:∀x w',F x w'->R .normal (Zip a (L x)) w'):c.wp P R a w:=
 Go.wp_mono h fun e a' w' ⟨he,x,ha,hF⟩=>by subst he ha;exact k x w' hF
end
end Go.Nk
namespace Go.Proofs.Tryq
open Go Go.Nk Go.RowKit
def put5(w:World)(b:Nat)(v0 v1 v2 v3 v4:Value):World:=((((w.setCell ⟨b,0,none⟩ v0).setCell ⟨b,1,none⟩ v1).setCell ⟨b,2,none⟩ v2).setCell ⟨b,3,none⟩ v3).setCell ⟨b,4,none⟩ v4
theorem ZiD{w:World}{b:Nat}{a0 a1 a2 a3 a4:Value}{t:TypeId}(h:w.heap[b]? =some (.cells #[a0,a1,a2,a3,a4] t))(v0 v1 v2 v3 v4:Value):(put5 w b v0 v1 v2 v3 v4).heap[b]? =some (.cells #[v0,v1,v2,v3,v4] t):=
 Zb (Zb (Zb (Zb (Zb h v0) v1) v2) v3) v4
theorem ZiG(w:World){b c:Nat}(h:c≠b)(v0 v1 v2 v3 v4:Value):(put5 w b v0 v1 v2 v3 v4).heap[c]? =w.heap[c]? :=
 (((((set_ne (a:=⟨b,4,none⟩) h v4).trans (set_ne (a:=⟨b,3,none⟩) h v3)).trans (set_ne (a:=⟨b,2,none⟩) h v2)).trans (set_ne (a:=⟨b,1,none⟩) h v1)).trans (set_ne (a:=⟨b,0,none⟩) h v0))
theorem ZiE{w0 w:World}(e:Ext w0 w){b:Nat}(h:w0.heap.size<=b)(v0 v1 v2 v3 v4:Value):Ext w0 (put5 w b v0 v1 v2 v3 v4):=
 ((((e.setCell ⟨b,0,none⟩ v0 h).setCell ⟨b,1,none⟩ v1 h).setCell ⟨b,2,none⟩ v2 h).setCell ⟨b,3,none⟩ v3 h).setCell ⟨b,4,none⟩ v4 h
theorem ZiJ{w:World}{b:Nat}{c:Array Value}{t:TypeId}(h:w.heap[b]? =some (.cells c t)):
 w.frozen? ⟨b,0,none⟩=false/\w.frozen? ⟨b,1,none⟩=false/\w.frozen? ⟨b,2,none⟩=false/\w.frozen? ⟨b,3,none⟩=false/\w.frozen? ⟨b,4,none⟩=false:=
 ⟨Z8 h 0,Z8 h 1,Z8 h 2,Z8 h 3,Z8 h 4⟩
end Go.Proofs.Tryq
end
section
namespace Go.Nk
open Go Go.Region Go.Proofs.Tryq
structure Pre(E:World->World->Prop):Prop where
 rfl':∀w,E w w
 trans:∀{a b c},E a b->E b c->E a c
 drew:∀w,E w w.drew
structure GrE(E:World->World->Prop)(w:World) where
 W:World
 h:E w W
structure ExtX(X:Nat->Prop)(w w':World):Prop where
 size:w.heap.size<=w'.heap.size
 old:∀b,b<w.heap.size->¬X b->w'.heap[b]? =w.heap[b]?
 tape:w'.tape=w.tape
 os:w'.os=w.os
 output:w'.output=w.output
theorem ExtX.pre(X:Nat->Prop):Pre (ExtX X):=
 ⟨fun w=>⟨Nat.le_refl _,fun _ _ _=>rfl,rfl,rfl,rfl⟩,fun h h'=>⟨Nat.le_trans h.size h'.size,fun b hb hx=>(h'.old b (YS hb h.size) hx).trans (h.old b hb hx),h'.tape.trans h.tape,h'.os.trans h.os,h'.output.trans h.output⟩,fun w=>⟨Nat.le_refl _,fun _ _ _=>rfl,rfl,rfl,rfl⟩⟩
theorem Ext.toX{w w':World}(h:Ext w w')(X:Nat->Prop):ExtX X w w':=⟨h.size,fun b hb _=>h.old b hb,h.tape,h.os,h.output⟩
theorem ExtX.set{X:Nat->Prop}(w:World){a:Addr}(hx:X a.block)(v:Value):ExtX X w (w.setCell a v):=by
 have hA:=Go.Conc.aside_setCell w a v;exact⟨by rw[hA.size];exact Nat.le_refl _,fun b hb hn=>hA.block b (fun e=>hn (e▸hx)),hA.tape,hA.os,hA.output⟩
theorem ExtX.trans{X:Nat->Prop}{a b c:World}(h:ExtX X a b)(h':ExtX X b c):ExtX X a c:=(ExtX.pre X).trans h h'
theorem ExtX.put5{X:Nat->Prop}(w:World){b:Nat}(hx:X b)(v0 v1 v2 v3 v4:Value):ExtX X w (put5 w b v0 v1 v2 v3 v4):=
 ((((ExtX.set w (a:=⟨b,0,none⟩) hx v0).trans (ExtX.set _ (a:=⟨b,1,none⟩) hx v1)).trans (ExtX.set _ (a:=⟨b,2,none⟩) hx v2)).trans (ExtX.set _ (a:=⟨b,3,none⟩) hx v3)).trans (ExtX.set _ (a:=⟨b,4,none⟩) hx v4)
theorem ExtX.cellS{X:Nat->Prop}{w w':World}(h:ExtX X w w'){a:Addr}{v:Value}(hx:¬X a.block)(hc:w.cell? a=some v):w'.cell? a=some v:=by
 have A4:a.block<w.heap.size:=by
  unfold World.cell? at hc;split at hc
  ·rename_i hh;exact(YF.1 hh).1
  ·cases hc
 simp only[World.cell?,h.old _ A4 hx] at*;exact hc
instance (X:Nat->Prop)(w:World):Nonempty (GrE (ExtX X) w):=⟨⟨w,(ExtX.pre X).rfl' w⟩⟩
theorem GrE.cell{X:Nat->Prop}{w:World}{a:Addr}{v:Value}(hx:¬X a.block)(hc:w.cell? a=some v)(p:GrE (ExtX X) w):p.W.cell? a=some v:=p.h.cellS hx hc
section
variable {P:Program} {ops:Array Oper} {R:Exit->Act->World->Prop} {E:World->World->Prop}
def ZhT(P:Program)(ops:Array Oper)(R:Exit->Act->World->Prop)(E:World->World->Prop):Nat->Array Bool->Act->World->Prop
 |0,listed,a,w=>Region.ready .any ops listed=[]/\R .normal a w
 |n+1,listed,a,w=>(Region.ready .any ops listed=[]->R .normal a w)/\∀i∈Region.ready .any ops listed,
   wpOp P ops FQ i (fun a' W'=>E w W'/\ZhT P ops R E n (listed.setIfInBounds i true) a' W') a w
theorem wpAny_of_X:∀(n:Nat)(l:Array Bool)(a:Act)(w:World),ZhT P ops R E n l a w->wpAny P .any ops R n l a w
 |0,_,_,w,h=>h
 |n+1,_,_,w,h=>⟨h.1,fun i hi=>Zf8 noFQ (fun a' w' h'=>wpAny_of_X n _ a' w' h'.2) (h.2 i hi)⟩
def YVX(P:Program)(o:Oper)(a:Act)(W:World)(v:Value):Prop:=match (execOp a.eval o).run P W with
 | .ok (.value u) W'=>u=v/\W'=W
 | .ok .skip W'=>v=undef/\W'=W
 |_=>False
def YX(P:Program)(ops:Array Oper)(E:World->World->Prop)(w:World)(o:Oper)(v:Value)(a:Act):Prop:=
 (Region.wanted o (yielded ops a.tmps)=true/\∀W,E w W->YVX P o a W v)\/(Region.wanted o (yielded ops a.tmps)=false/\v=undef)
theorem YX.ext(hE:Pre E){w W:World}{o:Oper}{v:Value}{a:Act}(h:YX P ops E w o v a)(e:E w W):YX P ops E W o v a:=
 h.imp (fun h=>⟨h.1,fun W' h'=>h.2 W' (hE.trans e h')⟩) id
theorem YX.kept{w:World}{oi oj:Oper}{v u:Value}{a:Act}{d:List Deferred}(Ch:oi.apart ops oj=true)(Wu:∀cs b,oi.op≠.select cs b)(hy:YX P ops E w oi v a):YX P ops E w oi v ({a with defers:=d}.put oj.dst u):=by
 obtain⟨h1,h2,h3⟩:=Oper.apart_spec Ch;have e1:execOp ({a with defers:=d}.put oj.dst u).eval oi=execOp a.eval oi:=execOp_put oi Wu _ oj.dst u h3;have e2:=wanted_put oi ({a with defers:=d}:Act) oj.dst u h3;unfold YX YVX at*;rw[e1,e2];exact hy
theorem YX.wpOp(hE:Pre E){i:Nat}{o:Oper}{v:Value}{a:Act}{w:World}(hi:ops[i]? =some o)(hy:YX P ops E w o v a){K:Act->World->Prop}{R:Exit->Act->World->Prop}(h:K (a.put o.dst v) w):wpOp P ops R i K a w:=by
 unfold Go.wpOp;simp only[hi];rcases hy with⟨hw,hv⟩|⟨hw,rfl⟩
 ·simp only[hw,if_true];refine .inl ?_;have h3:=hv w (hE.rfl' w);unfold YVX at h3;unfold Oper.wp;generalize (execOp a.eval o).run P w=r at*;cases r with
  |ok n w'=>
   cases n<;>simp only at h3<;>simp only[Oper.upon]
   case value u=>obtain⟨rfl,rfl⟩:=h3;exact h
   case skip=>obtain⟨rfl,rfl⟩:=h3;exact h
  |halt x w'=>simp only at h3
 ·simp only[hw,YR,if_false];exact h
theorem ZhA(hE:Pre E){i:Nat}{oi:Oper}{v:Value}(hi:ops[i]? =some oi)(Cf:∀(j:Nat)(o:Oper) cs b,ops[j]? =some o->o.op≠.select cs b):
 ∀(n:Nat)(listed:Array Bool)(a:Act)(w:World),
  (∀j oj,ops[j]? =some oj->j≠i->listed.getD j true=false->(∀e∈oj.after,Region.binds .any e=true->e.on≠i)->oi.apart ops oj=true)->
  i∈Region.ready .any ops listed->YX P ops E w oi v a->ZhT P ops R E n (listed.setIfInBounds i true) (a.put oi.dst v) w->ZhT P ops R E (n+1) listed a w:=by
 intro n
 induction n with
 |zero=>
  intro listed a w _ hr hy H;refine⟨fun h=>(by rw[h] at hr;cases hr),fun j hj=> ?_⟩;by_cases Am:j=i
  ·subst Am;exact hy.wpOp hE hi ⟨hE.rfl' w,H⟩
  ·have:=Go.ready_mono hj Am;rw[H.1] at this;cases this
 |succ n ih=>
  intro listed a w C9 hr hy H;refine⟨fun h=>(by rw[h] at hr;cases hr),fun j hj=> ?_⟩;by_cases Am:j=i
  ·subst Am;exact hy.wpOp hE hi ⟨hE.rfl' w,H⟩
  ·obtain⟨D1,oj,Bo,Ah⟩:=Go.mem_ready.1 hj;have Ch:=C9 j oj Bo Am D1 (ZeW (j:=j) (Go.mem_ready.1 hr).1 Ah)
   have D2:∀k ok,ops[k]? =some ok->k≠i->(listed.setIfInBounds j true).getD k true=false->
    (∀e∈ok.after,Region.binds .any e=true->e.on≠i)->oi.apart ops ok=true:=fun k ok hk Fi Hd Di=>by
    refine C9 k ok hk Fi ?_ Di;by_cases Gw:j=k
    ·subst Gw;exact D1
    ·rw[getD_set_ne true Gw] at Hd;exact Hd
   have h1:=H.2 j (Go.ready_mono hj Am);refine wpOp_mono (fun a' w' h3=> ?_) (ZeV Bo Ch (fun cs b=>Cf j oj cs b Bo) h1);obtain⟨⟨u,d,rfl⟩,h4,h5⟩:=h3;refine⟨h4,ih (listed.setIfInBounds j true) _ w' D2 (Go.ready_mono hr (Ne.symm Am)) (YX.kept Ch (fun cs b=>Cf i oi cs b hi) (hy.ext hE h4)) ?_⟩;rw[Array.setIfInBounds_comm _ _ Am];exact h5
def LXE(P:Program)(ops:Array Oper)(R:Exit->Act->World->Prop)(E:World->World->Prop)(l:List Nat)(a:Act)(w:World):Prop:=ZhT P ops R E (ops.size - l.length) (mark ops.size l) a w
variable {l:List Nat}
def ZhQ(ops:Array Oper)(l:List Nat)(k:Nat):Bool:=decide (l.length<ops.size)&&(Region.ready .any ops (mark ops.size l)).contains k&&Region.free .any ops (mark ops.size l) k
theorem ZhR(hE:Pre E){k:Nat}{o:Oper}{v:Value}{a:Act}{w:World}(hs:Region.noSelect ops=true)(hi:ops[k]? =some o)(hf:ZhQ ops l k=true)(hy:YX P ops E w o v a)(h:LXE P ops R E (k::l) (a.put o.dst v) w):LXE P ops R E l a w:=by
 unfold ZhQ at hf;simp only[YG,decide_eq_true_eq] at hf;obtain⟨⟨h2,h3⟩,h4⟩:=hf;unfold LXE at*;rw[show ops.size - l.length=(ops.size - (k::l).length)+1 by simp only[YP];omega];exact ZhA hE hi (Region.noSelect_spec hs) _ _ a w (Region.free_spec hi h4) (by simpa using h3) hy h
theorem Zh4(k:Nat){o:Oper}{a:Act}{w:World}(hi:ops[k]? =some o)(hb:(decide (l.length<ops.size)&&Region.ready .any ops (mark ops.size l)==[k])=true)(hw:Region.wanted o (yielded ops a.tmps)=true)
 (h:o.wp P a w (fun a' W'=>E w W'/\LXE P ops R E (k::l) a' W') FQ):LXE P ops R E l a w:=by
 simp only[YG,decide_eq_true_eq,beq_iff_eq] at hb;unfold LXE at*;rw[show ops.size - l.length=(ops.size - (k::l).length)+1 by simp only[YP];omega];refine⟨fun h0=>(by rw[h0] at hb;cases hb.2),fun i hi'=> ?_⟩;rw[hb.2] at hi';obtain rfl:i=k:=by simpa using hi'
 unfold wpOp;simp only[hi,hw,if_true];exact .inl h
theorem Zir(k j:Nat){o q:Oper}{a:Act}{w:World}(hi:ops[k]? =some o)(hj:ops[j]? =some q)(hb:(decide (l.length<ops.size)&&Region.ready .any ops (mark ops.size l)==[k,j])=true)(hw:Region.wanted o (yielded ops a.tmps)=true)(E4:Region.wanted q (yielded ops a.tmps)=true)
 (h:o.wp P a w (fun a' W'=>E w W'/\LXE P ops R E (k::l) a' W') FQ)(h2:q.wp P a w (fun a' W'=>E w W'/\LXE P ops R E (j::l) a' W') FQ):LXE P ops R E l a w:=by
 simp only[YG,decide_eq_true_eq,beq_iff_eq] at hb;unfold LXE at*;rw[show ops.size - l.length=(ops.size - (k::l).length)+1 by simp only[YP];omega];refine⟨fun h0=>(by rw[h0] at hb;cases hb.2),fun i hi'=> ?_⟩;rw[hb.2] at hi';rcases List.mem_cons.1 hi' with rfl|hi'
 ·unfold wpOp;simp only[hi,hw,if_true];exact .inl h
 ·obtain rfl:i=j:=by simpa using hi'
  unfold wpOp;simp only[hj,E4,if_true];exact .inl h2
theorem ZhF{a:Act}{w:World}(hk:(ops.size==l.length&&(Region.ready .any ops (mark ops.size l)).isEmpty)=true)(h:R .normal a w):LXE P ops R E l a w:=by
 rw[YG,beq_iff_eq,List.isEmpty_iff] at hk;unfold LXE;rw[show ops.size - l.length=0 by omega];exact⟨hk.2,h⟩
theorem ZhU{o:Oper}(ho:ZeC o=true){a:Act}{C:World->Prop}{W:World}{v:Value}(h3:o.quietAt P a C W v):YVX P o a W v:=by
 unfold Oper.quietAt at h3;unfold YVX;cases hr:(execOp a.eval o).run P W with
 |ok n w'=>
  rw[hr] at h3;cases n<;>simp only[Oper.quietUpon] at h3
  case value u=>exact⟨h3.2,h3.1⟩
  case skip=>exact⟨h3.2,h3.1⟩
  case enter f args=>exact(ZeK ho hr).elim
 |halt x w'=>rw[hr] at h3;simp only[Oper.quietUpon] at h3
def Zhu(ops:Array Oper):List Nat->List Nat->Bool
 |[],_=>true
 |k::ks,l=>ZhQ ops l k&&(match ops[k]? with|some o=>ZeC o|none=>false)&&Zhu ops ks (k::l)
theorem ZhN(hE:Pre E){w:World}(hs:Region.noSelect ops=true):∀(ks l:List Nat)(a:Act),Zhu ops ks l=true->wpQuiet P ops (fun w'=>∃p:GrE E w,w'=p.W) (fun a'=>LXE P ops R E (doneL ks l) a' w) (ZeD ops.toList ks) a->LXE P ops R E l a w:=by
 intro ks
 induction ks with
 |nil=>intro l a _ h;exact h
 |cons k ks ih=>
  intro l a hp h;simp only[Zhu,YG] at hp;obtain⟨⟨hf,ho⟩,hp⟩:=hp;cases hi:ops[k]? with
  |none=>rw[hi] at ho;cases ho
  |some o=>
   rw[hi] at ho;rw[ZeD,show ops.toList[k]? =some o by rw[Array.getElem?_toList];exact hi] at h;have hq:qOp P ops (fun w'=>∃p:GrE E w,w'=p.W) k (wpQuiet P ops (fun w'=>∃p:GrE E w,w'=p.W) (fun a'=>LXE P ops R E (doneL (k::ks) l) a' w) (ZeD ops.toList ks)) a:=by
    unfold qOp;simp only[hi];exact h
   obtain⟨v,hy,hK⟩:=yieldsIn_of_qOp hi hq;exact ZhR hE hs hi hf (hy.imp (fun h=>⟨h.1,fun W hW=>ZhU ho (h.2 W ⟨⟨W,hW⟩,rfl⟩)⟩) id) (ih _ _ hp hK)
theorem Zh8(hE:Pre E){o:List Oper}(ks:List Nat){a:Act}{w:World}(hs:Region.noSelect o.toArray=true)(hp:Zhu o.toArray ks l=true)(h:wpQuiet P o.toArray (fun w'=>∃p:GrE E w,w'=p.W) (fun a'=>LXE P o.toArray R E (doneL ks l) a' w) (ZeD o ks) a):LXE P o.toArray R E l a w:=
 ZhN hE hs ks l a hp h
theorem Zhk(E:World->World->Prop){id:Nat}{a:Act}{w:World}(hm:P.follows .mixedOrders=true)(h:LXE P ops R E [] a w.drew):(Code.region id ops true).wp P R a w:=by
 unfold LXE at h;exact wp_region_any hm (wpAny_of_X _ _ _ _ h)
theorem Zie{o:Oper}{a:Act}{W:World}{K:Act->World->Prop}(h:∃W',(execOp a.eval o).run P W= .ok .skip W'/\K (a.put o.dst undef) W'):o.wp P a W K FQ:=by
 obtain⟨W',hr,h⟩:=h;unfold Oper.wp;rw[hr];simp only[Oper.upon];exact h
end
end Go.Nk
namespace Go.Proofs.Tryq
open Go Go.Nk Go.RowKit
theorem Zhv{X:Nat->Prop}{w w':World}{ow:Option Nat}(h:w.grownBy w' ow)(hX:∀k,ow=some k->X k):ExtX X w w':=
 ⟨h.size,fun b hb hn=>h.block b hb (fun e=>hn (hX b e.symm)),h.tape,h.os,h.output⟩
end Go.Proofs.Tryq
end
