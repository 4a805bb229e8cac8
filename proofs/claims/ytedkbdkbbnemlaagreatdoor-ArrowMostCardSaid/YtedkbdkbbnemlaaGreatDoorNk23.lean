import Derived.Test.YtedkbdkbbnemlaaGreatDoorNk22
import Derived.Laws.NewBlocks
set_option linter.all false
namespace Go.Proofs.Tryq
set_option maxRecDepth 100000
set_option maxHeartbeats 8000000
open Go Go.Nk Go.RowKit
structure Ctb(a b c m:Int)(base:Option Addr)(n cap:Nat)(T:List (List Int))(B sb nb yb fb kb yk:Nat)(W:World):Prop where
 hs:W.heap[sb]? =some (.cells #[.int .i64 a,.int .i64 b,.int .i64 c,.int .i64 m,.slice base n cap] 120)
 hnb:W.heap[nb]? =some (.cells #[.map (some kb)] 183)
 hyb:W.heap[yb]? =some (.cells #[.map (some yk)] 182)
 hfn:W.heap[fb]? =some (.cells #[.func (.func 145) #[] #[.pointer (some ⟨sb,0,none⟩),.pointer (some ⟨nb,0,none⟩),.pointer (some ⟨yb,0,none⟩),.pointer (some ⟨fb,0,none⟩)]] 184)
 rows:∃G,MapAt prog 3 W yk G/\∀i:Nat,i<n->Shr B W ((G (.int .i64 i)).getD (.slice none 0 0)) (byL T i)
 ne:sb≠kb/\nb≠kb/\yb≠kb/\fb≠kb/\yk≠kb
 sz:B<=W.heap.size
theorem Ctb.step{a b c m:Int}{base:Option Addr}{n cap:Nat}{T:List (List Int)}{B sb nb yb fb kb yk:Nat}{W W':World}(h:Ctb a b c m base n cap T B sb nb yb fb kb yk W)(hX:Map1 kb W W'){es:Array MapEntry}{ck:Nat}(hk:W.heap[kb]? =some (.map es ck)):Ctb a b c m base n cap T B sb nb yb fb kb yk W':=by
 obtain⟨G,hG,hr⟩:=h.rows
 exact⟨(hX.block _ (Z5 h.hs) h.ne.1).trans h.hs,(hX.block _ (Z5 h.hnb) h.ne.2.1).trans h.hnb,(hX.block _ (Z5 h.hyb) h.ne.2.2.1).trans h.hyb,(hX.block _ (Z5 h.hfn) h.ne.2.2.2.1).trans h.hfn,
  ⟨G,hG.keep (hX.block _ hG.lt h.ne.2.2.2.2),fun i hi=>(hr i hi).map1 hX hk⟩,h.ne,Nat.le_trans h.sz hX.size⟩
theorem Z2B{kb:Nat}(w:World)(o:Obj):Map1 kb w (Go.ChangeMaps.setBlock w kb o):=
 ⟨rfl,rfl,rfl,by rw[Z2s];exact Nat.le_refl _,fun k _ hn=>Z0O hn o⟩
open Classical in
theorem Known.update{T:List (List Int)}{n B kb:Nat}{w:World}{G:Value->Option Value}(hT:Z62 T)(K4:∀l∈T,(∀p∈l,0<=p/\p<(n:Int))/\l.length<=9)(hn:n<=9)(h:Known T n B kb w G)(key:Nat->Bool)(V:Value)(hV:Shr B w V (Zk T n 0 key)):
 ∃o G',(Instr.mapUpdate 183 (.map (some kb)) (.agg (Zs key)) V).run prog w= .ok () (Go.ChangeMaps.setBlock w kb o)/\Known T n B kb (Go.ChangeMaps.setBlock w kb o) G':=by
 obtain⟨kl,Dj⟩:=Z4k key;obtain⟨es,ck,Fk⟩:=h.isMap;obtain⟨o,h1,h2⟩:=h.map.update K138 u183 Dj V;refine⟨o,_,h1,h2,fun key' v hv=> ?_⟩;split at hv
 ·rename_i he;cases hv;have hk:Zs key'=Zs key:=by simpa using he
  rw[Z1W (N:=n) hT (fun l hl p hp=>((K4 l hl).1 p hp).2) n 0 key' key (fun j _ hj=>ZbV hk j (by omega))];exact hV.map1 (Z2B w o) Fk
 ·exact(h.val key' v hv).map1 (Z2B w o) Fk
theorem Z3N{B:Nat}{w:World}:∀{vs:List Value}{ls:List (List Int)},Each (fun u s=>OwnI B w u s) vs ls->∀u∈vs,u.oneCell'=true
 |[],_,_,u,hu=>by cases hu
 |v::vs,[],h,u,hu=>h.elim
 |v::vs,l::ls,⟨h1,h2⟩,u,hu=>by
  rcases List.mem_cons.1 hu with rfl|hu
  ·rcases h1.2 with⟨rfl,_⟩|⟨g,cp,_,rfl,_⟩<;>rfl
  ·exact Z3N h2 u hu
theorem Z2C(T:List (List Int)):∀(d i:Nat)(u:Nat->Bool),(Zk T d i u).length<=d
 |0,_,_=>by simp[Zk]
 |d+1,i,u=>by
  have hb:∀a b:List (List Int),a.length<=d+1->b.length<=d+1->(Z0q a b).length<=d+1:=fun a b h h'=>by unfold Z0q;split<;>assumption
  have hf:∀(B m:List (List Int)),m.length<=d+1->(B.foldl (ZL u (Zk T d (i+1))) m).length<=d+1:=by
   intro B
   induction B with
   |nil=>exact fun m h=>h
   |cons l B ih=>
    intro m h;rw[List.foldl_cons];refine ih _ ?_;unfold ZL;split
    ·exact h
    ·exact hb _ _ h (by rw[List.length_cons];have:=Z2C T d (i+1) (by assumption);omega)
  rw[Zk];exact hb _ _ (hf _ _ (by simp)) (by have:=Z2C T d (i+1) u;omega)
theorem Z8B(a b c m:Int)(base:Option Addr)(n cap:Nat)(T:List (List Int))(B sb nb yb fb kb yk:Nat)(hn:n<=9)(hT:Z62 T)(Yk:T.length<=1000000)(K4:∀l∈T,(∀p∈l,0<=p/\p<n)/\l.length<=9):
 ∀(d i0:Nat)(used:Nat->Bool)(W:World)(G:Value->Option Value),i0+d=n->Ctb a b c m base n cap T B sb nb yb fb kb yk W->Known T n B kb W G->
 Calls prog 145 #[.int .i64 i0,.agg (Zs used),.pointer (some ⟨sb,0,none⟩),.pointer (some ⟨nb,0,none⟩),.pointer (some ⟨yb,0,none⟩),.pointer (some ⟨fb,0,none⟩)] W fun e W'=>∃v G',e= .returned v/\Shr B W' v (Zk T d i0 used)/\Known T n B kb W' G'/\Map1 kb W W':=by
 intro d
 induction d with
 |zero=>
  intro i0 used W G hd hC hK;have hi:i0=n:=by omega
  subst hi;have s4:=Z0 hC.hs 4;simp only[List.getElem?_toArray,List.getElem?_cons_zero,List.getElem?_cons_succ] at s4;have A3:=Z5 hC.hs;generalize Cj:Zs used=no;have Yj:no.size=9:=by rw[<-Cj];rfl
  go_enter func145,ntmps145;go_wp2;refine wp_scope_straight ?_;go_wp2;rw[Exit.noGoto_ret];refine bodyPost_ret (results_tmp rfl _ _ _) rfl ?_;exact⟨_,G,rfl,Shr.nil _ _,hK.ext ((Ext.rfl' W).alloc _),Map1.of_ext ((Ext.rfl' W).alloc _)⟩
 |succ d ih=>
  intro i0 used W G hd hC hK;have s4:=Z0 hC.hs 4;simp only[List.getElem?_toArray,List.getElem?_cons_zero,List.getElem?_cons_succ] at s4;have A3:=Z5 hC.hs;have Ao:((i0:Int)==(n:Int))=false:=by simp;omega
  simp only[Zs];go_enter func145,ntmps145;go_wp2;refine wp_scope_straight ?_;go_wp2;have Bv:Ext W ((W.alloc (.cells (Zs used) 138)).alloc (.cells (Zs used) 138)):=((Ext.rfl' W).alloc _).alloc _;have Cl:((W.alloc (.cells (Zs used) 138)).alloc (.cells (Zs used) 138)).heap[W.heap.size]? =some (.cells (Zs used) 138):=by simp only[Z3,Z2];rw[if_neg (by omega),if_pos trivial]
  have Ri:((W.alloc (.cells (Zs used) 138)).alloc (.cells (Zs used) 138)).heap[W.heap.size+1]? =some (.cells (Zs (Z51 0 used)) 138):=by
   simp only[Z3,Z2];rw[if_pos trivial];rw[Z1o (out:=Z51 0 used) (out':=used) (fun j _=>by simp[Z51])]
  simp only[Zs] at Bv Cl Ri;generalize (W.alloc _).alloc _=W1 at Bv Cl Ri⊢;have hi9:i0<9:=by omega
  go_loopw [10,27] (fun _ v27 wr=>∃i:Nat,i<=i0/\v27= .int .i64 i/\Ext W wr/\wr.heap[W.heap.size]? =some (.cells (Zs used) 138)/\wr.heap[W.heap.size+1]? =some (.cells (Zs (Z51 i used)) 138)) (fun _ v27 _=>i0 - (intOf v27).toNat)
  case atStart=>exact⟨0,Nat.zero_le _,rfl,Bv,Cl,Ri⟩
  case round=>
   obtain⟨i,hi,rfl,hE,h0,h1⟩:=hrel;clear Bv Cl Ri;by_cases hii:i=i0
   ·subst hii;have Sz:=hK.ext hE;obtain⟨kl,Dj⟩:=Z4k (Z51 i used);have Gb:=Sz.map.lookup K138 u183 (Zap wr) Dj true;have Ey:Zk T (d+1) i used=Zk T n 0 (Z51 i used):=(by rw[Zao (N:=n) hT (fun l hl p hp=>((K4 l hl).1 p hp).2),hd]);have Qk:=(Map1.of_ext (kb:=kb) hE).block nb (Z5 hC.hnb) hC.ne.2.1;have n0:=Z0 (Qk.trans hC.hnb) 0;simp only[List.getElem?_toArray,List.getElem?_cons_zero] at n0;have y0:=Z0 h1 0;have y1:=Z0 h1 1;have y2:=Z0 h1 2;have y3:=Z0 h1 3;have y4:=Z0 h1 4;have y5:=Z0 h1 5;have y6:=Z0 h1 6;have y7:=Z0 h1 7;have y8:=Z0 h1 8;simp only[Zs,List.getElem?_toArray,List.getElem?_cons_zero,List.getElem?_cons_succ] at y0 y1 y2 y3 y4 y5 y6 y7 y8 Gb;cases hG:G (.agg (Zs (Z51 i used))) with
    |some v=>
     have hv:=Sz.val _ v hG;simp only[Zs] at hG;rw[hG] at Gb;simp only[if_true,Option.getD_some,Option.isSome_some] at Gb;go_wp2;rw[Exit.noGoto_ret];refine bodyPost_ret (results_tmp rfl _ _ _) rfl ?_;exact⟨v,G,rfl,by rw[Ey];exact hv,Sz,Map1.of_ext hE⟩
    |none=>
     have hGn:G (.agg (Zs (Z51 i used)))=none:=hG;simp only[Zs] at hG;rw[hG] at Gb;simp only[if_true,Option.getD_none,Option.isSome_none] at Gb;obtain⟨es,ck,Fk⟩:=hK.isMap;have Gt:=hC.step (Map1.of_ext hE) Fk;obtain⟨Gy,hGy,Bp⟩:=Gt.rows;obtain⟨kl3,Yl⟩:=Z3M i (by omega);have On:=hGy.lookup K3 u182 (Zap wr) Yl false;have An:=Bp i (by omega);simp only[if_neg (show¬(false=true) by decide)] at On;generalize (Gy (.int .i64 i)).getD (.slice none 0 0)=rv at On An;obtain⟨ao,cp,rfl⟩:=An.form;have x0:=Z0 Gt.hyb 0;simp only[List.getElem?_toArray,List.getElem?_cons_zero] at x0;clear hGy Bp;go_wp2;refine wp_label ?_;go_wp2;have hmax:(byL T i).length<=1000000:=Nat.le_trans (List.length_filter_le _ _) Yk;obtain⟨wo,rfl⟩:∃wo:World,wo=wr:=⟨_,rfl⟩;clear y0 y1 y2 y3 y4 y5 y6 y7 y8 Gb On n0 x0;go_loopw [13,45] (fun v13 v45 w2=>∃(j:Nat)(G':Value->Option Value),j<=(byL T i).length/\v45= .int .i64 j/\Shr B w2 v13 (((byL T i).take j).foldl (ZL used (Zk T d (i+1))) [])/\Known T n B kb w2 G'/\Map1 kb wo w2) (fun _ v45 _=>(byL T i).length - (intOf v45).toNat)
     case atStart=>exact⟨0,G,Nat.zero_le _,rfl,Shr.nil _ _,Sz,Map1.refl _ _⟩
     case round=>
      obtain⟨j,G',hj,rfl,Ib,Ql,Cu⟩:=hrel;obtain⟨es2,ck2,Oo⟩:=Sz.isMap;have Dj:=hK.map.lt;have T0:=Gt.step Cu Oo;have z0:=Z0 T0.hfn 0;simp only[List.getElem?_toArray,List.getElem?_cons_zero] at z0;have Q8:=Z5 h0;have h7:wr.heap[W.heap.size]? =some (.cells (Zs used) 138):=(Cu.block _ Q8 (by omega)).trans h0;have y0:=Z0 h7 0;have y1:=Z0 h7 1;have y2:=Z0 h7 2;have y3:=Z0 h7 3;have y4:=Z0 h7 4;have y5:=Z0 h7 5;have y6:=Z0 h7 6;have y7:=Z0 h7 7;have y8:=Z0 h7 8;simp only[Zs,List.getElem?_toArray,List.getElem?_cons_zero,List.getElem?_cons_succ] at y0 y1 y2 y3 y4 y5 y6 y7 y8;obtain⟨a13,c13,rfl⟩:=Ib.form;by_cases H1:j=(byL T i).length
      ·have Oq:Shr B wr (.slice a13 ((byL T i).foldl (ZL used (Zk T d (i+1))) []).length c13) ((byL T i).foldl (ZL used (Zk T d (i+1))) []):=(by rw[H1,List.take_length] at Ib;exact Ib);have B4:=ih (i+1) used wr G' (by omega) T0 Ql;have Fa:Zk T (d+1) i used=Z0q ((byL T i).foldl (ZL used (Zk T d (i+1))) []) (Zk T d (i+1) used):=rfl;rw[show((i+1:Nat):Int)=(i:Int)+1 from rfl] at B4;simp only[Zs] at B4;subst H1;rw[List.take_length];clear Ib;generalize (byL T i).foldl (ZL used (Zk T d (i+1))) []=M at Oq Fa⊢;generalize Zk T d (i+1) used=M2 at B4 Fa;by_cases Bu:M.length<M2.length
       ·have Dx:=fun a3 c3 w=>Z1V a13 M.length c13 a3 M2.length c3 w
        simp only[if_pos Bu] at Dx
        go_wp2_with (first
         |(go_at_call 145;refine B4.mono ?_;rintro e w3 ⟨v3,G3,rfl,F4,T1,K5⟩
           obtain⟨a3,c3,rfl⟩:=F4.form;obtain⟨es3,ck3,J6⟩:=Ql.isMap;have Qi:=T0.step K5 J6;have T2:=Oq.map1 K5 J6;have n3:=Z0 Qi.hnb 0;have F5:w3.heap[W.heap.size+1]? =some (.cells (Zs (Z51 i used)) 138):=(K5.block _ (by have:=Cu.size;have:=Z5 h1;omega) (by omega)).trans ((Cu.block _ (Z5 h1) (by omega)).trans h1);have y0:=Z0 F5 0;have y1:=Z0 F5 1;have y2:=Z0 F5 2;have y3:=Z0 F5 3;have y4:=Z0 F5 4;have y5:=Z0 F5 5;have y6:=Z0 F5 6;have y7:=Z0 F5 7;have y8:=Z0 F5 8;simp only[Zs,List.getElem?_toArray,List.getElem?_cons_zero,List.getElem?_cons_succ] at y0 y1 y2 y3 y4 y5 y6 y7 y8 n3;obtain⟨o,G4,El,Ym⟩:=T1.update hT K4 hn (Z51 i used) (.slice a3 M2.length c3) (by rw[<-Ey,Fa];simp only[Z0q,if_pos Bu];assumption);have T3:=Z2B (kb:=kb) w3 o;simp only[Zs] at El)
         |(go_at_call 146;refine(Dx _ _ _).mono ?_;rintro e w4 ⟨rfl,Mk⟩;subst Mk))
        obtain⟨es4,ck4,Or⟩:=T1.isMap;rw[Exit.noGoto_ret];refine bodyPost_ret (results_tmp rfl _ _ _) rfl ?_;exact⟨_,G4,rfl,by rw[Fa];simp only[Z0q,if_pos Bu];exact F4.map1 T3 Or,Ym,((Map1.of_ext hE).trans Cu).trans (K5.trans T3)⟩
       ·have Dx:=fun a3 c3 w=>Z1V a13 M.length c13 a3 M2.length c3 w
        simp only[if_neg Bu] at Dx
        go_wp2_with (first
         |(go_at_call 145;refine B4.mono ?_;rintro e w3 ⟨v3,G3,rfl,F4,T1,K5⟩
           obtain⟨a3,c3,rfl⟩:=F4.form;obtain⟨es3,ck3,J6⟩:=Ql.isMap;have Qi:=T0.step K5 J6;have T2:=Oq.map1 K5 J6;have n3:=Z0 Qi.hnb 0;have F5:w3.heap[W.heap.size+1]? =some (.cells (Zs (Z51 i used)) 138):=(K5.block _ (by have:=Cu.size;have:=Z5 h1;omega) (by omega)).trans ((Cu.block _ (Z5 h1) (by omega)).trans h1);have y0:=Z0 F5 0;have y1:=Z0 F5 1;have y2:=Z0 F5 2;have y3:=Z0 F5 3;have y4:=Z0 F5 4;have y5:=Z0 F5 5;have y6:=Z0 F5 6;have y7:=Z0 F5 7;have y8:=Z0 F5 8;simp only[Zs,List.getElem?_toArray,List.getElem?_cons_zero,List.getElem?_cons_succ] at y0 y1 y2 y3 y4 y5 y6 y7 y8 n3;obtain⟨o,G4,El,Ym⟩:=T1.update hT K4 hn (Z51 i used) (.slice a13 M.length c13) (by rw[<-Ey,Fa];simp only[Z0q,if_neg Bu];assumption);have T3:=Z2B (kb:=kb) w3 o;simp only[Zs] at El)
         |(go_at_call 146;refine(Dx _ _ _).mono ?_;rintro e w4 ⟨rfl,Mk⟩;subst Mk))
        obtain⟨es4,ck4,Or⟩:=T1.isMap;rw[Exit.noGoto_ret];refine bodyPost_ret (results_tmp rfl _ _ _) rfl ?_;exact⟨_,G4,rfl,by rw[Fa];simp only[Z0q,if_neg Bu];exact T2.map1 T3 Or,Ym,((Map1.of_ext hE).trans Cu).trans (K5.trans T3)⟩
      ·have Cq:j<(byL T i).length:=(by omega);obtain⟨_,vs,T4,Ic⟩:=An.map1 Cu Oo;obtain⟨l,hl⟩:∃l,(byL T i)[j]? =some l:=⟨_,List.getElem?_eq_getElem Cq⟩;obtain⟨u,hu,E3⟩:=Ic.get j l hl;have Qh:=List.mem_of_getElem? hl;obtain⟨Fc,tl,T5⟩:=Z6Q hT Qh;have W0:=K4 l (List.mem_filter.1 Qh).1;obtain⟨gr,cr,T6,T7,Kr⟩:=T4.form (by rw[Ic.length];omega);obtain⟨rfl,Ks,rfl⟩:ao=some ⟨gr,0,none⟩/\(byL T i).length=vs.length/\cp=cr:=(by simpa using T6);have Id:=T4.cells (g:=gr) rfl j u hu;rw[Z0c] at Id;obtain⟨gl,cl,rfl,T8,J7⟩:=E3.form (by rw[T5];simp);have Ot:((byL T i).take (j+1)).foldl (ZL used (Zk T d (i+1))) []=ZL used (Zk T d (i+1)) (((byL T i).take j).foldl (ZL used (Zk T d (i+1))) []) l:=(by rw[Z0G hl,List.foldl_append];rfl);clear T5;have Vn:(0:Int)<=(j:Int):=(by omega);have hjL:(j:Int)<((byL T i).length:Int):=(by omega);go_wp2;have B8:Ext wr (wr.alloc (.cells (Zs used) 138)):=(Ext.rfl' wr).alloc _;have h5:(wr.alloc (.cells (Zs used) 138)).heap[wr.heap.size]? =some (.cells (Zs used) 138):=(by rw[Z3,if_pos rfl]);simp only[Zs] at B8;have h5':(wr.alloc (.cells #[.bool (used 0),.bool (used 1),.bool (used 2),.bool (used 3),.bool (used 4),.bool (used 5),.bool (used 6),.bool (used 7),.bool (used 8)] 138)).heap[wr.heap.size]? =some (.cells (Zs used) 138):=h5
       clear h5 y0 y1 y2 y3 y4 y5 y6 y7 y8;generalize wr.alloc _=w6 at B8 h5'⊢;obtain⟨wq,rfl⟩:∃wq:World,wq=wr:=⟨_,rfl⟩;go_loopw [52] (fun v52 w3=>∃(k:Nat)(u':Nat->Bool),k<=l.length/\v52= .int .i64 k/\Ext wq w3/\w3.heap[wq.heap.size]? =some (.cells (Zs u') 138)/\Hid (take1 used l=take1 u' (l.drop k))) (fun v52 _=>l.length - (intOf v52).toNat)
       case atStart=>exact⟨0,used,Nat.zero_le _,rfl,B8,h5',rfl⟩
       case round=>
        obtain⟨k,u',hk,rfl,C8,h6,Ou⟩:=hrel;by_cases Yn:k=l.length
        ·subst Yn;have T9:take1 used l=some u':=(by rw[Ou.out,List.drop_length];rfl);have Qm:=T0.step (Map1.of_ext C8) (Ql.isMap).choose_spec.choose_spec;have Qn:=Ql.ext C8;have z6:=Z0 Qm.hfn 0;simp only[List.getElem?_toArray,List.getElem?_cons_zero] at z6;have y0:=Z0 h6 0;have y1:=Z0 h6 1;have y2:=Z0 h6 2;have y3:=Z0 h6 3;have y4:=Z0 h6 4;have y5:=Z0 h6 5;have y6:=Z0 h6 6;have y7:=Z0 h6 7;have y8:=Z0 h6 8;simp only[Zs,List.getElem?_toArray,List.getElem?_cons_zero,List.getElem?_cons_succ] at y0 y1 y2 y3 y4 y5 y6 y7 y8;have ho6:=E3.ext C8;have Ta:=Ib.ext C8;have hfbl:fb<wr.heap.size:=Z5 Qm.hfn;have hwql:wq.heap.size<wr.heap.size:=Z5 h6;have Kt:ZL used (Zk T d (i+1)) (((byL T i).take j).foldl (ZL used (Zk T d (i+1))) []) l=Z0q (((byL T i).take j).foldl (ZL used (Zk T d (i+1))) []) (l::Zk T d (i+1) u'):=(by simp only[ZL,T9]);have Tb:∀W8,Ext wr W8->_:=fun W8 Qo=>ih (i+1) u' W8 G' (by omega) (Qm.step (Map1.of_ext Qo) (Qn.isMap).choose_spec.choose_spec) (Qn.ext Qo)
         have Ml:=Z6s wr B 27 #[.slice (some ⟨gl,0,none⟩) l.length cl] 1 wr.heap.size rfl Qm.sz rfl (by simp[maxLen]);rw[show((i+1:Nat):Int)=(i:Int)+1 from rfl] at Tb;simp only[Zs] at Tb;generalize ((byL T i).take j).foldl (ZL used (Zk T d (i+1))) []=Mp at Ta Kt Ot⊢;have Gu:(Zk T d (i+1) u').length<=1000000:=Nat.le_trans (Z2C T d (i+1) u') (by omega);generalize Zk T d (i+1) u'=M9 at Tb Kt Gu;by_cases Bu:Mp.length<M9.length+1
         ·have Dx:=fun a3 c3 w=>Z1V a13 Mp.length c13 a3 (M9.length+1) c3 w
          simp only[if_pos Bu] at Dx
          go_wp2_with (first
           |(go_at_call 145;refine(Tb _ (by(repeat (with_reducible first|assumption|exact Ext.rfl' _|apply Ext.alloc|apply Ext.drew)))).mono ?_;rintro e w9 ⟨v9,G9,rfl,Tc,Yo,Ku⟩
             obtain⟨a9,c9,rfl⟩:=Tc.form;obtain⟨J8,vs9,Td,Qp⟩:=Tc;have Kv:=Qp.length;have J9:=Z2R (Ml:(wr.alloc (.cells #[.slice (some ⟨gl,0,none⟩) l.length cl] 27)).ownsRow B 27 1 _ 1 _) Ku (Qn.ext ((Ext.rfl' wr).alloc (.cells #[.slice (some ⟨gl,0,none⟩) l.length cl] 27))).isMap.choose_spec.choose_spec)
           |(at_builtin
             refine Z1p rfl _ _ rfl B wr.heap.size _ rfl J9 (.slice a9 M9.length c9) M9.length vs9 rfl (by rw[<-Kv];exact Kv▸Td) (fun h=>J8 (List.eq_nil_of_length_eq_zero h)) (Z3N Qp) Gu (Nat.le_trans Qm.sz (Nat.le_trans (by simp) Ku.size)) ?_;intro g' cap' w10 h10 E9)
           |(go_at_call 146;refine(Dx _ _ _).mono ?_;rintro e w4 ⟨rfl,Mk⟩;subst Mk))
          have Ja:Map1 kb wr w4:=((Map1.of_ext ((Ext.rfl' wr).alloc (.cells #[.slice (some ⟨gl,0,none⟩) l.length cl] 27))).trans Ku).trans (Map1.of_ext E9);have Gj:=Qn.isMap.choose_spec.choose_spec;rw[Ks];refine⟨⟨_,_,_,_,_,_,_,_,_,_,_,_,_,_,_,_,_,_,_,_,_,_,_,_,_,_,_,_,_,_,_,_,⟨j+1,G9,by omega,by push_cast;rfl,?_,Yo.ext E9,(Cu.trans (Map1.of_ext C8)).trans Ja⟩,rfl⟩,by simp[intOf];omega⟩;rw[Ot,Kt,Z0q,if_pos (by simpa using Bu)];exact⟨fun h=>(by cases h),_::vs9,by rw[List.length_cons,Kv];exact h10,Z2R ho6 Ja Gj,Qp.mono fun u s h=>Z00 h E9⟩
         ·have Dx:=fun a3 c3 w=>Z1V a13 Mp.length c13 a3 (M9.length+1) c3 w
          simp only[if_neg Bu] at Dx
          go_wp2_with (first
           |(go_at_call 145;refine(Tb _ (by(repeat (with_reducible first|assumption|exact Ext.rfl' _|apply Ext.alloc|apply Ext.drew)))).mono ?_;rintro e w9 ⟨v9,G9,rfl,Tc,Yo,Ku⟩
             obtain⟨a9,c9,rfl⟩:=Tc.form;obtain⟨J8,vs9,Td,Qp⟩:=Tc;have Kv:=Qp.length;have J9:=Z2R (Ml:(wr.alloc (.cells #[.slice (some ⟨gl,0,none⟩) l.length cl] 27)).ownsRow B 27 1 _ 1 _) Ku (Qn.ext ((Ext.rfl' wr).alloc (.cells #[.slice (some ⟨gl,0,none⟩) l.length cl] 27))).isMap.choose_spec.choose_spec)
           |(at_builtin
             refine Z1p rfl _ _ rfl B wr.heap.size _ rfl J9 (.slice a9 M9.length c9) M9.length vs9 rfl (by rw[<-Kv];exact Kv▸Td) (fun h=>J8 (List.eq_nil_of_length_eq_zero h)) (Z3N Qp) Gu (Nat.le_trans Qm.sz (Nat.le_trans (by simp) Ku.size)) ?_;intro g' cap' w10 h10 E9)
           |(go_at_call 146;refine(Dx _ _ _).mono ?_;rintro e w4 ⟨rfl,Mk⟩;subst Mk))
          have Ja:Map1 kb wr w4:=((Map1.of_ext ((Ext.rfl' wr).alloc (.cells #[.slice (some ⟨gl,0,none⟩) l.length cl] 27))).trans Ku).trans (Map1.of_ext E9);have Gj:=Qn.isMap.choose_spec.choose_spec;rw[Ks];refine⟨⟨_,_,_,_,_,_,_,_,_,_,_,_,_,_,_,_,_,_,_,_,_,_,_,_,_,_,_,_,_,_,_,_,⟨j+1,G9,by omega,by push_cast;rfl,?_,Yo.ext E9,(Cu.trans (Map1.of_ext C8)).trans Ja⟩,rfl⟩,by simp[intOf];omega⟩;rw[Ot,Kt,Z0q,if_neg (by simpa using Bu)];exact Ta.map1 Ja Gj
        ·obtain⟨p,hp⟩:∃p,l[k]? =some p:=⟨_,List.getElem?_eq_getElem (by omega)⟩;have Og:=W0.1 p (List.mem_of_getElem? hp);obtain⟨q,rfl⟩:=Int.eq_ofNat_of_zero_le Og.1;have Kw:q<9:=(by omega);have H5:=E3.cells (g:=gl) rfl k (.int .i64 q) (by rw[List.getElem?_map,hp];rfl);rw[Z0c] at H5;replace H5:=C8.cellS H5;have Qq:=Z0 h6 q;rw[Z1u _ q Kw] at Qq;have hfq:=Z8 h6 q;have Kx:(0:Int)<=(k:Int):=(by omega);have hkL:(k:Int)<(l.length:Int):=(by omega);have Rm:(0:Int)<=(q:Int):=(by omega);have Yp:(q:Int)<9:=(by omega);have Nv:=Z0b hp;by_cases W4:u' q=true
         ·rw[W4] at Qq;have Te:take1 used l=none:=(by rw[Ou.out,Nv,take1,if_pos (by simpa using W4)]);go_wp2;refine⟨⟨j+1,G',by omega,by push_cast;rfl,?_,Ql.ext C8,Cu.trans (Map1.of_ext C8)⟩,by simp[intOf];omega⟩;rw[Ot];simp only[ZL,Te];exact Ib.ext C8
         ·have Yq:u' q=false:=(by simpa using W4);rw[Yq] at Qq;have Yr:Hid (take1 used l=take1 (fun j=>u' j||j==q) (l.drop (k+1))):=by
           show _=_;rw[Ou.out,Nv,take1,if_neg (by simpa using W4)];simp
          go_wp2;exact⟨⟨k+1,_,by omega,by push_cast;rfl,C8.setCell _ _ (Nat.le_refl _),by rw[Zb h6,Z52 _ q Kw],Yr⟩,by simp[intOf];omega⟩
   ·have Hl:i<i0:=(by omega);have c1:=Z0 h1 i;rw[Z1u _ i (by omega)] at c1;have f1:=Z8 h1 i;have C7:(0:Int)<=(i:Int):=(by omega);have hi8:(i:Int)<9:=(by omega);have hi7:(i:Int)<(i0:Int):=(by omega);go_wp2;refine⟨⟨i+1,by omega,by push_cast;rfl,hE.setCell _ _ (by simp),(set_ne (by simp) _).trans h0,?_⟩,by simp[intOf];omega⟩;rw[Zb h1,Z52 _ i (by omega)];rw[Z1o (out':=Z51 (i+1) used)];intro j _;simp only[Z51];by_cases hj:j=i
    ·subst hj;simp
    ·have e1:(j==i)=false:=(by simpa using hj);have e2:decide (j<i+1)=decide (j<i):=decide_eq_decide.2 (by omega);rw[e1,e2,Bool.or_false]
end Go.Proofs.Tryq
namespace Go.Nk
open Go Go.Region
open Go.Proofs.Tryq (Ext Z3 Z2)
variable {P:Program} {ops:Array Oper} {Q:Exit->Act->World->Prop}
variable {n:Nat} {Dl:List (Option Tmp)} {S:List (Option Value)} {L0:Tmp->Value} {M:(Nat->Bool)->(Tmp->Value)->World->Prop} {ℓ:Nat->Bool} {a:Act} {w w':World} {i:Nat} {o:Oper}
structure Sx where
 al:Nat
 t:Tmp
 k:Nat
 z:Array Value
 ty:TypeId
variable {w1:World} {B:List Sx} {x:Tmp->Value}
end Go.Nk
namespace Go.Proofs.Tryq
open Go Go.Nk Go.RowKit
open Go.Maps (Keyed)
open Go.ChangeMaps (setBlock)
theorem run_append_keep{P:Program}(w:World)(base:Nat)(t ty e:TypeId)(i:TypeInfo)(z:Value)(size bytes:Nat)(ht:P.underlying t=some (.slice e))(hi:P.info? e=some i)(hz:i.zero=some z)
 (Fw:i.size=size)(Ie:i.bytes=bytes)(W7:z.cells.size=size)(B0:0<size)
 (v:Value)(n:Nat)(xs:List Value)(Ae:w.ownsRow base e size v n xs)
 (a:Addr)(m c:Nat)(news:List Value)(hl:news.length=m*size)(Fx:∀j u,news[j]? =some u->w.cell? (a.add j)=some u)(h1:∀u∈news,u.oneCell'=true)
 (Wa:n+m<=maxLen)(F6:(n+m)*bytes<=140737488355328)(A4:base<=w.heap.size):
 ∃v' w',(Builtin.append_ #[t,t] ty #[v,.slice (some a) m c]).run P w= .ok v' w'/\w'.ownsRow base e size v' (n+m) (xs++news)/\w.grownBy w' v.ownBlock/\
  ((v'.ownBlock=v.ownBlock)\/∀k,v'.ownBlock=some k->w.heap.size<=k):=by
 rcases Ae.2 with⟨rfl,rfl⟩|⟨g,cap,cur,rfl,Yd,hg,Fg,Vo,Af,J0⟩
 ·have hx:xs=[]:=List.eq_nil_of_length_eq_zero (by simpa using Ae.1);subst hx;obtain⟨v',w',r1,r2,r3,_⟩:=run_append_own (P:=P) w w.heap.size t ty e i z size bytes ht hi hz Fw Ie W7 B0 (.slice none 0 0) 0 [] (World.ownsRow_nil _ _ _ _) a m c news hl Fx h1 Wa F6 (Nat.le_refl _);exact⟨v',w',r1,Z05 r2 A4,r3,.inr fun k hk=>(r2.lt k hk).1⟩
 ·by_cases Tf:n+m<=cap
  ·obtain⟨w',r1,r2,r3⟩:=run_append_fits (P:=P) w base t ty e i size ht hi Fw g n cap xs Ae a m c news hl Fx h1 Tf;exact⟨_,w',r1,r2,r3,.inl rfl⟩
  ·obtain⟨v',w',r1,r2,r3⟩:=run_append_arg_grows (P:=P) w t ty e i z size bytes ht hi hz Fw Ie W7 B0 ⟨g,0,none⟩ n cap xs Ae.1 (Ae.cells (g:=g) rfl) a m c news hl Fx (by omega) Wa F6;exact⟨v',w',r1,Z05 r2 A4,⟨r3.os,r3.tape,r3.output,r3.size,fun b hb _=>r3.block b hb (fun e=>by cases e)⟩,.inr fun k hk=>(r2.lt k hk).1⟩
theorem Z3V{P:Program}{w:World}{o:Oper}{a:Act}{K:Act->World->Prop}{Q:Exit->Act->World->Prop}(s x:Operand)(t:TypeId)
 (ho:o.op= .call {callee:= .builtin .append,args:= #[s,x],argTypes:= #[t,t]})
 (base:Nat)(e:TypeId)(i:TypeInfo)(z:Value)(size bytes:Nat)(ht:P.underlying t=some (.slice e))(hi:P.info? e=some i)(hz:i.zero=some z)
 (Fw:i.size=size)(Ie:i.bytes=bytes)(W7:z.cells.size=size)(B0:0<size)
 (v:Value)(n:Nat)(xs:List Value)(hs:a.eval s=v)(Ae:w.ownsRow base e size v n xs)
 (ad:Addr)(m c:Nat)(news:List Value)(hx:a.eval x= .slice (some ad) m c)(hl:news.length=m*size)(Fx:∀j u,news[j]? =some u->w.cell? (ad.add j)=some u)(h1:∀u∈news,u.oneCell'=true)
 (Wa:n+m<=maxLen)(F6:(n+m)*bytes<=140737488355328)(A4:base<=w.heap.size)
 (h:∀v' w',w'.ownsRow base e size v' (n+m) (xs++news)->w.grownBy w' v.ownBlock->((v'.ownBlock=v.ownBlock)\/∀k,v'.ownBlock=some k->w.heap.size<=k)->K (a.put o.dst v') w'):o.wp P a w K Q:=by
 obtain⟨v',w',hr,h2,h3,h4⟩:=run_append_keep (P:=P) w base t o.type e i z size bytes ht hi hz Fw Ie W7 B0 v n xs Ae ad m c news hl Fx h1 Wa F6 A4;unfold Oper.wp execOp;simp only[ho,resolve,invoke,builtin,Sem.run_bind,Sem.run_pure,Result.andThen_ok,List.map_toArray,List.map_cons,List.map_nil,hs,hx,hr];exact h v' w' h2 h3 h4
def ZO(G:Value->Option Value)(i:Nat):Value:=(G (.int .i64 i)).getD (.slice none 0 0)
def ByAt(B B2 n yk:Nat)(D:List (List Int))(w:World):Prop:=
 ∃G:Value->Option Value,MapAt prog 3 w yk G/\(∀i:Nat,i<n->Shr B w (ZO G i) (byL D i))/\(∀i j:Nat,i<n->j<n->i≠j->(ZO G i).ownBlock=none\/(ZO G i).ownBlock≠(ZO G j).ownBlock)/\∀i:Nat,i<n->∀k,(ZO G i).ownBlock=some k->B2<=k
theorem Shr.lt{B:Nat}{w:World}{v:Value}{ls:List (List Int)}(h:Shr B w v ls){k:Nat}(hk:v.ownBlock=some k):B<=k/\k<w.heap.size:=by
 obtain⟨_,vs,h1,_⟩:=h;exact h1.lt k hk
theorem Shr.isCells{B:Nat}{w:World}{v:Value}{ls:List (List Int)}(h:Shr B w v ls){k:Nat}(hk:v.ownBlock=some k):∃c,w.heap[k]? =some (.cells c 27):=by
 obtain⟨_,vs,h1,_⟩:=h;rcases h1.2 with⟨rfl,_⟩|⟨g,cp,cur,rfl,_,hg,_⟩
 ·cases hk
 ·cases hk;exact⟨cur,hg⟩
theorem Shr.grown{B:Nat}{W w:World}{v rv:Value}{ls rs:List (List Int)}(h:Shr B W v ls)(hr:Shr B W rv rs)(hg:W.grownBy w rv.ownBlock)(A8:v.ownBlock=none\/v.ownBlock≠rv.ownBlock):Shr B w v ls:=by
 obtain⟨h0,vs,h1,h2⟩:=h;refine⟨h0,vs,h1.kept hg A8,h2.mono fun u s hu=>hu.kept hg ?_⟩;obtain⟨_,rvs,k1,_⟩:=hr;exact Z4i hu k1 (by decide)
theorem OwnI.grownRow{B:Nat}{W w:World}{u rv:Value}{l:List Int}{rs:List (List Int)}(h:OwnI B W u l)(hr:Shr B W rv rs)(hg:W.grownBy w rv.ownBlock):OwnI B w u l:=by
 obtain⟨_,rvs,k1,_⟩:=hr;exact World.ownsRow.kept h hg (Z4i h k1 (by decide))
theorem ZbW(D:List (List Int))(l:List Int)(i:Nat):byL (D++[l]) i=if l.head? =some (i:Int) then byL D i++[l] else byL D i:=by
 unfold byL;rw[List.filter_append];by_cases h:l.head? =some (i:Int)
 ·rw[if_pos h,List.filter_cons_of_pos (by simpa using h),List.filter_nil]
 ·rw[if_neg h,List.filter_cons_of_neg (by simpa using h),List.filter_nil,List.append_nil]
open Classical in
theorem ByAt.step{B B2 n yk:Nat}{D:List (List Int)}{W:World}{G:Value->Option Value}(hm:MapAt prog 3 W yk G)(Bp:∀i:Nat,i<n->Shr B W (ZO G i) (byL D i))
 (Cm:∀i j:Nat,i<n->j<n->i≠j->(ZO G i).ownBlock=none\/(ZO G i).ownBlock≠(ZO G j).ownBlock)(Au:∀i:Nat,i<n->∀k,(ZO G i).ownBlock=some k->B2<=k)(Oh:B2<=W.heap.size){l:List Int}{i:Nat}(hi:i<n)(hn:n<100)(hl:l.head? =some (i:Int)){u v':Value}{w3:World}{vs:List Value}
 (hu:OwnI B W u l)(Eb:W.ownsRow B 27 1 (ZO G i) vs.length vs)(he:Each (fun u s=>OwnI B W u s) vs (byL D i))
 (Ae:w3.ownsRow B 27 1 v' (vs.length+1) (vs++[u]))(hg:W.grownBy w3 (ZO G i).ownBlock)(Jb:(v'.ownBlock=(ZO G i).ownBlock)\/∀k,v'.ownBlock=some k->W.heap.size<=k):
 ∃o,(Instr.mapUpdate 182 (.map (some yk)) (.int .i64 i) v').run prog w3= .ok () (setBlock w3 yk o)/\ByAt B B2 n yk (D++[l]) (setBlock w3 yk o):=by
 have hyk:∀k,(ZO G i).ownBlock=some k->k≠yk:=by
  rintro k hk rfl;obtain⟨c,hc⟩:=(Bp i hi).isCells hk;obtain⟨es,ck,hb,_⟩:=hm;rw[hb] at hc;cases hc
 have Nt:MapAt prog 3 w3 yk G:=hm.keep (hg.block _ hm.lt (fun e=>hyk _ e.symm rfl));obtain⟨es,ck,Fk,_⟩:=Nt;have Nt:MapAt prog 3 w3 yk G:=hm.keep (hg.block _ hm.lt (fun e=>hyk _ e.symm rfl));obtain⟨kl,Dj⟩:=Z3M i (by omega);obtain⟨o,h1,h2⟩:=Nt.update K3 u182 Dj v';refine⟨o,h1,_,h2,?_,?_,?_⟩
 ·have hX:=Z2B (kb:=yk) w3 o;intro j hj;have An:ZO (fun x=>if x=Value.int .i64 i then some v' else G x) j=if j=i then v' else ZO G j:=by
   unfold ZO;by_cases Ax:j=i
   ·subst Ax;simp
   ·have A8:¬(Value.int .i64 (j:Int)=Value.int .i64 (i:Int)):=(by simp;omega);simp[Ax,A8]
  rw[An,ZbW];by_cases Ax:j=i
  ·subst Ax;rw[if_pos rfl,if_pos hl];have hr:=Bp j hj;refine Shr.map1 (w:=w3) ⟨fun h=>by simp at h,vs++[u],by simpa using Ae,Each.append (he.mono fun u s h=>OwnI.grownRow h hr hg) ⟨OwnI.grownRow hu hr hg,trivial⟩⟩ hX Fk
  ·rw[if_neg Ax,if_neg (by rw[hl];simp;omega)];exact((Bp j hj).grown (Bp i hi) hg (Cm j i hj hi Ax)).map1 hX Fk
 ·have An:∀j:Nat,ZO (fun x=>if x=Value.int .i64 i then some v' else G x) j=if j=i then v' else ZO G j:=by
   intro j;unfold ZO;by_cases Ax:j=i
   ·subst Ax;simp
   ·have A8:¬(Value.int .i64 (j:Int)=Value.int .i64 (i:Int)):=(by simp;omega);simp[Ax,A8]
  intro p q hp hq Ys;rw[An,An];have key:∀j,j<n->j≠i->∀k,(ZO G j).ownBlock=some k->v'.ownBlock≠some k:=by
   intro j hj Ax k hk he;rcases Jb with h|h
   ·rcases Cm j i hj hi Ax with h'|h'
    ·rw[hk] at h';cases h'
    ·rw[hk,<-h,he] at h';exact h' rfl
   ·have:=h k he;have:=((Bp j hj).lt hk).2;omega
  by_cases Rf:p=i
  ·have Gh:q≠i:=fun h=>Ys (Rf.trans h.symm)
   rw[if_pos Rf,if_neg Gh];cases hv:v'.ownBlock with
   |none=>exact .inl rfl
   |some k=>exact .inr fun h=>key q hq Gh k h.symm hv
  ·rw[if_neg Rf];by_cases Gh:q=i
   ·rw[if_pos Gh];cases hv:(ZO G p).ownBlock with
    |none=>exact .inl rfl
    |some k=>exact .inr fun h=>key p hp Rf k hv h.symm
   ·rw[if_neg Gh];exact Cm p q hp hq Ys
 ·intro j hj k;have An:ZO (fun x=>if x=Value.int .i64 i then some v' else G x) j=if j=i then v' else ZO G j:=by
   unfold ZO;by_cases Ax:j=i
   ·subst Ax;simp
   ·have A8:¬(Value.int .i64 (j:Int)=Value.int .i64 (i:Int)):=(by simp;omega);simp[Ax,A8]
  rw[An];by_cases Ax:j=i
  ·rw[if_pos Ax];intro hk;rcases Jb with h|h
   ·exact Au i hi k (by rw[<-h];exact hk)
   ·exact Nat.le_trans Oh (h k hk)
  ·rw[if_neg Ax];exact Au j hj k
end Go.Proofs.Tryq
section
namespace Go.Nk
open Go Go.Region Go.Proofs.Tryq
section
variable {P:Program} {ops:Array Oper} {R:Exit->Act->World->Prop} {t:Nat} {l:List Nat}
variable {i d:Nat} {pre:List Nat} {obj:Obj}
def Zip(a:Act):List (Nat×Value)->Act
 |[]=>a
 |(d,v)::L=>Zip (a.put (some d) v) L
theorem Zia{c:Code}{a:Act}{w:World}{T:Type}(L:T->List (Nat×Value))(F:T->World->Prop)(h:c.wp P (fun e a' w'=>e= .normal/\∃x,a'=Zip a (L x)/\F x w') a w)(k:∀x w',F x w'->R .normal (Zip a (L x)) w'):c.wp P R a w:=
 Go.wp_mono h fun e a' w' ⟨he,x,ha,hF⟩=>by subst he ha;exact k x w' hF
end
end Go.Nk
namespace Go.Proofs.Tryq
open Go Go.Nk Go.RowKit
end Go.Proofs.Tryq
end
section
namespace Go.Nk
open Go Go.Region Go.Proofs.Tryq
structure Pre(E:World->World->Prop):Prop where
 rfl':∀w,E w w
 trans:∀{a b c},E a b->E b c->E a c
 drew:∀w,E w w.drew
structure GrE(E:World->World->Prop)(w:World) where
 W:World
 h:E w W
structure ExtX(X:Nat->Prop)(w w':World):Prop where
 size:w.heap.size<=w'.heap.size
 old:∀b,b<w.heap.size->¬X b->w'.heap[b]? =w.heap[b]?
 tape:w'.tape=w.tape
 os:w'.os=w.os
 output:w'.output=w.output
theorem ExtX.pre(X:Nat->Prop):Pre (ExtX X):=
 ⟨fun w=>⟨Nat.le_refl _,fun _ _ _=>rfl,rfl,rfl,rfl⟩,fun h h'=>⟨Nat.le_trans h.size h'.size,fun b hb hx=>(h'.old b (Nat.lt_of_lt_of_le hb h.size) hx).trans (h.old b hb hx),h'.tape.trans h.tape,h'.os.trans h.os,h'.output.trans h.output⟩,fun w=>⟨Nat.le_refl _,fun _ _ _=>rfl,rfl,rfl,rfl⟩⟩
theorem Ext.toX{w w':World}(h:Ext w w')(X:Nat->Prop):ExtX X w w':=⟨h.size,fun b hb _=>h.old b hb,h.tape,h.os,h.output⟩
theorem ExtX.cellS{X:Nat->Prop}{w w':World}(h:ExtX X w w'){a:Addr}{v:Value}(hx:¬X a.block)(hc:w.cell? a=some v):w'.cell? a=some v:=by
 have A3:a.block<w.heap.size:=by
  unfold World.cell? at hc;split at hc
  ·rename_i hh;exact(Array.getElem?_eq_some_iff.1 hh).1
  ·cases hc
 simp only[World.cell?,h.old _ A3 hx] at*;exact hc
instance (X:Nat->Prop)(w:World):Nonempty (GrE (ExtX X) w):=⟨⟨w,(ExtX.pre X).rfl' w⟩⟩
theorem GrE.cell{X:Nat->Prop}{w:World}{a:Addr}{v:Value}(hx:¬X a.block)(hc:w.cell? a=some v)(p:GrE (ExtX X) w):p.W.cell? a=some v:=p.h.cellS hx hc
section
variable {P:Program} {ops:Array Oper} {R:Exit->Act->World->Prop} {E:World->World->Prop}
def ZhT(P:Program)(ops:Array Oper)(R:Exit->Act->World->Prop)(E:World->World->Prop):Nat->Array Bool->Act->World->Prop
 |0,listed,a,w=>Region.ready .any ops listed=[]/\R .normal a w
 |n+1,listed,a,w=>(Region.ready .any ops listed=[]->R .normal a w)/\∀i∈Region.ready .any ops listed,
   wpOp P ops FQ i (fun a' W'=>E w W'/\ZhT P ops R E n (listed.setIfInBounds i true) a' W') a w
theorem wpAny_of_X:∀(n:Nat)(l:Array Bool)(a:Act)(w:World),ZhT P ops R E n l a w->wpAny P .any ops R n l a w
 |0,_,_,w,h=>h
 |n+1,_,_,w,h=>⟨h.1,fun i hi=>Zf8 noFQ (fun a' w' h'=>wpAny_of_X n _ a' w' h'.2) (h.2 i hi)⟩
def YVX(P:Program)(o:Oper)(a:Act)(W:World)(v:Value):Prop:=match (execOp a.eval o).run P W with
 | .ok (.value u) W'=>u=v/\W'=W
 | .ok .skip W'=>v=undef/\W'=W
 |_=>False
def YX(P:Program)(ops:Array Oper)(E:World->World->Prop)(w:World)(o:Oper)(v:Value)(a:Act):Prop:=
 (Region.wanted o (yielded ops a.tmps)=true/\∀W,E w W->YVX P o a W v)\/(Region.wanted o (yielded ops a.tmps)=false/\v=undef)
theorem YX.ext(hE:Pre E){w W:World}{o:Oper}{v:Value}{a:Act}(h:YX P ops E w o v a)(e:E w W):YX P ops E W o v a:=
 h.imp (fun h=>⟨h.1,fun W' h'=>h.2 W' (hE.trans e h')⟩) id
theorem YX.kept{w:World}{oi oj:Oper}{v u:Value}{a:Act}{d:List Deferred}(Cm:oi.apart ops oj=true)(Xg:∀cs b,oi.op≠.select cs b)(hy:YX P ops E w oi v a):YX P ops E w oi v ({a with defers:=d}.put oj.dst u):=by
 obtain⟨h1,h2,h3⟩:=Oper.apart_spec Cm;have e1:execOp ({a with defers:=d}.put oj.dst u).eval oi=execOp a.eval oi:=execOp_put oi Xg _ oj.dst u h3;have e2:=wanted_put oi ({a with defers:=d}:Act) oj.dst u h3;unfold YX YVX at*;rw[e1,e2];exact hy
theorem YX.wpOp(hE:Pre E){i:Nat}{o:Oper}{v:Value}{a:Act}{w:World}(hi:ops[i]? =some o)(hy:YX P ops E w o v a){K:Act->World->Prop}{R:Exit->Act->World->Prop}(h:K (a.put o.dst v) w):wpOp P ops R i K a w:=by
 unfold Go.wpOp;simp only[hi];rcases hy with⟨hw,hv⟩|⟨hw,rfl⟩
 ·simp only[hw,if_true];refine .inl ?_;have h3:=hv w (hE.rfl' w);unfold YVX at h3;unfold Oper.wp;generalize (execOp a.eval o).run P w=r at*;cases r with
  |ok n w'=>
   cases n<;>simp only at h3<;>simp only[Oper.upon]
   case value u=>obtain⟨rfl,rfl⟩:=h3;exact h
   case skip=>obtain⟨rfl,rfl⟩:=h3;exact h
  |halt x w'=>simp only at h3
 ·simp only[hw,Bool.false_eq_true,if_false];exact h
theorem ZhA(hE:Pre E){i:Nat}{oi:Oper}{v:Value}(hi:ops[i]? =some oi)(D2:∀(j:Nat)(o:Oper) cs b,ops[j]? =some o->o.op≠.select cs b):
 ∀(n:Nat)(listed:Array Bool)(a:Act)(w:World),
  (∀j oj,ops[j]? =some oj->j≠i->listed.getD j true=false->(∀e∈oj.after,Region.binds .any e=true->e.on≠i)->oi.apart ops oj=true)->
  i∈Region.ready .any ops listed->YX P ops E w oi v a->ZhT P ops R E n (listed.setIfInBounds i true) (a.put oi.dst v) w->ZhT P ops R E (n+1) listed a w:=by
 intro n
 induction n with
 |zero=>
  intro listed a w _ hr hy H;refine⟨fun h=>(by rw[h] at hr;cases hr),fun j hj=> ?_⟩;by_cases Ax:j=i
  ·subst Ax;exact hy.wpOp hE hi ⟨hE.rfl' w,H⟩
  ·have:=Go.ready_mono hj Ax;rw[H.1] at this;cases this
 |succ n ih=>
  intro listed a w D7 hr hy H;refine⟨fun h=>(by rw[h] at hr;cases hr),fun j hj=> ?_⟩;by_cases Ax:j=i
  ·subst Ax;exact hy.wpOp hE hi ⟨hE.rfl' w,H⟩
  ·obtain⟨E5,oj,C2,Al⟩:=Go.mem_ready.1 hj;have Cm:=D7 j oj C2 Ax E5 (ZeW (j:=j) (Go.mem_ready.1 hr).1 Al)
   have Eu:∀k ok,ops[k]? =some ok->k≠i->(listed.setIfInBounds j true).getD k true=false->
    (∀e∈ok.after,Region.binds .any e=true->e.on≠i)->oi.apart ops ok=true:=fun k ok hk En K1 Cj=>by
    refine D7 k ok hk En ?_ Cj;by_cases H0:j=k
    ·subst H0;exact E5
    ·rw[getD_set_ne true H0] at K1;exact K1
   have h1:=H.2 j (Go.ready_mono hj Ax);refine wpOp_mono (fun a' w' h3=> ?_) (ZeV C2 Cm (fun cs b=>D2 j oj cs b C2) h1);obtain⟨⟨u,d,rfl⟩,h4,h5⟩:=h3;refine⟨h4,ih (listed.setIfInBounds j true) _ w' Eu (Go.ready_mono hr (Ne.symm Ax)) (YX.kept Cm (fun cs b=>D2 i oi cs b hi) (hy.ext hE h4)) ?_⟩;rw[Array.setIfInBounds_comm _ _ Ax];exact h5
def LXE(P:Program)(ops:Array Oper)(R:Exit->Act->World->Prop)(E:World->World->Prop)(l:List Nat)(a:Act)(w:World):Prop:=ZhT P ops R E (ops.size - l.length) (mark ops.size l) a w
variable {l:List Nat}
def ZhQ(ops:Array Oper)(l:List Nat)(k:Nat):Bool:=decide (l.length<ops.size)&&(Region.ready .any ops (mark ops.size l)).contains k&&Region.free .any ops (mark ops.size l) k
theorem ZhR(hE:Pre E){k:Nat}{o:Oper}{v:Value}{a:Act}{w:World}(hs:Region.noSelect ops=true)(hi:ops[k]? =some o)(hf:ZhQ ops l k=true)(hy:YX P ops E w o v a)(h:LXE P ops R E (k::l) (a.put o.dst v) w):LXE P ops R E l a w:=by
 unfold ZhQ at hf;simp only[Bool.and_eq_true,decide_eq_true_eq] at hf;obtain⟨⟨h2,h3⟩,h4⟩:=hf;unfold LXE at*;rw[show ops.size - l.length=(ops.size - (k::l).length)+1 by simp only[List.length_cons];omega];exact ZhA hE hi (Region.noSelect_spec hs) _ _ a w (Region.free_spec hi h4) (by simpa using h3) hy h
theorem Zh4(k:Nat){o:Oper}{a:Act}{w:World}(hi:ops[k]? =some o)(hb:(decide (l.length<ops.size)&&Region.ready .any ops (mark ops.size l)==[k])=true)(hw:Region.wanted o (yielded ops a.tmps)=true)
 (h:o.wp P a w (fun a' W'=>E w W'/\LXE P ops R E (k::l) a' W') FQ):LXE P ops R E l a w:=by
 simp only[Bool.and_eq_true,decide_eq_true_eq,beq_iff_eq] at hb;unfold LXE at*;rw[show ops.size - l.length=(ops.size - (k::l).length)+1 by simp only[List.length_cons];omega];refine⟨fun h0=>(by rw[h0] at hb;cases hb.2),fun i hi'=> ?_⟩;rw[hb.2] at hi';obtain rfl:i=k:=by simpa using hi'
 unfold wpOp;simp only[hi,hw,if_true];exact .inl h
theorem Zir(k j:Nat){o q:Oper}{a:Act}{w:World}(hi:ops[k]? =some o)(hj:ops[j]? =some q)(hb:(decide (l.length<ops.size)&&Region.ready .any ops (mark ops.size l)==[k,j])=true)(hw:Region.wanted o (yielded ops a.tmps)=true)(Eh:Region.wanted q (yielded ops a.tmps)=true)
 (h:o.wp P a w (fun a' W'=>E w W'/\LXE P ops R E (k::l) a' W') FQ)(h2:q.wp P a w (fun a' W'=>E w W'/\LXE P ops R E (j::l) a' W') FQ):LXE P ops R E l a w:=by
 simp only[Bool.and_eq_true,decide_eq_true_eq,beq_iff_eq] at hb;unfold LXE at*;rw[show ops.size - l.length=(ops.size - (k::l).length)+1 by simp only[List.length_cons];omega];refine⟨fun h0=>(by rw[h0] at hb;cases hb.2),fun i hi'=> ?_⟩;rw[hb.2] at hi';rcases List.mem_cons.1 hi' with rfl|hi'
 ·unfold wpOp;simp only[hi,hw,if_true];exact .inl h
 ·obtain rfl:i=j:=by simpa using hi'
  unfold wpOp;simp only[hj,Eh,if_true];exact .inl h2
theorem ZhF{a:Act}{w:World}(hk:(ops.size==l.length&&(Region.ready .any ops (mark ops.size l)).isEmpty)=true)(h:R .normal a w):LXE P ops R E l a w:=by
 rw[Bool.and_eq_true,beq_iff_eq,List.isEmpty_iff] at hk;unfold LXE;rw[show ops.size - l.length=0 by omega];exact⟨hk.2,h⟩
theorem ZhU{o:Oper}(ho:ZeC o=true){a:Act}{C:World->Prop}{W:World}{v:Value}(h3:o.quietAt P a C W v):YVX P o a W v:=by
 unfold Oper.quietAt at h3;unfold YVX;cases hr:(execOp a.eval o).run P W with
 |ok n w'=>
  rw[hr] at h3;cases n<;>simp only[Oper.quietUpon] at h3
  case value u=>exact⟨h3.2,h3.1⟩
  case skip=>exact⟨h3.2,h3.1⟩
  case enter f args=>exact(ZeK ho hr).elim
 |halt x w'=>rw[hr] at h3;simp only[Oper.quietUpon] at h3
def Zhu(ops:Array Oper):List Nat->List Nat->Bool
 |[],_=>true
 |k::ks,l=>ZhQ ops l k&&(match ops[k]? with|some o=>ZeC o|none=>false)&&Zhu ops ks (k::l)
theorem ZhN(hE:Pre E){w:World}(hs:Region.noSelect ops=true):∀(ks l:List Nat)(a:Act),Zhu ops ks l=true->wpQuiet P ops (fun w'=>∃p:GrE E w,w'=p.W) (fun a'=>LXE P ops R E (doneL ks l) a' w) (ZeD ops.toList ks) a->LXE P ops R E l a w:=by
 intro ks
 induction ks with
 |nil=>intro l a _ h;exact h
 |cons k ks ih=>
  intro l a hp h;simp only[Zhu,Bool.and_eq_true] at hp;obtain⟨⟨hf,ho⟩,hp⟩:=hp;cases hi:ops[k]? with
  |none=>rw[hi] at ho;cases ho
  |some o=>
   rw[hi] at ho;rw[ZeD,show ops.toList[k]? =some o by rw[Array.getElem?_toList];exact hi] at h;have hq:qOp P ops (fun w'=>∃p:GrE E w,w'=p.W) k (wpQuiet P ops (fun w'=>∃p:GrE E w,w'=p.W) (fun a'=>LXE P ops R E (doneL (k::ks) l) a' w) (ZeD ops.toList ks)) a:=by
    unfold qOp;simp only[hi];exact h
   obtain⟨v,hy,hK⟩:=yieldsIn_of_qOp hi hq;exact ZhR hE hs hi hf (hy.imp (fun h=>⟨h.1,fun W hW=>ZhU ho (h.2 W ⟨⟨W,hW⟩,rfl⟩)⟩) id) (ih _ _ hp hK)
theorem Zh8(hE:Pre E){o:List Oper}(ks:List Nat){a:Act}{w:World}(hs:Region.noSelect o.toArray=true)(hp:Zhu o.toArray ks l=true)(h:wpQuiet P o.toArray (fun w'=>∃p:GrE E w,w'=p.W) (fun a'=>LXE P o.toArray R E (doneL ks l) a' w) (ZeD o ks) a):LXE P o.toArray R E l a w:=
 ZhN hE hs ks l a hp h
theorem Zhk(E:World->World->Prop){id:Nat}{a:Act}{w:World}(hm:P.follows .mixedOrders=true)(h:LXE P ops R E [] a w.drew):(Code.region id ops true).wp P R a w:=by
 unfold LXE at h;exact wp_region_any hm (wpAny_of_X _ _ _ _ h)
theorem Zie{o:Oper}{a:Act}{W:World}{K:Act->World->Prop}(h:∃W',(execOp a.eval o).run P W= .ok .skip W'/\K (a.put o.dst undef) W'):o.wp P a W K FQ:=by
 obtain⟨W',hr,h⟩:=h;unfold Oper.wp;rw[hr];simp only[Oper.upon];exact h
end
end Go.Nk
namespace Go.Proofs.Tryq
open Go Go.Nk Go.RowKit
theorem Zhv{X:Nat->Prop}{w w':World}{ow:Option Nat}(h:w.grownBy w' ow)(hX:∀k,ow=some k->X k):ExtX X w w':=
 ⟨h.size,fun b hb hn=>h.block b hb (fun e=>hn (hX b e.symm)),h.tape,h.os,h.output⟩
end Go.Proofs.Tryq
end
