import Derived.Test.YthahddndgbpooaaGreatDoorNkA
import Derived.Test.YthahddndgbpooaaGreatDoorNk23
import Derived.Laws.NewBlocks
set_option linter.all false
set_option maxRecDepth 100000
set_option maxHeartbeats 8000000
open Go
variable {a:Act}{ops:Array Oper}{R:Exit->Act->World->Prop}{b c m:Int}{l:List Nat}{B2 cap fb i kb n nb sb t yb yk:Nat}{ℓ:Nat->Bool}{X:Nat->Prop}{obj:Obj}{o oi oj:Oper}{ow:Option Nat}{P:Program}{rv u v:Value}{W W' w w' w1:World}
namespace Go.Proofs.Tryq
open Go Go.Nk Go.RowKit
structure Ctb(a b c m:Int)(base:Option Addr)(n cap:Nat)(T:List (List Int))(B sb nb yb fb kb yk:Nat)(W:World):Prop where
 hs:W.heap[sb]? =some (.cells #[a,b,c,m,.slice base n cap] 117)
 hnb:W.heap[nb]? =some (.cells #[.map (some kb)] 182)
 hyb:W.heap[yb]? =some (.cells #[.map (some yk)] 181)
 hfn:W.heap[fb]? =some (.cells #[.func (.func 106) #[] #[.pointer (some ⟨sb,0,none⟩),.pointer (some ⟨nb,0,none⟩),.pointer (some ⟨yb,0,none⟩),.pointer (some ⟨fb,0,none⟩)]] 183)
 rows:∃G,MapAt prog 3 W yk G/\∀i:Nat,i<n->Shr B W ((G (.int .i64 i)).getD (.slice none 0 0)) (byL T i)
 ne:sb≠kb/\nb≠kb/\yb≠kb/\fb≠kb/\yk≠kb
 sz:B<=W.heap.size
theorem Ctb.step{a:Int}{base:Option Addr}{T:List (List Int)}{B:Nat}(h:Ctb a b c m base n cap T B sb nb yb fb kb yk W)(hX:Map1 kb W W'){es:Array MapEntry}{ck:Nat}(hk:W.heap[kb]? =some (.map es ck)):Ctb a b c m base n cap T B sb nb yb fb kb yk W':=by
 obtain⟨G,hG,hr⟩:=h.rows
 exact⟨(hX.block _ (Z5 h.hs) h.ne.1).trans h.hs,(hX.block _ (Z5 h.hnb) h.ne.2.1).trans h.hnb,(hX.block _ (Z5 h.hyb) h.ne.2.2.1).trans h.hyb,(hX.block _ (Z5 h.hfn) h.ne.2.2.2.1).trans h.hfn,
  ⟨G,hG.keep (hX.block _ hG.lt h.ne.2.2.2.2),λi hi=>(hr i hi).map1 hX hk⟩,h.ne,XD h.sz hX.size⟩
theorem Z2B(w:World)(o:Obj):Map1 kb w (Go.ChangeMaps.setBlock w kb o):=
 ⟨rfl,rfl,rfl,by rw[Z2s];exact XB _,λk _ hn=>Z0O hn o⟩
open Classical in
theorem Known.update{T:List (List Int)}{n B kb:Nat}{w:World}{G:Value->Option Value}(hT:Z62 T)(Km:∀l∈T,(∀p∈l,0<=p/\p<(n:Int))/\l.length<=9)(hn:n<=9)(h:Known T n B kb w G)(key:Nat->Bool)(V:Value)(hV:Shr B w V (Zk T n 0 key)):
 ∃o G',(Instr.mapUpdate 182 (.map (some kb)) (.agg (Zs key)) V).run prog w= .ok () (Go.ChangeMaps.setBlock w kb o)/\Known T n B kb (Go.ChangeMaps.setBlock w kb o) G':=by
 obtain⟨kl,Fc⟩:=Z4k key;obtain⟨es,ck,G1⟩:=h.isMap;obtain⟨o,h1,h2⟩:=h.map.update K138 u183 Fc V;refine⟨o,_,h1,h2,λkey' v hv=> ?_⟩;split at hv
 ·rename_i he;cases hv;have hk:Zs key'=Zs key:=by simpa using he
  rw[Z1W (N:=n) hT (λl hl p hp=>((Km l hl).1 p hp).2) n 0 key' key (λj _ hj=>ZbV hk j (by omega))];exact hV.map1 (Z2B w o) G1
 ·exact(h.val key' v hv).map1 (Z2B w o) G1
theorem Z3N{B:Nat}{w:World}:∀{vs:List Value}{ls:List (List Int)},Each (λu s=>OwnI B w u s) vs ls->∀u∈vs,u.oneCell'=true
 |[],_,_,u,hu=>by cases hu
 |v::vs,[],h,u,hu=>h.elim
 |v::vs,l::ls,⟨h1,h2⟩,u,hu=>by
  rcases XE.1 hu with rfl|hu
  ·rcases h1.2 with⟨rfl,_⟩|⟨g,cp,_,rfl,_⟩<;>rfl
  ·exact Z3N h2 u hu
theorem Z2C(T:List (List Int)):∀(d i:Nat)(u:Nat->Bool),(Zk T d i u).length<=d
 |0,_,_=>by simp[Zk]
 |d+1,i,u=>by
  have hb:∀a b:List (List Int),a.length<=d+1->b.length<=d+1->(Z0q a b).length<=d+1:=λa b h h'=>by unfold Z0q;split<;>assumption
  have hf:∀(B m:List (List Int)),m.length<=d+1->(B.foldl (ZL u (Zk T d (i+1))) m).length<=d+1:=by
   intro B
   induction B with
   |nil=>exact λm h=>h
   |cons l B ih=>
    intro m h;rw[VM];refine ih _ ?_;unfold ZL;split
    ·exact h
    ·exact hb _ _ h (by rw[YP];have:=Z2C T d (i+1) (by assumption);omega)
  rw[Zk];exact hb _ _ (hf _ _ (by simp)) (by have:=Z2C T d (i+1) u;omega)
theorem Z8B(a b c m:Int)(base:Option Addr)(n cap:Nat)(T:List (List Int))(B sb nb yb fb kb yk:Nat)(hn:n<=9)(hT:Z62 T)(Xz:T.length<=1000000)(Km:∀l∈T,(∀p∈l,0<=p/\p<n)/\l.length<=9):
 ∀(d i0:Nat)(used:Nat->Bool)(W:World)(G:Value->Option Value),i0+d=n->Ctb a b c m base n cap T B sb nb yb fb kb yk W->Known T n B kb W G->
 Calls prog 106 #[i0,.agg (Zs used),.pointer (some ⟨sb,0,none⟩),.pointer (some ⟨nb,0,none⟩),.pointer (some ⟨yb,0,none⟩),.pointer (some ⟨fb,0,none⟩)] W λe W'=>∃v G',e= .returned v/\Shr B W' v (Zk T d i0 used)/\Known T n B kb W' G'/\Map1 kb W W':=by
 intro d
 induction d with
 |zero=>
  intro i0 used W G hd hC hK;have hi:i0=n:=by omega
  subst hi;have s4:=Z0 hC.hs 4;simp only[YC,YA,YB] at s4;have A3:=Z5 hC.hs;generalize Ez:Zs used=no;have Xy:no.size=9:=by rw[<-Ez];rfl
  go_enter fk Tryz.func106,Tryz.ntmps106;go_wp2;refine wp_scope_straight ?_;go_wp2;rw[Exit.noGoto_ret];refine VE (RG rfl _ _ _) rfl ?_;exact⟨_,G,rfl,Shr.nil _ _,hK.ext ((Ext.rfl' W).alloc _),Map1.of_ext ((Ext.rfl' W).alloc _)⟩
 |succ d ih=>
  intro i0 used W G hd hC hK;have s4:=Z0 hC.hs 4;simp only[YC,YA,YB] at s4;have A3:=Z5 hC.hs;have Ao:((i0:Int)==(n:Int))=false:=by simp;omega
  simp only[Zs];go_enter fk Tryz.func106,Tryz.ntmps106;go_wp2;refine wp_scope_straight ?_;go_wp2;have Be:Ext W ((W.alloc (.cells (Zs used) 125)).alloc (.cells (Zs used) 125)):=((Ext.rfl' W).alloc _).alloc _;have Cl:((W.alloc (.cells (Zs used) 125)).alloc (.cells (Zs used) 125)).heap[W.heap.size]? =some (.cells (Zs used) 125):=by simp only[Z3,Z2];rw[XA (by omega),YZ trivial]
  have Fm:((W.alloc (.cells (Zs used) 125)).alloc (.cells (Zs used) 125)).heap[W.heap.size+1]? =some (.cells (Zs (Z51 0 used)) 125):=by
   simp only[Z3,Z2];rw[YZ trivial];rw[Z1o (out:=Z51 0 used) (out':=used) (λj _=>by simp[Z51])]
  simp only[Zs] at Be Cl Fm;generalize (W.alloc _).alloc _=W1 at Be Cl Fm⊢;have hi9:i0<9:=by omega
  go_loopw [10,27] (λ_ v27 wr=>∃i:Nat,i<=i0/\v27= .int .i64 i/\Ext W wr/\wr.heap[W.heap.size]? =some (.cells (Zs used) 125)/\wr.heap[W.heap.size+1]? =some (.cells (Zs (Z51 i used)) 125)) (λ_ v27 _=>i0 - (intOf v27).toNat)
  case atStart=>exact⟨0,XS _,rfl,Be,Cl,Fm⟩
  case round=>
   obtain⟨i,hi,rfl,hE,h0,h1⟩:=hrel;clear Be Cl Fm;by_cases hii:i=i0
   ·subst hii;have Jl:=hK.ext hE;obtain⟨kl,Fc⟩:=Z4k (Z51 i used);have Gq:=Jl.map.lookup K138 u183 (Zap wr) Fc true;have Dr:Zk T (d+1) i used=Zk T n 0 (Z51 i used):=(by rw[Zao (N:=n) hT (λl hl p hp=>((Km l hl).1 p hp).2),hd]);have Qf:=(Map1.of_ext (kb:=kb) hE).block nb (Z5 hC.hnb) hC.ne.2.1;have n0:=Z0 (Qf.trans hC.hnb) 0;simp only[YC,YA] at n0;have y0:=Z0 h1 0;have y1:=Z0 h1 1;have y2:=Z0 h1 2;have y3:=Z0 h1 3;have y4:=Z0 h1 4;have y5:=Z0 h1 5;have y6:=Z0 h1 6;have y7:=Z0 h1 7;have y8:=Z0 h1 8;simp only[Zs,YC,YA,YB] at y0 y1 y2 y3 y4 y5 y6 y7 y8 Gq;cases hG:G (.agg (Zs (Z51 i used))) with
    |some v=>
     have hv:=Jl.val _ v hG;simp only[Zs] at hG;rw[hG] at Gq;simp only[XQ,VX,Option.isSome_some] at Gq;go_wp2;rw[Exit.noGoto_ret];refine VE (RG rfl _ _ _) rfl ?_;exact⟨v,G,rfl,by rw[Dr];exact hv,Jl,Map1.of_ext hE⟩
    |none=>
     have hGn:G (.agg (Zs (Z51 i used)))=none:=hG;simp only[Zs] at hG;rw[hG] at Gq;simp only[XQ,Option.getD_none,Option.isSome_none] at Gq;obtain⟨es,ck,G1⟩:=hK.isMap;have Hc:=hC.step (Map1.of_ext hE) G1;obtain⟨Gy,hGy,C1⟩:=Hc.rows;obtain⟨kl3,Y1⟩:=Z3M i (by omega);have Y3:=hGy.lookup K3 u182 (Zap wr) Y1 false;have Af:=C1 i (by omega);simp only[XA (show¬(false=true) by decide)] at Y3;generalize (Gy (.int .i64 i)).getD (.slice none 0 0)=rv at Y3 Af;obtain⟨ao,cp,rfl⟩:=Af.form;have x0:=Z0 Hc.hyb 0;simp only[YC,YA] at x0;clear hGy C1;go_wp2;refine wp_label ?_;go_wp2;have hmax:(byL T i).length<=1000000:=XD (RK _ _) Xz;obtain⟨wo,rfl⟩:∃wo:World,wo=wr:=⟨_,rfl⟩;clear y0 y1 y2 y3 y4 y5 y6 y7 y8 Gq Y3 n0 x0;go_loopw [13,45] (λv13 v45 w2=>∃(j:Nat)(G':Value->Option Value),j<=(byL T i).length/\v45= .int .i64 j/\Shr B w2 v13 (((byL T i).take j).foldl (ZL used (Zk T d (i+1))) [])/\Known T n B kb w2 G'/\Map1 kb wo w2) (λ_ v45 _=>(byL T i).length - (intOf v45).toNat)
     case atStart=>exact⟨0,G,XS _,rfl,Shr.nil _ _,Jl,Map1.refl _ _⟩
     case round=>
      obtain⟨j,G',hj,rfl,Il,Qg,D5⟩:=hrel;obtain⟨es2,ck2,Or⟩:=Jl.isMap;have Fc:=hK.map.lt;have Sw:=Hc.step D5 Or;have z0:=Z0 Sw.hfn 0;simp only[YC,YA] at z0;have Q0:=Z5 h0;have h7:wr.heap[W.heap.size]? =some (.cells (Zs used) 125):=(D5.block _ Q0 (by omega)).trans h0;have y0:=Z0 h7 0;have y1:=Z0 h7 1;have y2:=Z0 h7 2;have y3:=Z0 h7 3;have y4:=Z0 h7 4;have y5:=Z0 h7 5;have y6:=Z0 h7 6;have y7:=Z0 h7 7;have y8:=Z0 h7 8;simp only[Zs,YC,YA,YB] at y0 y1 y2 y3 y4 y5 y6 y7 y8;obtain⟨a13,c13,rfl⟩:=Il.form;by_cases Iz:j=(byL T i).length
      ·have Ot:Shr B wr (.slice a13 ((byL T i).foldl (ZL used (Zk T d (i+1))) []).length c13) ((byL T i).foldl (ZL used (Zk T d (i+1))) []):=(by rw[Iz,UT] at Il;exact Il);have B9:=ih (i+1) used wr G' (by omega) Sw Qg;have Dv:Zk T (d+1) i used=Z0q ((byL T i).foldl (ZL used (Zk T d (i+1))) []) (Zk T d (i+1) used):=rfl;rw[show((i+1:Nat):Int)=(i:Int)+1 from rfl] at B9;simp only[Zs] at B9;subst Iz;rw[UT];clear Il;generalize (byL T i).foldl (ZL used (Zk T d (i+1))) []=M at Ot Dv⊢;generalize Zk T d (i+1) used=M2 at B9 Dv;by_cases Cc:M.length<M2.length
       ·have E9:=λa3 c3 w=>Z1V a13 M.length c13 a3 M2.length c3 w
        simp only[YZ Cc] at E9
        go_wp2_with (first
         |(go_at_call 106;refine B9.mono ?_;rintro e w3 ⟨v3,G3,rfl,Ou,Sy,Lp⟩
           obtain⟨a3,c3,rfl⟩:=Ou.form;obtain⟨es3,ck3,Jm⟩:=Qg.isMap;have Qd:=Sw.step Lp Jm;have Sz:=Ot.map1 Lp Jm;have n3:=Z0 Qd.hnb 0;have Ff:w3.heap[W.heap.size+1]? =some (.cells (Zs (Z51 i used)) 125):=(Lp.block _ (by have:=D5.size;have:=Z5 h1;omega) (by omega)).trans ((D5.block _ (Z5 h1) (by omega)).trans h1);have y0:=Z0 Ff 0;have y1:=Z0 Ff 1;have y2:=Z0 Ff 2;have y3:=Z0 Ff 3;have y4:=Z0 Ff 4;have y5:=Z0 Ff 5;have y6:=Z0 Ff 6;have y7:=Z0 Ff 7;have y8:=Z0 Ff 8;simp only[Zs,YC,YA,YB] at y0 y1 y2 y3 y4 y5 y6 y7 y8 n3;obtain⟨o,G4,Ex,Y4⟩:=Sy.update hT Km hn (Z51 i used) (.slice a3 M2.length c3) (by rw[<-Dr,Dv];simp only[Z0q,YZ Cc];assumption);have T0:=Z2B (kb:=kb) w3 o;simp only[Zs] at Ex)
         |(go_at_call 107;refine(E9 _ _ _).mono ?_;rintro e w4 ⟨rfl,Mo⟩;subst Mo))
        obtain⟨es4,ck4,Ov⟩:=Sy.isMap;rw[Exit.noGoto_ret];refine VE (RG rfl _ _ _) rfl ?_;exact⟨_,G4,rfl,by rw[Dv];simp only[Z0q,YZ Cc];exact Ou.map1 T0 Ov,Y4,((Map1.of_ext hE).trans D5).trans (Lp.trans T0)⟩
       ·have E9:=λa3 c3 w=>Z1V a13 M.length c13 a3 M2.length c3 w
        simp only[XA Cc] at E9
        go_wp2_with (first
         |(go_at_call 106;refine B9.mono ?_;rintro e w3 ⟨v3,G3,rfl,Ou,Sy,Lp⟩
           obtain⟨a3,c3,rfl⟩:=Ou.form;obtain⟨es3,ck3,Jm⟩:=Qg.isMap;have Qd:=Sw.step Lp Jm;have Sz:=Ot.map1 Lp Jm;have n3:=Z0 Qd.hnb 0;have Ff:w3.heap[W.heap.size+1]? =some (.cells (Zs (Z51 i used)) 125):=(Lp.block _ (by have:=D5.size;have:=Z5 h1;omega) (by omega)).trans ((D5.block _ (Z5 h1) (by omega)).trans h1);have y0:=Z0 Ff 0;have y1:=Z0 Ff 1;have y2:=Z0 Ff 2;have y3:=Z0 Ff 3;have y4:=Z0 Ff 4;have y5:=Z0 Ff 5;have y6:=Z0 Ff 6;have y7:=Z0 Ff 7;have y8:=Z0 Ff 8;simp only[Zs,YC,YA,YB] at y0 y1 y2 y3 y4 y5 y6 y7 y8 n3;obtain⟨o,G4,Ex,Y4⟩:=Sy.update hT Km hn (Z51 i used) (.slice a13 M.length c13) (by rw[<-Dr,Dv];simp only[Z0q,XA Cc];assumption);have T0:=Z2B (kb:=kb) w3 o;simp only[Zs] at Ex)
         |(go_at_call 107;refine(E9 _ _ _).mono ?_;rintro e w4 ⟨rfl,Mo⟩;subst Mo))
        obtain⟨es4,ck4,Ov⟩:=Sy.isMap;rw[Exit.noGoto_ret];refine VE (RG rfl _ _ _) rfl ?_;exact⟨_,G4,rfl,by rw[Dv];simp only[Z0q,XA Cc];exact Sz.map1 T0 Ov,Y4,((Map1.of_ext hE).trans D5).trans (Lp.trans T0)⟩
      ·have D3:j<(byL T i).length:=(by omega);obtain⟨_,vs,hvr,Im⟩:=Af.map1 D5 Or;obtain⟨l,hl⟩:∃l,(byL T i)[j]? =some l:=⟨_,YH D3⟩;obtain⟨u,hu,F2⟩:=Im.get j l hl;have Qb:=YQ hl;obtain⟨Fl,tl,T1⟩:=Z6Q hT Qb;have hlT:=Km l (UP.1 Qb).1;obtain⟨gr,cr,T2,T3,Lq⟩:=hvr.form (by rw[Im.length];omega);obtain⟨rfl,Lr,rfl⟩:ao=some ⟨gr,0,none⟩/\(byL T i).length=vs.length/\cp=cr:=(by simpa using T2);have Ls:=hvr.cells (g:=gr) rfl j u hu;rw[Z0c] at Ls;obtain⟨gl,cl,rfl,T4,Jo⟩:=F2.form (by rw[T1];simp);have Vo:((byL T i).take (j+1)).foldl (ZL used (Zk T d (i+1))) []=ZL used (Zk T d (i+1)) (((byL T i).take j).foldl (ZL used (Zk T d (i+1))) []) l:=(by rw[Z0G hl,List.foldl_append];rfl);clear T1;have hj0:(0:Int)<=(j:Int):=(by omega);have hjL:(j:Int)<((byL T i).length:Int):=(by omega);go_wp2;have B4:Ext wr (wr.alloc (.cells (Zs used) 125)):=(Ext.rfl' wr).alloc _;have h5:(wr.alloc (.cells (Zs used) 125)).heap[wr.heap.size]? =some (.cells (Zs used) 125):=(by rw[Z3,YZ rfl]);simp only[Zs] at B4;have h5':(wr.alloc (.cells #[.bool (used 0),.bool (used 1),.bool (used 2),.bool (used 3),.bool (used 4),.bool (used 5),.bool (used 6),.bool (used 7),.bool (used 8)] 125)).heap[wr.heap.size]? =some (.cells (Zs used) 125):=h5
       clear h5 y0 y1 y2 y3 y4 y5 y6 y7 y8;generalize wr.alloc _=w6 at B4 h5'⊢;obtain⟨wq,rfl⟩:∃wq:World,wq=wr:=⟨_,rfl⟩;go_loopw [52] (λv52 w3=>∃(k:Nat)(u':Nat->Bool),k<=l.length/\v52= .int .i64 k/\Ext wq w3/\w3.heap[wq.heap.size]? =some (.cells (Zs u') 125)/\Hid (take1 used l=take1 u' (l.drop k))) (λv52 _=>l.length - (intOf v52).toNat)
       case atStart=>exact⟨0,used,XS _,rfl,B4,h5',rfl⟩
       case round=>
        obtain⟨k,u',hk,rfl,Bg,h6,Ow⟩:=hrel;by_cases Y5:k=l.length
        ·subst Y5;have T5:take1 used l=some u':=(by rw[Ow.out,TB];rfl);have Qh:=Sw.step (Map1.of_ext Bg) (Qg.isMap).choose_spec.choose_spec;have Qi:=Qg.ext Bg;have z6:=Z0 Qh.hfn 0;simp only[YC,YA] at z6;have y0:=Z0 h6 0;have y1:=Z0 h6 1;have y2:=Z0 h6 2;have y3:=Z0 h6 3;have y4:=Z0 h6 4;have y5:=Z0 h6 5;have y6:=Z0 h6 6;have y7:=Z0 h6 7;have y8:=Z0 h6 8;simp only[Zs,YC,YA,YB] at y0 y1 y2 y3 y4 y5 y6 y7 y8;have ho6:=F2.ext Bg;have T6:=Il.ext Bg;have hfbl:fb<wr.heap.size:=Z5 Qh.hfn;have hwql:wq.heap.size<wr.heap.size:=Z5 h6;have Lt:ZL used (Zk T d (i+1)) (((byL T i).take j).foldl (ZL used (Zk T d (i+1))) []) l=Z0q (((byL T i).take j).foldl (ZL used (Zk T d (i+1))) []) (l::Zk T d (i+1) u'):=(by simp only[ZL,T5]);have T7:∀W8,Ext wr W8->_:=λW8 Jp=>ih (i+1) u' W8 G' (by omega) (Qh.step (Map1.of_ext Jp) (Qi.isMap).choose_spec.choose_spec) (Qi.ext Jp)
         have Mq:=Z6s wr B 57 #[.slice (some ⟨gl,0,none⟩) l.length cl] 1 wr.heap.size rfl Qh.sz rfl (by simp[maxLen]);rw[show((i+1:Nat):Int)=(i:Int)+1 from rfl] at T7;simp only[Zs] at T7;generalize ((byL T i).take j).foldl (ZL used (Zk T d (i+1))) []=Mp at T6 Lt Vo⊢;have Hd:(Zk T d (i+1) u').length<=1000000:=XD (Z2C T d (i+1) u') (by omega);generalize Zk T d (i+1) u'=M9 at T7 Lt Hd;by_cases Cc:Mp.length<M9.length+1
         ·have E9:=λa3 c3 w=>Z1V a13 Mp.length c13 a3 (M9.length+1) c3 w
          simp only[YZ Cc] at E9
          go_wp2_with (first
           |(go_at_call 106;refine(T7 _ (by(repeat (with_reducible first|assumption|exact Ext.rfl' _|apply Ext.alloc|apply Ext.drew)))).mono ?_;rintro e w9 ⟨v9,G9,rfl,T8,Y6,Ox⟩
             obtain⟨a9,c9,rfl⟩:=T8.form;obtain⟨Jq,vs9,T9,Qj⟩:=T8;have Lu:=Qj.length;have Jr:=Z2R (Mq:(wr.alloc (.cells #[.slice (some ⟨gl,0,none⟩) l.length cl] 57)).ownsRow B 57 1 _ 1 _) Ox (Qi.ext ((Ext.rfl' wr).alloc (.cells #[.slice (some ⟨gl,0,none⟩) l.length cl] 57))).isMap.choose_spec.choose_spec)
           |(at_builtin
             refine Z1p rfl _ _ rfl B wr.heap.size _ rfl Jr (.slice a9 M9.length c9) M9.length vs9 rfl (by rw[<-Lu];exact Lu▸T9) (λh=>Jq (TZ h)) (Z3N Qj) Hd (XD Qh.sz (XD (by simp) Ox.size)) ?_;intro g' cap' w10 Vp El)
           |(go_at_call 107;refine(E9 _ _ _).mono ?_;rintro e w4 ⟨rfl,Mo⟩;subst Mo))
          have Js:Map1 kb wr w4:=((Map1.of_ext ((Ext.rfl' wr).alloc (.cells #[.slice (some ⟨gl,0,none⟩) l.length cl] 57))).trans Ox).trans (Map1.of_ext El);have Le:=Qi.isMap.choose_spec.choose_spec;rw[Lr];refine⟨⟨_,_,_,_,_,_,_,_,_,_,_,_,_,_,_,_,_,_,_,_,_,_,_,_,_,_,_,_,_,_,_,_,⟨j+1,G9,by omega,by push_cast;rfl,?_,Y6.ext El,(D5.trans (Map1.of_ext Bg)).trans Js⟩,rfl⟩,by simp[intOf];omega⟩;rw[Vo,Lt,Z0q,YZ (by simpa using Cc)];exact⟨λh=>(by cases h),_::vs9,by rw[YP,Lu];exact Vp,Z2R ho6 Js Le,Qj.mono λu s h=>Z00 h El⟩
         ·have E9:=λa3 c3 w=>Z1V a13 Mp.length c13 a3 (M9.length+1) c3 w
          simp only[XA Cc] at E9
          go_wp2_with (first
           |(go_at_call 106;refine(T7 _ (by(repeat (with_reducible first|assumption|exact Ext.rfl' _|apply Ext.alloc|apply Ext.drew)))).mono ?_;rintro e w9 ⟨v9,G9,rfl,T8,Y6,Ox⟩
             obtain⟨a9,c9,rfl⟩:=T8.form;obtain⟨Jq,vs9,T9,Qj⟩:=T8;have Lu:=Qj.length;have Jr:=Z2R (Mq:(wr.alloc (.cells #[.slice (some ⟨gl,0,none⟩) l.length cl] 57)).ownsRow B 57 1 _ 1 _) Ox (Qi.ext ((Ext.rfl' wr).alloc (.cells #[.slice (some ⟨gl,0,none⟩) l.length cl] 57))).isMap.choose_spec.choose_spec)
           |(at_builtin
             refine Z1p rfl _ _ rfl B wr.heap.size _ rfl Jr (.slice a9 M9.length c9) M9.length vs9 rfl (by rw[<-Lu];exact Lu▸T9) (λh=>Jq (TZ h)) (Z3N Qj) Hd (XD Qh.sz (XD (by simp) Ox.size)) ?_;intro g' cap' w10 Vp El)
           |(go_at_call 107;refine(E9 _ _ _).mono ?_;rintro e w4 ⟨rfl,Mo⟩;subst Mo))
          have Js:Map1 kb wr w4:=((Map1.of_ext ((Ext.rfl' wr).alloc (.cells #[.slice (some ⟨gl,0,none⟩) l.length cl] 57))).trans Ox).trans (Map1.of_ext El);have Le:=Qi.isMap.choose_spec.choose_spec;rw[Lr];refine⟨⟨_,_,_,_,_,_,_,_,_,_,_,_,_,_,_,_,_,_,_,_,_,_,_,_,_,_,_,_,_,_,_,_,⟨j+1,G9,by omega,by push_cast;rfl,?_,Y6.ext El,(D5.trans (Map1.of_ext Bg)).trans Js⟩,rfl⟩,by simp[intOf];omega⟩;rw[Vo,Lt,Z0q,XA (by simpa using Cc)];exact T6.map1 Js Le
        ·obtain⟨p,hp⟩:∃p,l[k]? =some p:=⟨_,YH (by omega)⟩;have Oi:=hlT.1 p (YQ hp);obtain⟨q,rfl⟩:=VL Oi.1;have Oy:q<9:=(by omega);have Hb:=F2.cells (g:=gl) rfl k (.int .i64 q) (by rw[List.getElem?_map,hp];rfl);rw[Z0c] at Hb;replace Hb:=Bg.cellS Hb;have Qk:=Z0 h6 q;rw[Z1u _ q Oy] at Qk;have hfq:=Z8 h6 q;have Y7:(0:Int)<=(k:Int):=(by omega);have hkL:(k:Int)<(l.length:Int):=(by omega);have R9:(0:Int)<=(q:Int):=(by omega);have Y8:(q:Int)<9:=(by omega);have Nw:=Z0b hp;by_cases Vq:u' q=true
         ·rw[Vq] at Qk;have Ta:take1 used l=none:=(by rw[Ow.out,Nw,take1,YZ (by simpa using Vq)]);go_wp2;refine⟨⟨j+1,G',by omega,by push_cast;rfl,?_,Qg.ext Bg,D5.trans (Map1.of_ext Bg)⟩,by simp[intOf];omega⟩;rw[Vo];simp only[ZL,Ta];exact Il.ext Bg
         ·have Ya:u' q=false:=(by simpa using Vq);rw[Ya] at Qk;have Yb:Hid (take1 used l=take1 (λj=>u' j||j==q) (l.drop (k+1))):=by
           show _=_;rw[Ow.out,Nw,take1,XA (by simpa using Vq)];simp
          go_wp2;exact⟨⟨k+1,_,by omega,by push_cast;rfl,Bg.setCell _ _ (XB _),by rw[Zb h6,Z52 _ q Oy],Yb⟩,by simp[intOf];omega⟩
   ·have I5:i<i0:=(by omega);have c1:=Z0 h1 i;rw[Z1u _ i (by omega)] at c1;have f1:=Z8 h1 i;have Cj:(0:Int)<=(i:Int):=(by omega);have hi8:(i:Int)<9:=(by omega);have hi7:(i:Int)<(i0:Int):=(by omega);go_wp2;refine⟨⟨i+1,by omega,by push_cast;rfl,hE.setCell _ _ (by simp),(set_ne (by simp) _).trans h0,?_⟩,by simp[intOf];omega⟩;rw[Zb h1,Z52 _ i (by omega)];rw[Z1o (out':=Z51 (i+1) used)];intro j _;simp only[Z51];by_cases hj:j=i
    ·subst hj;simp
    ·have e1:(j==i)=false:=(by simpa using hj);have e2:decide (j<i+1)=decide (j<i):=decide_eq_decide.2 (by omega);rw[e1,e2,Bool.or_false]
end Go.Proofs.Tryq
namespace Go.Nk
open Go Go.Region
open Go.Proofs.Tryq (Ext Z3 Z2)
variable {Q:Exit->Act->World->Prop}
variable {Dl:List (Option Tmp)}{S:List (Option Value)}{L0:Tmp->Value}{M:(Nat->Bool)->(Tmp->Value)->World->Prop}
structure Sx where
 al:Nat
 t:Tmp
 k:Nat
 z:Array Value
 ty:TypeId
variable {B:List Sx}{x:Tmp->Value}
end Go.Nk
namespace Go.Proofs.Tryq
open Go Go.Nk Go.RowKit
open Go.Maps (Keyed)
open Go.ChangeMaps (setBlock)
theorem run_append_keep(w:World)(base:Nat)(t ty e:TypeId)(i:TypeInfo)(z:Value)(size bytes:Nat)(ht:P.underlying t=some (.slice e))(hi:P.info? e=some i)(hz:i.zero=some z)
 (Gd:i.size=size)(Fr:i.bytes=bytes)(Vr:z.cells.size=size)(B1:0<size)
 (v:Value)(n:Nat)(xs:List Value)(Ac:w.ownsRow base e size v n xs)
 (a:Addr)(m c:Nat)(news:List Value)(hl:news.length=m*size)(Ge:∀j u,news[j]? =some u->w.cell? (a.add j)=some u)(h1:∀u∈news,u.oneCell'=true)
 (In:n+m<=maxLen)(Fg:(n+m)*bytes<=140737488355328)(A6:base<=w.heap.size):
 ∃v' w',(Builtin.append_ #[t,t] ty #[v,.slice (some a) m c]).run P w= .ok v' w'/\w'.ownsRow base e size v' (n+m) (xs++news)/\w.grownBy w' v.ownBlock/\
  ((v'.ownBlock=v.ownBlock)\/∀k,v'.ownBlock=some k->w.heap.size<=k):=by
 rcases Ac.2 with⟨rfl,rfl⟩|⟨g,cap,cur,rfl,Xr,hg,Ft,Vb,Ag,Jc⟩
 ·have hx:xs=[]:=TZ (by simpa using Ac.1);subst hx;obtain⟨v',w',r1,r2,r3,_⟩:=run_append_own (P:=P) w w.heap.size t ty e i z size bytes ht hi hz Gd Fr Vr B1 (.slice none 0 0) 0 [] (VN _ _ _ _) a m c news hl Ge h1 In Fg (XB _);exact⟨v',w',r1,Z05 r2 A6,r3,.inr λk hk=>(r2.lt k hk).1⟩
 ·by_cases Tb:n+m<=cap
  ·obtain⟨w',r1,r2,r3⟩:=run_append_fits (P:=P) w base t ty e i size ht hi Gd g n cap xs Ac a m c news hl Ge h1 Tb;exact⟨_,w',r1,r2,r3,.inl rfl⟩
  ·obtain⟨v',w',r1,r2,r3⟩:=run_append_arg_grows (P:=P) w t ty e i z size bytes ht hi hz Gd Fr Vr B1 ⟨g,0,none⟩ n cap xs Ac.1 (Ac.cells (g:=g) rfl) a m c news hl Ge (by omega) In Fg;exact⟨v',w',r1,Z05 r2 A6,⟨r3.os,r3.tape,r3.output,r3.size,λb hb _=>r3.block b hb (λe=>by cases e)⟩,.inr λk hk=>(r2.lt k hk).1⟩
theorem Z3V{K:Act->World->Prop}{Q:Exit->Act->World->Prop}(s x:Operand)(t:TypeId)
 (ho:o.op= .call {callee:= .builtin .append,args:= #[s,x],argTypes:= #[t,t]})
 (base:Nat)(e:TypeId)(i:TypeInfo)(z:Value)(size bytes:Nat)(ht:P.underlying t=some (.slice e))(hi:P.info? e=some i)(hz:i.zero=some z)
 (Gd:i.size=size)(Fr:i.bytes=bytes)(Vr:z.cells.size=size)(B1:0<size)
 (v:Value)(n:Nat)(xs:List Value)(hs:a.eval s=v)(Ac:w.ownsRow base e size v n xs)
 (ad:Addr)(m c:Nat)(news:List Value)(hx:a.eval x= .slice (some ad) m c)(hl:news.length=m*size)(Ge:∀j u,news[j]? =some u->w.cell? (ad.add j)=some u)(h1:∀u∈news,u.oneCell'=true)
 (In:n+m<=maxLen)(Fg:(n+m)*bytes<=140737488355328)(A6:base<=w.heap.size)
 (h:∀v' w',w'.ownsRow base e size v' (n+m) (xs++news)->w.grownBy w' v.ownBlock->((v'.ownBlock=v.ownBlock)\/∀k,v'.ownBlock=some k->w.heap.size<=k)->K (a.put o.dst v') w'):o.wp P a w K Q:=by
 obtain⟨v',w',hr,h2,h3,h4⟩:=run_append_keep (P:=P) w base t o.type e i z size bytes ht hi hz Gd Fr Vr B1 v n xs Ac ad m c news hl Ge h1 In Fg A6;unfold Oper.wp execOp;simp only[ho,resolve,invoke,builtin,UM,Sem.run_pure,QM,TM,VC,VQ,hs,hx,hr];exact h v' w' h2 h3 h4
def ZO(G:Value->Option Value)(i:Nat):Value:=(G (.int .i64 i)).getD (.slice none 0 0)
def ByAt(B B2 n yk:Nat)(D:List (List Int))(w:World):Prop:=
 ∃G:Value->Option Value,MapAt prog 3 w yk G/\(∀i:Nat,i<n->Shr B w (ZO G i) (byL D i))/\(∀i j:Nat,i<n->j<n->i≠j->(ZO G i).ownBlock=none\/(ZO G i).ownBlock≠(ZO G j).ownBlock)/\∀i:Nat,i<n->∀k,(ZO G i).ownBlock=some k->B2<=k
theorem Shr.lt{B:Nat}{w:World}{v:Value}{ls:List (List Int)}(h:Shr B w v ls){k:Nat}(hk:v.ownBlock=some k):B<=k/\k<w.heap.size:=by
 obtain⟨_,vs,h1,_⟩:=h;exact h1.lt k hk
theorem Shr.isCells{B:Nat}{ls:List (List Int)}(h:Shr B w v ls){k:Nat}(hk:v.ownBlock=some k):∃c,w.heap[k]? =some (.cells c 57):=by
 obtain⟨_,vs,h1,_⟩:=h;rcases h1.2 with⟨rfl,_⟩|⟨g,cp,cur,rfl,_,hg,_⟩
 ·cases hk
 ·cases hk;exact⟨cur,hg⟩
theorem Shr.grown{B:Nat}{ls rs:List (List Int)}(h:Shr B W v ls)(hr:Shr B W rv rs)(hg:W.grownBy w rv.ownBlock)(A9:v.ownBlock=none\/v.ownBlock≠rv.ownBlock):Shr B w v ls:=by
 obtain⟨h0,vs,h1,h2⟩:=h;refine⟨h0,vs,h1.kept hg A9,h2.mono λu s hu=>hu.kept hg ?_⟩;obtain⟨_,rvs,k1,_⟩:=hr;exact Z4i hu k1 (by decide)
theorem OwnI.grownRow{B:Nat}{l:List Int}{rs:List (List Int)}(h:OwnI B W u l)(hr:Shr B W rv rs)(hg:W.grownBy w rv.ownBlock):OwnI B w u l:=by
 obtain⟨_,rvs,k1,_⟩:=hr;exact World.ownsRow.kept h hg (Z4i h k1 (by decide))
theorem ZbW(D:List (List Int))(l:List Int)(i:Nat):byL (D++[l]) i=if l.head? =some (i:Int) then byL D i++[l] else byL D i:=by
 unfold byL;rw[List.filter_append];by_cases h:l.head? =some (i:Int)
 ·rw[YZ h,List.filter_cons_of_pos (by simpa using h),List.filter_nil]
 ·rw[XA h,List.filter_cons_of_neg (by simpa using h),List.filter_nil,UQ]
open Classical in
theorem ByAt.step{B:Nat}{D:List (List Int)}{G:Value->Option Value}(hm:MapAt prog 3 W yk G)(C1:∀i:Nat,i<n->Shr B W (ZO G i) (byL D i))
 (D0:∀i j:Nat,i<n->j<n->i≠j->(ZO G i).ownBlock=none\/(ZO G i).ownBlock≠(ZO G j).ownBlock)(As:∀i:Nat,i<n->∀k,(ZO G i).ownBlock=some k->B2<=k)(Ek:B2<=W.heap.size){l:List Int}{i:Nat}(hi:i<n)(hn:n<100)(hl:l.head? =some (i:Int)){u v':Value}{w3:World}{vs:List Value}
 (hu:OwnI B W u l)(En:W.ownsRow B 57 1 (ZO G i) vs.length vs)(he:Each (λu s=>OwnI B W u s) vs (byL D i))
 (Ac:w3.ownsRow B 57 1 v' (vs.length+1) (vs++[u]))(hg:W.grownBy w3 (ZO G i).ownBlock)(Jt:(v'.ownBlock=(ZO G i).ownBlock)\/∀k,v'.ownBlock=some k->W.heap.size<=k):
 ∃o,(Instr.mapUpdate 181 (.map (some yk)) (.int .i64 i) v').run prog w3= .ok () (setBlock w3 yk o)/\ByAt B B2 n yk (D++[l]) (setBlock w3 yk o):=by
 have hyk:∀k,(ZO G i).ownBlock=some k->k≠yk:=by
  rintro k hk rfl;obtain⟨c,hc⟩:=(C1 i hi).isCells hk;obtain⟨es,ck,hb,_⟩:=hm;rw[hb] at hc;cases hc
 have Nv:MapAt prog 3 w3 yk G:=hm.keep (hg.block _ hm.lt (λe=>hyk _ e.symm rfl));obtain⟨es,ck,G1,_⟩:=Nv;have Nv:MapAt prog 3 w3 yk G:=hm.keep (hg.block _ hm.lt (λe=>hyk _ e.symm rfl));obtain⟨kl,Fc⟩:=Z3M i (by omega);obtain⟨o,h1,h2⟩:=Nv.update K3 u182 Fc v';refine⟨o,h1,_,h2,?_,?_,?_⟩
 ·have hX:=Z2B (kb:=yk) w3 o;intro j hj;have Af:ZO (λx=>if x=Value.int .i64 i then some v' else G x) j=if j=i then v' else ZO G j:=by
   unfold ZO;by_cases Ay:j=i
   ·subst Ay;simp
   ·have A9:¬(Value.int .i64 (j:Int)=Value.int .i64 (i:Int)):=(by simp;omega);simp[Ay,A9]
  rw[Af,ZbW];by_cases Ay:j=i
  ·subst Ay;rw[YZ rfl,YZ hl];have hr:=C1 j hj;refine Shr.map1 (w:=w3) ⟨λh=>by simp at h,vs++[u],by simpa using Ac,Each.append (he.mono λu s h=>OwnI.grownRow h hr hg) ⟨OwnI.grownRow hu hr hg,trivial⟩⟩ hX G1
  ·rw[XA Ay,XA (by rw[hl];simp;omega)];exact((C1 j hj).grown (C1 i hi) hg (D0 j i hj hi Ay)).map1 hX G1
 ·have Af:∀j:Nat,ZO (λx=>if x=Value.int .i64 i then some v' else G x) j=if j=i then v' else ZO G j:=by
   intro j;unfold ZO;by_cases Ay:j=i
   ·subst Ay;simp
   ·have A9:¬(Value.int .i64 (j:Int)=Value.int .i64 (i:Int)):=(by simp;omega);simp[Ay,A9]
  intro p q hp hq hpq;rw[Af,Af];have key:∀j,j<n->j≠i->∀k,(ZO G j).ownBlock=some k->v'.ownBlock≠some k:=by
   intro j hj Ay k hk he;rcases Jt with h|h
   ·rcases D0 j i hj hi Ay with h'|h'
    ·rw[hk] at h';cases h'
    ·rw[hk,<-h,he] at h';exact h' rfl
   ·have:=h k he;have:=((C1 j hj).lt hk).2;omega
  by_cases R4:p=i
  ·have Gw:q≠i:=λh=>hpq (R4.trans h.symm)
   rw[YZ R4,XA Gw];cases hv:v'.ownBlock with
   |none=>exact .inl rfl
   |some k=>exact .inr λh=>key q hq Gw k h.symm hv
  ·rw[XA R4];by_cases Gw:q=i
   ·rw[YZ Gw];cases hv:(ZO G p).ownBlock with
    |none=>exact .inl rfl
    |some k=>exact .inr λh=>key p hp R4 k hv h.symm
   ·rw[XA Gw];exact D0 p q hp hq hpq
 ·intro j hj k;have Af:ZO (λx=>if x=Value.int .i64 i then some v' else G x) j=if j=i then v' else ZO G j:=by
   unfold ZO;by_cases Ay:j=i
   ·subst Ay;simp
   ·have A9:¬(Value.int .i64 (j:Int)=Value.int .i64 (i:Int)):=(by simp;omega);simp[Ay,A9]
  rw[Af];by_cases Ay:j=i
  ·rw[YZ Ay];intro hk;rcases Jt with h|h
   ·exact As i hi k (by rw[<-h];exact hk)
   ·exact XD Ek (h k hk)
  ·rw[XA Ay];exact As j hj k
end Go.Proofs.Tryq
section
namespace Go.Nk
open Go Go.Region Go.Proofs.Tryq
section
theorem Zit(k j:Nat){o q:Oper}{a:Act}{w:World}(hi:ops[k]? =some o)(hj:ops[j]? =some q)(hb:(decide (k<t)&&decide (j<t)&&decide (l.length<ops.size)&&Region.ready .any ops (mark ops.size l)==[k,j])=true)(hw:Region.wanted o (yielded ops a.tmps)=true)(Cp:Region.wanted q (yielded ops a.tmps)=true)
 (h:∀W,Ext w W->o.wp P a W (λa' W'=>Ext W W'/\LX P ops R t (k::l) a' W') FQ)(h2:∀W,Ext w W->q.wp P a W (λa' W'=>Ext W W'/\LX P ops R t (j::l) a' W') FQ):LX P ops R t l a w:=by
 simp only[YG,XG,XW] at hb;unfold LX at*;rw[show ops.size - l.length=(ops.size - (k::l).length)+1 by simp only[YP];omega];refine λW hW=>⟨λh0=>(by rw[h0] at hb;cases hb.2),λi hi'=> ?_⟩
 rw[hb.2] at hi';rcases XE.1 hi' with rfl|hi'
 ·refine⟨λ_=> ?_,λh=>by omega⟩;unfold wpOp;simp only[hi,hw,XQ];exact .inl (h W hW)
 ·obtain rfl:i=j:=by simpa using hi'
  refine⟨λ_=> ?_,λh=>by omega⟩;unfold wpOp;simp only[hj,Cp,XQ];exact .inl (h2 W hW)
variable {d:Nat}{pre:List Nat}
def Zip(a:Act):List (Nat×Value)->Act
 |[]=>a
 |(d,v)::L=>Zip (a.put (some d) v) L
theorem Zia{c:Code}{T:Type}(L:T->List (Nat×Value))(F:T->World->Prop)(h:c.wp P (λe a' w'=>e= .normal/\∃x,a'=Zip a (L x)/\F x w') a w)(k:∀x w',F x w'->R .normal (Zip a (L x)) w'):c.wp P R a w:=
 Go.wp_mono h λe a' w' ⟨he,x,ha,hF⟩=>by subst he ha;exact k x w' hF
end
end Go.Nk
namespace Go.Proofs.Tryq
open Go Go.Nk Go.RowKit
end Go.Proofs.Tryq
end
section
namespace Go.Nk
open Go Go.Region Go.Proofs.Tryq
structure Pre(E:World->World->Prop):Prop where
 rfl':∀w,E w w
 trans:∀{a b c},E a b->E b c->E a c
 drew:∀w,E w w.drew
structure GrE(E:World->World->Prop)(w:World) where
 W:World
 h:E w W
structure ExtX(X:Nat->Prop)(w w':World):Prop where
 size:w.heap.size<=w'.heap.size
 old:∀b,b<w.heap.size->¬X b->w'.heap[b]? =w.heap[b]?
 tape:w'.tape=w.tape
 os:w'.os=w.os
 output:w'.output=w.output
theorem ExtX.pre(X:Nat->Prop):Pre (ExtX X):=
 ⟨λw=>⟨XB _,λ_ _ _=>rfl,rfl,rfl,rfl⟩,λh h'=>⟨XD h.size h'.size,λb hb hx=>(h'.old b (YS hb h.size) hx).trans (h.old b hb hx),h'.tape.trans h.tape,h'.os.trans h.os,h'.output.trans h.output⟩,λw=>⟨XB _,λ_ _ _=>rfl,rfl,rfl,rfl⟩⟩
theorem Ext.toX(h:Ext w w')(X:Nat->Prop):ExtX X w w':=⟨h.size,λb hb _=>h.old b hb,h.tape,h.os,h.output⟩
theorem ExtX.cellS(h:ExtX X w w'){a:Addr}{v:Value}(hx:¬X a.block)(hc:w.cell? a=some v):w'.cell? a=some v:=by
 have A3:a.block<w.heap.size:=by
  unfold World.cell? at hc;split at hc
  ·rename_i hh;exact(YF.1 hh).1
  ·cases hc
 simp only[World.cell?,h.old _ A3 hx] at*;exact hc
instance (X:Nat->Prop)(w:World):Nonempty (GrE (ExtX X) w):=⟨⟨w,(ExtX.pre X).rfl' w⟩⟩
theorem GrE.cell{X:Nat->Prop}{w:World}{a:Addr}{v:Value}(hx:¬X a.block)(hc:w.cell? a=some v)(p:GrE (ExtX X) w):p.W.cell? a=some v:=p.h.cellS hx hc
section
variable {E:World->World->Prop}
def ZhT(P:Program)(ops:Array Oper)(R:Exit->Act->World->Prop)(E:World->World->Prop):Nat->Array Bool->Act->World->Prop
 |0,listed,a,w=>Region.ready .any ops listed=[]/\R .normal a w
 |n+1,listed,a,w=>(Region.ready .any ops listed=[]->R .normal a w)/\∀i∈Region.ready .any ops listed,
   wpOp P ops FQ i (λa' W'=>E w W'/\ZhT P ops R E n (listed.setIfInBounds i true) a' W') a w
theorem wpAny_of_X:∀(n:Nat)(l:Array Bool)(a:Act)(w:World),ZhT P ops R E n l a w->wpAny P .any ops R n l a w
 |0,_,_,w,h=>h
 |n+1,_,_,w,h=>⟨h.1,λi hi=>Zf8 noFQ (λa' w' h'=>wpAny_of_X n _ a' w' h'.2) (h.2 i hi)⟩
def YVX(P:Program)(o:Oper)(a:Act)(W:World)(v:Value):Prop:=match (execOp a.eval o).run P W with
 | .ok (.value u) W'=>u=v/\W'=W
 | .ok .skip W'=>v=undef/\W'=W
 |_=>False
def YX(P:Program)(ops:Array Oper)(E:World->World->Prop)(w:World)(o:Oper)(v:Value)(a:Act):Prop:=
 (Region.wanted o (yielded ops a.tmps)=true/\∀W,E w W->YVX P o a W v)\/(Region.wanted o (yielded ops a.tmps)=false/\v=undef)
theorem YX.ext(hE:Pre E){w W:World}{o:Oper}{v:Value}{a:Act}(h:YX P ops E w o v a)(e:E w W):YX P ops E W o v a:=
 h.imp (λh=>⟨h.1,λW' h'=>h.2 W' (hE.trans e h')⟩) id
theorem YX.kept{d:List Deferred}(D0:oi.apart ops oj=true)(I0:∀cs b,oi.op≠.select cs b)(hy:YX P ops E w oi v a):YX P ops E w oi v ({a with defers:=d}.put oj.dst u):=by
 obtain⟨h1,h2,h3⟩:=RY D0;have e1:execOp ({a with defers:=d}.put oj.dst u).eval oi=execOp a.eval oi:=execOp_put oi I0 _ oj.dst u h3;have e2:=wanted_put oi ({a with defers:=d}:Act) oj.dst u h3;unfold YX YVX at*;rw[e1,e2];exact hy
theorem YX.wpOp(hE:Pre E){i:Nat}{o:Oper}{v:Value}{a:Act}{w:World}(hi:ops[i]? =some o)(hy:YX P ops E w o v a){K:Act->World->Prop}{R:Exit->Act->World->Prop}(h:K (a.put o.dst v) w):wpOp P ops R i K a w:=by
 unfold Go.wpOp;simp only[hi];rcases hy with⟨hw,hv⟩|⟨hw,rfl⟩
 ·simp only[hw,XQ];refine .inl ?_;have h3:=hv w (hE.rfl' w);unfold YVX at h3;unfold Oper.wp;generalize (execOp a.eval o).run P w=r at*;cases r with
  |ok n w'=>
   cases n<;>simp only at h3<;>simp only[Oper.upon]
   case value u=>obtain⟨rfl,rfl⟩:=h3;exact h
   case skip=>obtain⟨rfl,rfl⟩:=h3;exact h
  |halt x w'=>simp only at h3
 ·simp only[hw,YR,XZ];exact h
theorem ZhA(hE:Pre E){i:Nat}{oi:Oper}{v:Value}(hi:ops[i]? =some oi)(De:∀(j:Nat)(o:Oper) cs b,ops[j]? =some o->o.op≠.select cs b):
 ∀(n:Nat)(listed:Array Bool)(a:Act)(w:World),
  (∀j oj,ops[j]? =some oj->j≠i->listed.getD j true=false->(∀e∈oj.after,Region.binds .any e=true->e.on≠i)->oi.apart ops oj=true)->
  i∈Region.ready .any ops listed->YX P ops E w oi v a->ZhT P ops R E n (listed.setIfInBounds i true) (a.put oi.dst v) w->ZhT P ops R E (n+1) listed a w:=by
 intro n
 induction n with
 |zero=>
  intro listed a w _ hr hy H;refine⟨λh=>(by rw[h] at hr;cases hr),λj hj=> ?_⟩;by_cases Ay:j=i
  ·subst Ay;exact hy.wpOp hE hi ⟨hE.rfl' w,H⟩
  ·have:=TE hj Ay;rw[H.1] at this;cases this
 |succ n ih=>
  intro listed a w Di hr hy H;refine⟨λh=>(by rw[h] at hr;cases hr),λj hj=> ?_⟩;by_cases Ay:j=i
  ·subst Ay;exact hy.wpOp hE hi ⟨hE.rfl' w,H⟩
  ·obtain⟨Eg,oj,Cb,Aq⟩:=UW.1 hj;have D0:=Di j oj Cb Ay Eg (ZeW (j:=j) (UW.1 hr).1 Aq)
   have F7:∀k ok,ops[k]? =some ok->k≠i->(listed.setIfInBounds j true).getD k true=false->
    (∀e∈ok.after,Region.binds .any e=true->e.on≠i)->oi.apart ops ok=true:=λk ok hk Gu Kj Ez=>by
    refine Di k ok hk Gu ?_ Ez;by_cases Iv:j=k
    ·subst Iv;exact Eg
    ·rw[TW true Iv] at Kj;exact Kj
   have h1:=H.2 j (TE hj Ay);refine RR (λa' w' h3=> ?_) (ZeV Cb D0 (λcs b=>De j oj cs b Cb) h1);obtain⟨⟨u,d,rfl⟩,h4,h5⟩:=h3;refine⟨h4,ih (listed.setIfInBounds j true) _ w' F7 (TE hr (SC Ay)) (YX.kept D0 (λcs b=>De i oi cs b hi) (hy.ext hE h4)) ?_⟩;rw[TF _ _ Ay];exact h5
def LXE(P:Program)(ops:Array Oper)(R:Exit->Act->World->Prop)(E:World->World->Prop)(l:List Nat)(a:Act)(w:World):Prop:=ZhT P ops R E (ops.size - l.length) (mark ops.size l) a w
def ZhQ(ops:Array Oper)(l:List Nat)(k:Nat):Bool:=decide (l.length<ops.size)&&(Region.ready .any ops (mark ops.size l)).contains k&&Region.free .any ops (mark ops.size l) k
theorem ZhR(hE:Pre E){k:Nat}{o:Oper}{v:Value}{a:Act}{w:World}(hs:Region.noSelect ops=true)(hi:ops[k]? =some o)(hf:ZhQ ops l k=true)(hy:YX P ops E w o v a)(h:LXE P ops R E (k::l) (a.put o.dst v) w):LXE P ops R E l a w:=by
 unfold ZhQ at hf;simp only[YG,XG] at hf;obtain⟨⟨h2,h3⟩,h4⟩:=hf;unfold LXE at*;rw[show ops.size - l.length=(ops.size - (k::l).length)+1 by simp only[YP];omega];exact ZhA hE hi (RU hs) _ _ a w (Region.free_spec hi h4) (by simpa using h3) hy h
theorem Zh4(k:Nat){o:Oper}{a:Act}{w:World}(hi:ops[k]? =some o)(hb:(decide (l.length<ops.size)&&Region.ready .any ops (mark ops.size l)==[k])=true)(hw:Region.wanted o (yielded ops a.tmps)=true)
 (h:o.wp P a w (λa' W'=>E w W'/\LXE P ops R E (k::l) a' W') FQ):LXE P ops R E l a w:=by
 simp only[YG,XG,XW] at hb;unfold LXE at*;rw[show ops.size - l.length=(ops.size - (k::l).length)+1 by simp only[YP];omega];refine⟨λh0=>(by rw[h0] at hb;cases hb.2),λi hi'=> ?_⟩;rw[hb.2] at hi';obtain rfl:i=k:=by simpa using hi'
 unfold wpOp;simp only[hi,hw,XQ];exact .inl h
theorem Zir(k j:Nat){o q:Oper}{a:Act}{w:World}(hi:ops[k]? =some o)(hj:ops[j]? =some q)(hb:(decide (l.length<ops.size)&&Region.ready .any ops (mark ops.size l)==[k,j])=true)(hw:Region.wanted o (yielded ops a.tmps)=true)(Cp:Region.wanted q (yielded ops a.tmps)=true)
 (h:o.wp P a w (λa' W'=>E w W'/\LXE P ops R E (k::l) a' W') FQ)(h2:q.wp P a w (λa' W'=>E w W'/\LXE P ops R E (j::l) a' W') FQ):LXE P ops R E l a w:=by
 simp only[YG,XG,XW] at hb;unfold LXE at*;rw[show ops.size - l.length=(ops.size - (k::l).length)+1 by simp only[YP];omega];refine⟨λh0=>(by rw[h0] at hb;cases hb.2),λi hi'=> ?_⟩;rw[hb.2] at hi';rcases XE.1 hi' with rfl|hi'
 ·unfold wpOp;simp only[hi,hw,XQ];exact .inl h
 ·obtain rfl:i=j:=by simpa using hi'
  unfold wpOp;simp only[hj,Cp,XQ];exact .inl h2
theorem ZhF(hk:(ops.size==l.length&&(Region.ready .any ops (mark ops.size l)).isEmpty)=true)(h:R .normal a w):LXE P ops R E l a w:=by
 rw[YG,XW,QO] at hk;unfold LXE;rw[show ops.size - l.length=0 by omega];exact⟨hk.2,h⟩
theorem ZhU(ho:ZeC o=true){a:Act}{C:World->Prop}{W:World}{v:Value}(h3:o.quietAt P a C W v):YVX P o a W v:=by
 unfold Oper.quietAt at h3;unfold YVX;cases hr:(execOp a.eval o).run P W with
 |ok n w'=>
  rw[hr] at h3;cases n<;>simp only[Oper.quietUpon] at h3
  case value u=>exact⟨h3.2,h3.1⟩
  case skip=>exact⟨h3.2,h3.1⟩
  case enter f args=>exact(ZeK ho hr).elim
 |halt x w'=>rw[hr] at h3;simp only[Oper.quietUpon] at h3
def Zhu(ops:Array Oper):List Nat->List Nat->Bool
 |[],_=>true
 |k::ks,l=>ZhQ ops l k&&(match ops[k]? with|some o=>ZeC o|none=>false)&&Zhu ops ks (k::l)
theorem ZhN(hE:Pre E){w:World}(hs:Region.noSelect ops=true):∀(ks l:List Nat)(a:Act),Zhu ops ks l=true->wpQuiet P ops (λw'=>∃p:GrE E w,w'=p.W) (λa'=>LXE P ops R E (doneL ks l) a' w) (ZeD ops.toList ks) a->LXE P ops R E l a w:=by
 intro ks
 induction ks with
 |nil=>intro l a _ h;exact h
 |cons k ks ih=>
  intro l a hp h;simp only[Zhu,YG] at hp;obtain⟨⟨hf,ho⟩,hp⟩:=hp;cases hi:ops[k]? with
  |none=>rw[hi] at ho;cases ho
  |some o=>
   rw[hi] at ho;rw[ZeD,show ops.toList[k]? =some o by rw[Array.getElem?_toList];exact hi] at h;have hq:qOp P ops (λw'=>∃p:GrE E w,w'=p.W) k (wpQuiet P ops (λw'=>∃p:GrE E w,w'=p.W) (λa'=>LXE P ops R E (doneL (k::ks) l) a' w) (ZeD ops.toList ks)) a:=by
    unfold qOp;simp only[hi];exact h
   obtain⟨v,hy,hK⟩:=yieldsIn_of_qOp hi hq;exact ZhR hE hs hi hf (hy.imp (λh=>⟨h.1,λW hW=>ZhU ho (h.2 W ⟨⟨W,hW⟩,rfl⟩)⟩) id) (ih _ _ hp hK)
theorem Zh8(hE:Pre E){o:List Oper}(ks:List Nat){a:Act}{w:World}(hs:Region.noSelect o.toArray=true)(hp:Zhu o.toArray ks l=true)(h:wpQuiet P o.toArray (λw'=>∃p:GrE E w,w'=p.W) (λa'=>LXE P o.toArray R E (doneL ks l) a' w) (ZeD o ks) a):LXE P o.toArray R E l a w:=
 ZhN hE hs ks l a hp h
theorem Zhk(E:World->World->Prop){id:Nat}{a:Act}{w:World}(hm:P.follows .mixedOrders=true)(h:LXE P ops R E [] a w.drew):(Code.region id ops true).wp P R a w:=by
 unfold LXE at h;exact wp_region_any hm (wpAny_of_X _ _ _ _ h)
theorem Zie{K:Act->World->Prop}(h:∃W',(execOp a.eval o).run P W= .ok .skip W'/\K (a.put o.dst undef) W'):o.wp P a W K FQ:=by
 obtain⟨W',hr,h⟩:=h;unfold Oper.wp;rw[hr];simp only[Oper.upon];exact h
end
end Go.Nk
namespace Go.Proofs.Tryq
open Go Go.Nk Go.RowKit
theorem Zhv(h:w.grownBy w' ow)(hX:∀k,ow=some k->X k):ExtX X w w':=
 ⟨h.size,λb hb hn=>h.block b hb (λe=>hn (hX b e.symm)),h.tape,h.os,h.output⟩
end Go.Proofs.Tryq
end
