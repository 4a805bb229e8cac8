import Derived.Test.YtedkbdkbbnemlaaGreatDoorNk22
import Derived.Laws.NewBlocks
set_option linter.all false
namespace Go.Proofs.Tryq
set_option maxRecDepth 100000
set_option maxHeartbeats 8000000
open Go Go.Nk Go.RowKit
structure Ctb(a b c m:Int)(base:Option Addr)(n cap:Nat)(T:List (List Int))(B sb nb yb fb kb yk:Nat)(W:World):Prop where
 hs:W.heap[sb]? =some (.cells #[.int .i64 a,.int .i64 b,.int .i64 c,.int .i64 m,.slice base n cap] 120)
 hnb:W.heap[nb]? =some (.cells #[.map (some kb)] 183)
 hyb:W.heap[yb]? =some (.cells #[.map (some yk)] 182)
 hfn:W.heap[fb]? =some (.cells #[.func (.func 145) #[] #[.pointer (some ⟨sb,0,none⟩),.pointer (some ⟨nb,0,none⟩),.pointer (some ⟨yb,0,none⟩),.pointer (some ⟨fb,0,none⟩)]] 184)
 rows:∃G,MapAt prog 3 W yk G/\∀i:Nat,i<n->Shr B W ((G (.int .i64 i)).getD (.slice none 0 0)) (byL T i)
 ne:sb≠kb/\nb≠kb/\yb≠kb/\fb≠kb/\yk≠kb
 sz:B<=W.heap.size
theorem Ctb.step{a b c m:Int}{base:Option Addr}{n cap:Nat}{T:List (List Int)}{B sb nb yb fb kb yk:Nat}{W W':World}(h:Ctb a b c m base n cap T B sb nb yb fb kb yk W)(hX:Map1 kb W W'){es:Array MapEntry}{ck:Nat}(hk:W.heap[kb]? =some (.map es ck)):Ctb a b c m base n cap T B sb nb yb fb kb yk W':=by
 obtain⟨G,hG,hr⟩:=h.rows
 exact⟨(hX.block _ (Z5 h.hs) h.ne.1).trans h.hs,(hX.block _ (Z5 h.hnb) h.ne.2.1).trans h.hnb,(hX.block _ (Z5 h.hyb) h.ne.2.2.1).trans h.hyb,(hX.block _ (Z5 h.hfn) h.ne.2.2.2.1).trans h.hfn,
  ⟨G,hG.keep (hX.block _ hG.lt h.ne.2.2.2.2),fun i hi=>(hr i hi).map1 hX hk⟩,h.ne,Nat.le_trans h.sz hX.size⟩
theorem Z2B{kb:Nat}(w:World)(o:Obj):Map1 kb w (Go.ChangeMaps.setBlock w kb o):=
 ⟨rfl,rfl,rfl,by rw[Z2s];exact Nat.le_refl _,fun k _ hn=>Z0O hn o⟩
open Classical in
theorem Known.update{T:List (List Int)}{n B kb:Nat}{w:World}{G:Value->Option Value}(hT:Z62 T)(Jz:∀l∈T,(∀p∈l,0<=p/\p<(n:Int))/\l.length<=9)(hn:n<=9)(h:Known T n B kb w G)(key:Nat->Bool)(V:Value)(hV:Shr B w V (Zk T n 0 key)):
 ∃o G',(Instr.mapUpdate 183 (.map (some kb)) (.agg (Zs key)) V).run prog w= .ok () (Go.ChangeMaps.setBlock w kb o)/\Known T n B kb (Go.ChangeMaps.setBlock w kb o) G':=by
 obtain⟨kl,F2⟩:=Z4k key;obtain⟨es,ck,Fi⟩:=h.isMap;obtain⟨o,h1,h2⟩:=h.map.update K138 u183 F2 V;refine⟨o,_,h1,h2,fun key' v hv=> ?_⟩;split at hv
 ·rename_i he;cases hv;have hk:Zs key'=Zs key:=by simpa using he
  rw[Z1W (N:=n) hT (fun l hl p hp=>((Jz l hl).1 p hp).2) n 0 key' key (fun j _ hj=>ZbV hk j (by omega))];exact hV.map1 (Z2B w o) Fi
 ·exact(h.val key' v hv).map1 (Z2B w o) Fi
theorem Z3N{B:Nat}{w:World}:∀{vs:List Value}{ls:List (List Int)},Each (fun u s=>OwnI B w u s) vs ls->∀u∈vs,u.oneCell'=true
 |[],_,_,u,hu=>by cases hu
 |v::vs,[],h,u,hu=>h.elim
 |v::vs,l::ls,⟨h1,h2⟩,u,hu=>by
  rcases List.mem_cons.1 hu with rfl|hu
  ·rcases h1.2 with⟨rfl,_⟩|⟨g,cp,_,rfl,_⟩<;>rfl
  ·exact Z3N h2 u hu
theorem Z2C(T:List (List Int)):∀(d i:Nat)(u:Nat->Bool),(Zk T d i u).length<=d
 |0,_,_=>by simp[Zk]
 |d+1,i,u=>by
  have hb:∀a b:List (List Int),a.length<=d+1->b.length<=d+1->(Z0q a b).length<=d+1:=fun a b h h'=>by unfold Z0q;split<;>assumption
  have hf:∀(B m:List (List Int)),m.length<=d+1->(B.foldl (ZL u (Zk T d (i+1))) m).length<=d+1:=by
   intro B
   induction B with
   |nil=>exact fun m h=>h
   |cons l B ih=>
    intro m h;rw[List.foldl_cons];refine ih _ ?_;unfold ZL;split
    ·exact h
    ·exact hb _ _ h (by rw[List.length_cons];have:=Z2C T d (i+1) (by assumption);omega)
  rw[Zk];exact hb _ _ (hf _ _ (by simp)) (by have:=Z2C T d (i+1) u;omega)
theorem Z8B(a b c m:Int)(base:Option Addr)(n cap:Nat)(T:List (List Int))(B sb nb yb fb kb yk:Nat)(hn:n<=9)(hT:Z62 T)(Xn:T.length<=1000000)(Jz:∀l∈T,(∀p∈l,0<=p/\p<n)/\l.length<=9):
 ∀(d i0:Nat)(used:Nat->Bool)(W:World)(G:Value->Option Value),i0+d=n->Ctb a b c m base n cap T B sb nb yb fb kb yk W->Known T n B kb W G->
 Calls prog 145 #[.int .i64 i0,.agg (Zs used),.pointer (some ⟨sb,0,none⟩),.pointer (some ⟨nb,0,none⟩),.pointer (some ⟨yb,0,none⟩),.pointer (some ⟨fb,0,none⟩)] W fun e W'=>∃v G',e= .returned v/\Shr B W' v (Zk T d i0 used)/\Known T n B kb W' G'/\Map1 kb W W':=by
 intro d
 induction d with
 |zero=>
  intro i0 used W G hd hC hK;have hi:i0=n:=by omega
  subst hi;have s4:=Z0 hC.hs 4;simp only[List.getElem?_toArray,List.getElem?_cons_zero,List.getElem?_cons_succ] at s4;have A3:=Z5 hC.hs;generalize E3:Zs used=no;have Xm:no.size=9:=by rw[<-E3];rfl
  go_enter func145,ntmps145;go_wp2;refine wp_scope_straight ?_;go_wp2;rw[Exit.noGoto_ret];refine bodyPost_ret (results_tmp rfl _ _ _) rfl ?_;exact⟨_,G,rfl,Shr.nil _ _,hK.ext ((Ext.rfl' W).alloc _),Map1.of_ext ((Ext.rfl' W).alloc _)⟩
 |succ d ih=>
  intro i0 used W G hd hC hK;have s4:=Z0 hC.hs 4;simp only[List.getElem?_toArray,List.getElem?_cons_zero,List.getElem?_cons_succ] at s4;have A3:=Z5 hC.hs;have Aj:((i0:Int)==(n:Int))=false:=by simp;omega
  simp only[Zs];go_enter func145,ntmps145;go_wp2;refine wp_scope_straight ?_;go_wp2;have Bf:Ext W ((W.alloc (.cells (Zs used) 138)).alloc (.cells (Zs used) 138)):=((Ext.rfl' W).alloc _).alloc _;have Cm:((W.alloc (.cells (Zs used) 138)).alloc (.cells (Zs used) 138)).heap[W.heap.size]? =some (.cells (Zs used) 138):=by simp only[Z3,Z2];rw[if_neg (by omega),if_pos trivial]
  have M5:((W.alloc (.cells (Zs used) 138)).alloc (.cells (Zs used) 138)).heap[W.heap.size+1]? =some (.cells (Zs (Z51 0 used)) 138):=by
   simp only[Z3,Z2];rw[if_pos trivial];rw[Z1o (out:=Z51 0 used) (out':=used) (fun j _=>by simp[Z51])]
  simp only[Zs] at Bf Cm M5;generalize (W.alloc _).alloc _=W1 at Bf Cm M5⊢;have hi9:i0<9:=by omega
  go_loopw [10,27] (fun _ v27 wr=>∃i:Nat,i<=i0/\v27= .int .i64 i/\Ext W wr/\wr.heap[W.heap.size]? =some (.cells (Zs used) 138)/\wr.heap[W.heap.size+1]? =some (.cells (Zs (Z51 i used)) 138)) (fun _ v27 _=>i0 - (intOf v27).toNat)
  case atStart=>exact⟨0,Nat.zero_le _,rfl,Bf,Cm,M5⟩
  case round=>
   obtain⟨i,hi,rfl,hE,h0,h1⟩:=hrel;clear Bf Cm M5;by_cases hii:i=i0
   ·subst hii;have Sc:=hK.ext hE;obtain⟨kl,F2⟩:=Z4k (Z51 i used);have Gb:=Sc.map.lookup K138 u183 (Zap wr) F2 true;have Ez:Zk T (d+1) i used=Zk T n 0 (Z51 i used):=(by rw[Zao (N:=n) hT (fun l hl p hp=>((Jz l hl).1 p hp).2),hd]);have Sd:=(Map1.of_ext (kb:=kb) hE).block nb (Z5 hC.hnb) hC.ne.2.1;have n0:=Z0 (Sd.trans hC.hnb) 0;simp only[List.getElem?_toArray,List.getElem?_cons_zero] at n0;have y0:=Z0 h1 0;have y1:=Z0 h1 1;have y2:=Z0 h1 2;have y3:=Z0 h1 3;have y4:=Z0 h1 4;have y5:=Z0 h1 5;have y6:=Z0 h1 6;have y7:=Z0 h1 7;have y8:=Z0 h1 8;simp only[Zs,List.getElem?_toArray,List.getElem?_cons_zero,List.getElem?_cons_succ] at y0 y1 y2 y3 y4 y5 y6 y7 y8 Gb;cases hG:G (.agg (Zs (Z51 i used))) with
    |some v=>
     have hv:=Sc.val _ v hG;simp only[Zs] at hG;rw[hG] at Gb;simp only[if_true,Option.getD_some,Option.isSome_some] at Gb;go_wp2;rw[Exit.noGoto_ret];refine bodyPost_ret (results_tmp rfl _ _ _) rfl ?_;exact⟨v,G,rfl,by rw[Ez];exact hv,Sc,Map1.of_ext hE⟩
    |none=>
     have hGn:G (.agg (Zs (Z51 i used)))=none:=hG;simp only[Zs] at hG;rw[hG] at Gb;simp only[if_true,Option.getD_none,Option.isSome_none] at Gb;obtain⟨es,ck,Fi⟩:=hK.isMap;have Gl:=hC.step (Map1.of_ext hE) Fi;obtain⟨Gy,hGy,Bo⟩:=Gl.rows;obtain⟨kl3,Xo⟩:=Z3M i (by omega);have Xp:=hGy.lookup K3 u182 (Zap wr) Xo false;have Ar:=Bo i (by omega);simp only[if_neg (show¬(false=true) by decide)] at Xp;generalize (Gy (.int .i64 i)).getD (.slice none 0 0)=rv at Xp Ar;obtain⟨ao,cp,rfl⟩:=Ar.form;have x0:=Z0 Gl.hyb 0;simp only[List.getElem?_toArray,List.getElem?_cons_zero] at x0;clear hGy Bo;go_wp2;refine wp_label ?_;go_wp2;have hmax:(byL T i).length<=1000000:=Nat.le_trans (List.length_filter_le _ _) Xn;obtain⟨wo,rfl⟩:∃wo:World,wo=wr:=⟨_,rfl⟩;clear y0 y1 y2 y3 y4 y5 y6 y7 y8 Gb Xp n0 x0;go_loopw [13,45] (fun v13 v45 w2=>∃(j:Nat)(G':Value->Option Value),j<=(byL T i).length/\v45= .int .i64 j/\Shr B w2 v13 (((byL T i).take j).foldl (ZL used (Zk T d (i+1))) [])/\Known T n B kb w2 G'/\Map1 kb wo w2) (fun _ v45 _=>(byL T i).length - (intOf v45).toNat)
     case atStart=>exact⟨0,G,Nat.zero_le _,rfl,Shr.nil _ _,Sc,Map1.refl _ _⟩
     case round=>
      obtain⟨j,G',hj,rfl,I7,Q9,Cx⟩:=hrel;obtain⟨es2,ck2,Og⟩:=Sc.isMap;have F2:=hK.map.lt;have Se:=Gl.step Cx Og;have z0:=Z0 Se.hfn 0;simp only[List.getElem?_toArray,List.getElem?_cons_zero] at z0;have Pu:=Z5 h0;have h7:wr.heap[W.heap.size]? =some (.cells (Zs used) 138):=(Cx.block _ Pu (by omega)).trans h0;have y0:=Z0 h7 0;have y1:=Z0 h7 1;have y2:=Z0 h7 2;have y3:=Z0 h7 3;have y4:=Z0 h7 4;have y5:=Z0 h7 5;have y6:=Z0 h7 6;have y7:=Z0 h7 7;have y8:=Z0 h7 8;simp only[Zs,List.getElem?_toArray,List.getElem?_cons_zero,List.getElem?_cons_succ] at y0 y1 y2 y3 y4 y5 y6 y7 y8;obtain⟨a13,c13,rfl⟩:=I7.form;by_cases Gx:j=(byL T i).length
      ·have Oh:Shr B wr (.slice a13 ((byL T i).foldl (ZL used (Zk T d (i+1))) []).length c13) ((byL T i).foldl (ZL used (Zk T d (i+1))) []):=(by rw[Gx,List.take_length] at I7;exact I7);have B0:=ih (i+1) used wr G' (by omega) Se Q9;have F9:Zk T (d+1) i used=Z0q ((byL T i).foldl (ZL used (Zk T d (i+1))) []) (Zk T d (i+1) used):=rfl;rw[show((i+1:Nat):Int)=(i:Int)+1 from rfl] at B0;simp only[Zs] at B0;subst Gx;rw[List.take_length];clear I7;generalize (byL T i).foldl (ZL used (Zk T d (i+1))) []=M at Oh F9⊢;generalize Zk T d (i+1) used=M2 at B0 F9;by_cases Bv:M.length<M2.length
       ·have Dz:=fun a3 c3 w=>Z1V a13 M.length c13 a3 M2.length c3 w
        simp only[if_pos Bv] at Dz
        go_wp2_with (first
         |(go_at_call 145;refine B0.mono ?_;rintro e w3 ⟨v3,G3,rfl,Oi,Sg,Kx⟩
           obtain⟨a3,c3,rfl⟩:=Oi.form;obtain⟨es3,ck3,J7⟩:=Q9.isMap;have Q7:=Se.step Kx J7;have Si:=Oh.map1 Kx J7;have n3:=Z0 Q7.hnb 0;have F4:w3.heap[W.heap.size+1]? =some (.cells (Zs (Z51 i used)) 138):=(Kx.block _ (by have:=Cx.size;have:=Z5 h1;omega) (by omega)).trans ((Cx.block _ (Z5 h1) (by omega)).trans h1);have y0:=Z0 F4 0;have y1:=Z0 F4 1;have y2:=Z0 F4 2;have y3:=Z0 F4 3;have y4:=Z0 F4 4;have y5:=Z0 F4 5;have y6:=Z0 F4 6;have y7:=Z0 F4 7;have y8:=Z0 F4 8;simp only[Zs,List.getElem?_toArray,List.getElem?_cons_zero,List.getElem?_cons_succ] at y0 y1 y2 y3 y4 y5 y6 y7 y8 n3;obtain⟨o,G4,Eo,Xq⟩:=Sg.update hT Jz hn (Z51 i used) (.slice a3 M2.length c3) (by rw[<-Ez,F9];simp only[Z0q,if_pos Bv];assumption);have Sj:=Z2B (kb:=kb) w3 o;simp only[Zs] at Eo)
         |(go_at_call 146;refine(Dz _ _ _).mono ?_;rintro e w4 ⟨rfl,Mi⟩;subst Mi))
        obtain⟨es4,ck4,Oj⟩:=Sg.isMap;rw[Exit.noGoto_ret];refine bodyPost_ret (results_tmp rfl _ _ _) rfl ?_;exact⟨_,G4,rfl,by rw[F9];simp only[Z0q,if_pos Bv];exact Oi.map1 Sj Oj,Xq,((Map1.of_ext hE).trans Cx).trans (Kx.trans Sj)⟩
       ·have Dz:=fun a3 c3 w=>Z1V a13 M.length c13 a3 M2.length c3 w
        simp only[if_neg Bv] at Dz
        go_wp2_with (first
         |(go_at_call 145;refine B0.mono ?_;rintro e w3 ⟨v3,G3,rfl,Oi,Sg,Kx⟩
           obtain⟨a3,c3,rfl⟩:=Oi.form;obtain⟨es3,ck3,J7⟩:=Q9.isMap;have Q7:=Se.step Kx J7;have Si:=Oh.map1 Kx J7;have n3:=Z0 Q7.hnb 0;have F4:w3.heap[W.heap.size+1]? =some (.cells (Zs (Z51 i used)) 138):=(Kx.block _ (by have:=Cx.size;have:=Z5 h1;omega) (by omega)).trans ((Cx.block _ (Z5 h1) (by omega)).trans h1);have y0:=Z0 F4 0;have y1:=Z0 F4 1;have y2:=Z0 F4 2;have y3:=Z0 F4 3;have y4:=Z0 F4 4;have y5:=Z0 F4 5;have y6:=Z0 F4 6;have y7:=Z0 F4 7;have y8:=Z0 F4 8;simp only[Zs,List.getElem?_toArray,List.getElem?_cons_zero,List.getElem?_cons_succ] at y0 y1 y2 y3 y4 y5 y6 y7 y8 n3;obtain⟨o,G4,Eo,Xq⟩:=Sg.update hT Jz hn (Z51 i used) (.slice a13 M.length c13) (by rw[<-Ez,F9];simp only[Z0q,if_neg Bv];assumption);have Sj:=Z2B (kb:=kb) w3 o;simp only[Zs] at Eo)
         |(go_at_call 146;refine(Dz _ _ _).mono ?_;rintro e w4 ⟨rfl,Mi⟩;subst Mi))
        obtain⟨es4,ck4,Oj⟩:=Sg.isMap;rw[Exit.noGoto_ret];refine bodyPost_ret (results_tmp rfl _ _ _) rfl ?_;exact⟨_,G4,rfl,by rw[F9];simp only[Z0q,if_neg Bv];exact Si.map1 Sj Oj,Xq,((Map1.of_ext hE).trans Cx).trans (Kx.trans Sj)⟩
      ·have Ct:j<(byL T i).length:=(by omega);obtain⟨_,vs,hvr,I8⟩:=Ar.map1 Cx Og;obtain⟨l,hl⟩:∃l,(byL T i)[j]? =some l:=⟨_,List.getElem?_eq_getElem Ct⟩;obtain⟨u,hu,Es⟩:=I8.get j l hl;have Q5:=List.mem_of_getElem? hl;obtain⟨Ee,tl,Sl⟩:=Z6Q hT Q5;have hlT:=Jz l (List.mem_filter.1 Q5).1;obtain⟨gr,cr,Sm,So,Ky⟩:=hvr.form (by rw[I8.length];omega);obtain⟨rfl,Kz,rfl⟩:ao=some ⟨gr,0,none⟩/\(byL T i).length=vs.length/\cp=cr:=(by simpa using Sm);have La:=hvr.cells (g:=gr) rfl j u hu;rw[Z0c] at La;obtain⟨gl,cl,rfl,Sq,J8⟩:=Es.form (by rw[Sl];simp);have V3:((byL T i).take (j+1)).foldl (ZL used (Zk T d (i+1))) []=ZL used (Zk T d (i+1)) (((byL T i).take j).foldl (ZL used (Zk T d (i+1))) []) l:=(by rw[Z0G hl,List.foldl_append];rfl);clear Sl;have Ra:(0:Int)<=(j:Int):=(by omega);have hjL:(j:Int)<((byL T i).length:Int):=(by omega);go_wp2;have B6:Ext wr (wr.alloc (.cells (Zs used) 138)):=(Ext.rfl' wr).alloc _;have h5:(wr.alloc (.cells (Zs used) 138)).heap[wr.heap.size]? =some (.cells (Zs used) 138):=(by rw[Z3,if_pos rfl]);simp only[Zs] at B6;have h5':(wr.alloc (.cells #[.bool (used 0),.bool (used 1),.bool (used 2),.bool (used 3),.bool (used 4),.bool (used 5),.bool (used 6),.bool (used 7),.bool (used 8)] 138)).heap[wr.heap.size]? =some (.cells (Zs used) 138):=h5
       clear h5 y0 y1 y2 y3 y4 y5 y6 y7 y8;generalize wr.alloc _=w6 at B6 h5'⊢;obtain⟨wq,rfl⟩:∃wq:World,wq=wr:=⟨_,rfl⟩;go_loopw [52] (fun v52 w3=>∃(k:Nat)(u':Nat->Bool),k<=l.length/\v52= .int .i64 k/\Ext wq w3/\w3.heap[wq.heap.size]? =some (.cells (Zs u') 138)/\Hid (take1 used l=take1 u' (l.drop k))) (fun v52 _=>l.length - (intOf v52).toNat)
       case atStart=>exact⟨0,used,Nat.zero_le _,rfl,B6,h5',rfl⟩
       case round=>
        obtain⟨k,u',hk,rfl,Bz,h6,Ol⟩:=hrel;by_cases Xr:k=l.length
        ·subst Xr;have Sr:take1 used l=some u':=(by rw[Ol.out,List.drop_length];rfl);have Qa:=Se.step (Map1.of_ext Bz) (Q9.isMap).choose_spec.choose_spec;have Qb:=Q9.ext Bz;have z6:=Z0 Qa.hfn 0;simp only[List.getElem?_toArray,List.getElem?_cons_zero] at z6;have y0:=Z0 h6 0;have y1:=Z0 h6 1;have y2:=Z0 h6 2;have y3:=Z0 h6 3;have y4:=Z0 h6 4;have y5:=Z0 h6 5;have y6:=Z0 h6 6;have y7:=Z0 h6 7;have y8:=Z0 h6 8;simp only[Zs,List.getElem?_toArray,List.getElem?_cons_zero,List.getElem?_cons_succ] at y0 y1 y2 y3 y4 y5 y6 y7 y8;have ho6:=Es.ext Bz;have Ss:=I7.ext Bz;have hfbl:fb<wr.heap.size:=Z5 Qa.hfn;have hwql:wq.heap.size<wr.heap.size:=Z5 h6;have Lb:ZL used (Zk T d (i+1)) (((byL T i).take j).foldl (ZL used (Zk T d (i+1))) []) l=Z0q (((byL T i).take j).foldl (ZL used (Zk T d (i+1))) []) (l::Zk T d (i+1) u'):=(by simp only[ZL,Sr]);have Su:∀W8,Ext wr W8->_:=fun W8 Qc=>ih (i+1) u' W8 G' (by omega) (Qa.step (Map1.of_ext Qc) (Qb.isMap).choose_spec.choose_spec) (Qb.ext Qc)
         have Mj:=Z6s wr B 27 #[.slice (some ⟨gl,0,none⟩) l.length cl] 1 wr.heap.size rfl Qa.sz rfl (by simp[maxLen]);rw[show((i+1:Nat):Int)=(i:Int)+1 from rfl] at Su;simp only[Zs] at Su;generalize ((byL T i).take j).foldl (ZL used (Zk T d (i+1))) []=Mp at Ss Lb V3⊢;have Gm:(Zk T d (i+1) u').length<=1000000:=Nat.le_trans (Z2C T d (i+1) u') (by omega);generalize Zk T d (i+1) u'=M9 at Su Lb Gm;by_cases Bv:Mp.length<M9.length+1
         ·have Dz:=fun a3 c3 w=>Z1V a13 Mp.length c13 a3 (M9.length+1) c3 w
          simp only[if_pos Bv] at Dz
          go_wp2_with (first
           |(go_at_call 145;refine(Su _ (by(repeat (with_reducible first|assumption|exact Ext.rfl' _|apply Ext.alloc|apply Ext.drew)))).mono ?_;rintro e w9 ⟨v9,G9,rfl,Sv,Xs,Om⟩
             obtain⟨a9,c9,rfl⟩:=Sv.form;obtain⟨J9,vs9,Hs,Qd⟩:=Sv;have Lc:=Qd.length;have Ja:=Z2R (Mj:(wr.alloc (.cells #[.slice (some ⟨gl,0,none⟩) l.length cl] 27)).ownsRow B 27 1 _ 1 _) Om (Qb.ext ((Ext.rfl' wr).alloc (.cells #[.slice (some ⟨gl,0,none⟩) l.length cl] 27))).isMap.choose_spec.choose_spec)
           |(at_builtin
             refine Z1p rfl _ _ rfl B wr.heap.size _ rfl Ja (.slice a9 M9.length c9) M9.length vs9 rfl (by rw[<-Lc];exact Lc▸Hs) (fun h=>J9 (List.eq_nil_of_length_eq_zero h)) (Z3N Qd) Gm (Nat.le_trans Qa.sz (Nat.le_trans (by simp) Om.size)) ?_;intro g' cap' w10 h10 E9)
           |(go_at_call 146;refine(Dz _ _ _).mono ?_;rintro e w4 ⟨rfl,Mi⟩;subst Mi))
          have Jb:Map1 kb wr w4:=((Map1.of_ext ((Ext.rfl' wr).alloc (.cells #[.slice (some ⟨gl,0,none⟩) l.length cl] 27))).trans Om).trans (Map1.of_ext E9);have Kh:=Qb.isMap.choose_spec.choose_spec;rw[Kz];refine⟨⟨_,_,_,_,_,_,_,_,_,_,_,_,_,_,_,_,_,_,_,_,_,_,_,_,_,_,_,_,_,_,_,_,⟨j+1,G9,by omega,by push_cast;rfl,?_,Xs.ext E9,(Cx.trans (Map1.of_ext Bz)).trans Jb⟩,rfl⟩,by simp[intOf];omega⟩;rw[V3,Lb,Z0q,if_pos (by simpa using Bv)];exact⟨fun h=>(by cases h),_::vs9,by rw[List.length_cons,Lc];exact h10,Z2R ho6 Jb Kh,Qd.mono fun u s h=>Z00 h E9⟩
         ·have Dz:=fun a3 c3 w=>Z1V a13 Mp.length c13 a3 (M9.length+1) c3 w
          simp only[if_neg Bv] at Dz
          go_wp2_with (first
           |(go_at_call 145;refine(Su _ (by(repeat (with_reducible first|assumption|exact Ext.rfl' _|apply Ext.alloc|apply Ext.drew)))).mono ?_;rintro e w9 ⟨v9,G9,rfl,Sv,Xs,Om⟩
             obtain⟨a9,c9,rfl⟩:=Sv.form;obtain⟨J9,vs9,Hs,Qd⟩:=Sv;have Lc:=Qd.length;have Ja:=Z2R (Mj:(wr.alloc (.cells #[.slice (some ⟨gl,0,none⟩) l.length cl] 27)).ownsRow B 27 1 _ 1 _) Om (Qb.ext ((Ext.rfl' wr).alloc (.cells #[.slice (some ⟨gl,0,none⟩) l.length cl] 27))).isMap.choose_spec.choose_spec)
           |(at_builtin
             refine Z1p rfl _ _ rfl B wr.heap.size _ rfl Ja (.slice a9 M9.length c9) M9.length vs9 rfl (by rw[<-Lc];exact Lc▸Hs) (fun h=>J9 (List.eq_nil_of_length_eq_zero h)) (Z3N Qd) Gm (Nat.le_trans Qa.sz (Nat.le_trans (by simp) Om.size)) ?_;intro g' cap' w10 h10 E9)
           |(go_at_call 146;refine(Dz _ _ _).mono ?_;rintro e w4 ⟨rfl,Mi⟩;subst Mi))
          have Jb:Map1 kb wr w4:=((Map1.of_ext ((Ext.rfl' wr).alloc (.cells #[.slice (some ⟨gl,0,none⟩) l.length cl] 27))).trans Om).trans (Map1.of_ext E9);have Kh:=Qb.isMap.choose_spec.choose_spec;rw[Kz];refine⟨⟨_,_,_,_,_,_,_,_,_,_,_,_,_,_,_,_,_,_,_,_,_,_,_,_,_,_,_,_,_,_,_,_,⟨j+1,G9,by omega,by push_cast;rfl,?_,Xs.ext E9,(Cx.trans (Map1.of_ext Bz)).trans Jb⟩,rfl⟩,by simp[intOf];omega⟩;rw[V3,Lb,Z0q,if_neg (by simpa using Bv)];exact Ss.map1 Jb Kh
        ·obtain⟨p,hp⟩:∃p,l[k]? =some p:=⟨_,List.getElem?_eq_getElem (by omega)⟩;have Ku:=hlT.1 p (List.mem_of_getElem? hp);obtain⟨q,rfl⟩:=Int.eq_ofNat_of_zero_le Ku.1;have On:q<9:=(by omega);have Kw:=Es.cells (g:=gl) rfl k (.int .i64 q) (by rw[List.getElem?_map,hp];rfl);rw[Z0c] at Kw;replace Kw:=Bz.cellS Kw;have Qe:=Z0 h6 q;rw[Z1u _ q On] at Qe;have hfq:=Z8 h6 q;have Xt:(0:Int)<=(k:Int):=(by omega);have hkL:(k:Int)<(l.length:Int):=(by omega);have Jv:(0:Int)<=(q:Int):=(by omega);have Xu:(q:Int)<9:=(by omega);have Np:=Z0b hp;by_cases V4:u' q=true
         ·rw[V4] at Qe;have Sw:take1 used l=none:=(by rw[Ol.out,Np,take1,if_pos (by simpa using V4)]);go_wp2;refine⟨⟨j+1,G',by omega,by push_cast;rfl,?_,Q9.ext Bz,Cx.trans (Map1.of_ext Bz)⟩,by simp[intOf];omega⟩;rw[V3];simp only[ZL,Sw];exact I7.ext Bz
         ·have Xv:u' q=false:=(by simpa using V4);rw[Xv] at Qe;have Xw:Hid (take1 used l=take1 (fun j=>u' j||j==q) (l.drop (k+1))):=by
           show _=_;rw[Ol.out,Np,take1,if_neg (by simpa using V4)];simp
          go_wp2;exact⟨⟨k+1,_,by omega,by push_cast;rfl,Bz.setCell _ _ (Nat.le_refl _),by rw[Zb h6,Z52 _ q On],Xw⟩,by simp[intOf];omega⟩
   ·have Hn:i<i0:=(by omega);have c1:=Z0 h1 i;rw[Z1u _ i (by omega)] at c1;have f1:=Z8 h1 i;have C3:(0:Int)<=(i:Int):=(by omega);have hi8:(i:Int)<9:=(by omega);have hi7:(i:Int)<(i0:Int):=(by omega);go_wp2;refine⟨⟨i+1,by omega,by push_cast;rfl,hE.setCell _ _ (by simp),(set_ne (by simp) _).trans h0,?_⟩,by simp[intOf];omega⟩;rw[Zb h1,Z52 _ i (by omega)];rw[Z1o (out':=Z51 (i+1) used)];intro j _;simp only[Z51];by_cases hj:j=i
    ·subst hj;simp
    ·have e1:(j==i)=false:=(by simpa using hj);have e2:decide (j<i+1)=decide (j<i):=decide_eq_decide.2 (by omega);rw[e1,e2,Bool.or_false]
end Go.Proofs.Tryq
namespace Go.Nk
open Go Go.Region
open Go.Proofs.Tryq (Ext Z3 Z2)
variable {P:Program} {ops:Array Oper} {Q:Exit->Act->World->Prop}
variable {n:Nat} {Dl:List (Option Tmp)} {S:List (Option Value)} {L0:Tmp->Value} {M:(Nat->Bool)->(Tmp->Value)->World->Prop} {ℓ:Nat->Bool} {a:Act} {w w':World} {i:Nat} {o:Oper}
structure Sx where
 al:Nat
 t:Tmp
 k:Nat
 z:Array Value
 ty:TypeId
variable {w1:World} {B:List Sx} {x:Tmp->Value}
end Go.Nk
namespace Go.Proofs.Tryq
open Go Go.Nk Go.RowKit
open Go.Maps (Keyed)
open Go.ChangeMaps (setBlock)
theorem run_append_keep{P:Program}(w:World)(base:Nat)(t ty e:TypeId)(i:TypeInfo)(z:Value)(size bytes:Nat)(ht:P.underlying t=some (.slice e))(hi:P.info? e=some i)(hz:i.zero=some z)
 (Fp:i.size=size)(Ht:i.bytes=bytes)(V5:z.cells.size=size)(Ay:0<size)
 (v:Value)(n:Nat)(xs:List Value)(Al:w.ownsRow base e size v n xs)
 (a:Addr)(m c:Nat)(news:List Value)(hl:news.length=m*size)(Fq:∀j u,news[j]? =some u->w.cell? (a.add j)=some u)(h1:∀u∈news,u.oneCell'=true)
 (V6:n+m<=maxLen)(F5:(n+m)*bytes<=140737488355328)(A4:base<=w.heap.size):
 ∃v' w',(Builtin.append_ #[t,t] ty #[v,.slice (some a) m c]).run P w= .ok v' w'/\w'.ownsRow base e size v' (n+m) (xs++news)/\w.grownBy w' v.ownBlock/\
  ((v'.ownBlock=v.ownBlock)\/∀k,v'.ownBlock=some k->w.heap.size<=k):=by
 rcases Al.2 with⟨rfl,rfl⟩|⟨g,cap,cur,rfl,Xg,hg,Ff,Un,Ae,Iy⟩
 ·have hx:xs=[]:=List.eq_nil_of_length_eq_zero (by simpa using Al.1);subst hx;obtain⟨v',w',r1,r2,r3,_⟩:=run_append_own (P:=P) w w.heap.size t ty e i z size bytes ht hi hz Fp Ht V5 Ay (.slice none 0 0) 0 [] (World.ownsRow_nil _ _ _ _) a m c news hl Fq h1 V6 F5 (Nat.le_refl _);exact⟨v',w',r1,Z05 r2 A4,r3,.inr fun k hk=>(r2.lt k hk).1⟩
 ·by_cases Sy:n+m<=cap
  ·obtain⟨w',r1,r2,r3⟩:=run_append_fits (P:=P) w base t ty e i size ht hi Fp g n cap xs Al a m c news hl Fq h1 Sy;exact⟨_,w',r1,r2,r3,.inl rfl⟩
  ·obtain⟨v',w',r1,r2,r3⟩:=run_append_arg_grows (P:=P) w t ty e i z size bytes ht hi hz Fp Ht V5 Ay ⟨g,0,none⟩ n cap xs Al.1 (Al.cells (g:=g) rfl) a m c news hl Fq (by omega) V6 F5;exact⟨v',w',r1,Z05 r2 A4,⟨r3.os,r3.tape,r3.output,r3.size,fun b hb _=>r3.block b hb (fun e=>by cases e)⟩,.inr fun k hk=>(r2.lt k hk).1⟩
theorem Z3V{P:Program}{w:World}{o:Oper}{a:Act}{K:Act->World->Prop}{Q:Exit->Act->World->Prop}(s x:Operand)(t:TypeId)
 (ho:o.op= .call {callee:= .builtin .append,args:= #[s,x],argTypes:= #[t,t]})
 (base:Nat)(e:TypeId)(i:TypeInfo)(z:Value)(size bytes:Nat)(ht:P.underlying t=some (.slice e))(hi:P.info? e=some i)(hz:i.zero=some z)
 (Fp:i.size=size)(Ht:i.bytes=bytes)(V5:z.cells.size=size)(Ay:0<size)
 (v:Value)(n:Nat)(xs:List Value)(hs:a.eval s=v)(Al:w.ownsRow base e size v n xs)
 (ad:Addr)(m c:Nat)(news:List Value)(hx:a.eval x= .slice (some ad) m c)(hl:news.length=m*size)(Fq:∀j u,news[j]? =some u->w.cell? (ad.add j)=some u)(h1:∀u∈news,u.oneCell'=true)
 (V6:n+m<=maxLen)(F5:(n+m)*bytes<=140737488355328)(A4:base<=w.heap.size)
 (h:∀v' w',w'.ownsRow base e size v' (n+m) (xs++news)->w.grownBy w' v.ownBlock->((v'.ownBlock=v.ownBlock)\/∀k,v'.ownBlock=some k->w.heap.size<=k)->K (a.put o.dst v') w'):o.wp P a w K Q:=by
 obtain⟨v',w',hr,h2,h3,h4⟩:=run_append_keep (P:=P) w base t o.type e i z size bytes ht hi hz Fp Ht V5 Ay v n xs Al ad m c news hl Fq h1 V6 F5 A4;unfold Oper.wp execOp;simp only[ho,resolve,invoke,builtin,Sem.run_bind,Sem.run_pure,Result.andThen_ok,List.map_toArray,List.map_cons,List.map_nil,hs,hx,hr];exact h v' w' h2 h3 h4
def ZO(G:Value->Option Value)(i:Nat):Value:=(G (.int .i64 i)).getD (.slice none 0 0)
def ByAt(B B2 n yk:Nat)(D:List (List Int))(w:World):Prop:=
 ∃G:Value->Option Value,MapAt prog 3 w yk G/\(∀i:Nat,i<n->Shr B w (ZO G i) (byL D i))/\(∀i j:Nat,i<n->j<n->i≠j->(ZO G i).ownBlock=none\/(ZO G i).ownBlock≠(ZO G j).ownBlock)/\∀i:Nat,i<n->∀k,(ZO G i).ownBlock=some k->B2<=k
theorem Shr.lt{B:Nat}{w:World}{v:Value}{ls:List (List Int)}(h:Shr B w v ls){k:Nat}(hk:v.ownBlock=some k):B<=k/\k<w.heap.size:=by
 obtain⟨_,vs,h1,_⟩:=h;exact h1.lt k hk
theorem Shr.isCells{B:Nat}{w:World}{v:Value}{ls:List (List Int)}(h:Shr B w v ls){k:Nat}(hk:v.ownBlock=some k):∃c,w.heap[k]? =some (.cells c 27):=by
 obtain⟨_,vs,h1,_⟩:=h;rcases h1.2 with⟨rfl,_⟩|⟨g,cp,cur,rfl,_,hg,_⟩
 ·cases hk
 ·cases hk;exact⟨cur,hg⟩
theorem Shr.grown{B:Nat}{W w:World}{v rv:Value}{ls rs:List (List Int)}(h:Shr B W v ls)(hr:Shr B W rv rs)(hg:W.grownBy w rv.ownBlock)(A8:v.ownBlock=none\/v.ownBlock≠rv.ownBlock):Shr B w v ls:=by
 obtain⟨h0,vs,h1,h2⟩:=h;refine⟨h0,vs,h1.kept hg A8,h2.mono fun u s hu=>hu.kept hg ?_⟩;obtain⟨_,rvs,k1,_⟩:=hr;exact Z4i hu k1 (by decide)
theorem OwnI.grownRow{B:Nat}{W w:World}{u rv:Value}{l:List Int}{rs:List (List Int)}(h:OwnI B W u l)(hr:Shr B W rv rs)(hg:W.grownBy w rv.ownBlock):OwnI B w u l:=by
 obtain⟨_,rvs,k1,_⟩:=hr;exact World.ownsRow.kept h hg (Z4i h k1 (by decide))
theorem ZbW(D:List (List Int))(l:List Int)(i:Nat):byL (D++[l]) i=if l.head? =some (i:Int) then byL D i++[l] else byL D i:=by
 unfold byL;rw[List.filter_append];by_cases h:l.head? =some (i:Int)
 ·rw[if_pos h,List.filter_cons_of_pos (by simpa using h),List.filter_nil]
 ·rw[if_neg h,List.filter_cons_of_neg (by simpa using h),List.filter_nil,List.append_nil]
open Classical in
theorem ByAt.step{B B2 n yk:Nat}{D:List (List Int)}{W:World}{G:Value->Option Value}(hm:MapAt prog 3 W yk G)(Bo:∀i:Nat,i<n->Shr B W (ZO G i) (byL D i))
 (Cc:∀i j:Nat,i<n->j<n->i≠j->(ZO G i).ownBlock=none\/(ZO G i).ownBlock≠(ZO G j).ownBlock)(Ak:∀i:Nat,i<n->∀k,(ZO G i).ownBlock=some k->B2<=k)(O9:B2<=W.heap.size){l:List Int}{i:Nat}(hi:i<n)(hn:n<100)(hl:l.head? =some (i:Int)){u v':Value}{w3:World}{vs:List Value}
 (hu:OwnI B W u l)(Ec:W.ownsRow B 27 1 (ZO G i) vs.length vs)(he:Each (fun u s=>OwnI B W u s) vs (byL D i))
 (Al:w3.ownsRow B 27 1 v' (vs.length+1) (vs++[u]))(hg:W.grownBy w3 (ZO G i).ownBlock)(Jc:(v'.ownBlock=(ZO G i).ownBlock)\/∀k,v'.ownBlock=some k->W.heap.size<=k):
 ∃o,(Instr.mapUpdate 182 (.map (some yk)) (.int .i64 i) v').run prog w3= .ok () (setBlock w3 yk o)/\ByAt B B2 n yk (D++[l]) (setBlock w3 yk o):=by
 have hyk:∀k,(ZO G i).ownBlock=some k->k≠yk:=by
  rintro k hk rfl;obtain⟨c,hc⟩:=(Bo i hi).isCells hk;obtain⟨es,ck,hb,_⟩:=hm;rw[hb] at hc;cases hc
 have Nn:MapAt prog 3 w3 yk G:=hm.keep (hg.block _ hm.lt (fun e=>hyk _ e.symm rfl));obtain⟨es,ck,Fi,_⟩:=Nn;have Nn:MapAt prog 3 w3 yk G:=hm.keep (hg.block _ hm.lt (fun e=>hyk _ e.symm rfl));obtain⟨kl,F2⟩:=Z3M i (by omega);obtain⟨o,h1,h2⟩:=Nn.update K3 u182 F2 v';refine⟨o,h1,_,h2,?_,?_,?_⟩
 ·have hX:=Z2B (kb:=yk) w3 o;intro j hj;have Ar:ZO (fun x=>if x=Value.int .i64 i then some v' else G x) j=if j=i then v' else ZO G j:=by
   unfold ZO;by_cases Aq:j=i
   ·subst Aq;simp
   ·have A8:¬(Value.int .i64 (j:Int)=Value.int .i64 (i:Int)):=(by simp;omega);simp[Aq,A8]
  rw[Ar,ZbW];by_cases Aq:j=i
  ·subst Aq;rw[if_pos rfl,if_pos hl];have hr:=Bo j hj;refine Shr.map1 (w:=w3) ⟨fun h=>by simp at h,vs++[u],by simpa using Al,Each.append (he.mono fun u s h=>OwnI.grownRow h hr hg) ⟨OwnI.grownRow hu hr hg,trivial⟩⟩ hX Fi
  ·rw[if_neg Aq,if_neg (by rw[hl];simp;omega)];exact((Bo j hj).grown (Bo i hi) hg (Cc j i hj hi Aq)).map1 hX Fi
 ·have Ar:∀j:Nat,ZO (fun x=>if x=Value.int .i64 i then some v' else G x) j=if j=i then v' else ZO G j:=by
   intro j;unfold ZO;by_cases Aq:j=i
   ·subst Aq;simp
   ·have A8:¬(Value.int .i64 (j:Int)=Value.int .i64 (i:Int)):=(by simp;omega);simp[Aq,A8]
  intro p q hp hq Oo;rw[Ar,Ar];have key:∀j,j<n->j≠i->∀k,(ZO G j).ownBlock=some k->v'.ownBlock≠some k:=by
   intro j hj Aq k hk he;rcases Jc with h|h
   ·rcases Cc j i hj hi Aq with h'|h'
    ·rw[hk] at h';cases h'
    ·rw[hk,<-h,he] at h';exact h' rfl
   ·have:=h k he;have:=((Bo j hj).lt hk).2;omega
  by_cases Pj:p=i
  ·have Fy:q≠i:=fun h=>Oo (Pj.trans h.symm)
   rw[if_pos Pj,if_neg Fy];cases hv:v'.ownBlock with
   |none=>exact .inl rfl
   |some k=>exact .inr fun h=>key q hq Fy k h.symm hv
  ·rw[if_neg Pj];by_cases Fy:q=i
   ·rw[if_pos Fy];cases hv:(ZO G p).ownBlock with
    |none=>exact .inl rfl
    |some k=>exact .inr fun h=>key p hp Pj k hv h.symm
   ·rw[if_neg Fy];exact Cc p q hp hq Oo
 ·intro j hj k;have Ar:ZO (fun x=>if x=Value.int .i64 i then some v' else G x) j=if j=i then v' else ZO G j:=by
   unfold ZO;by_cases Aq:j=i
   ·subst Aq;simp
   ·have A8:¬(Value.int .i64 (j:Int)=Value.int .i64 (i:Int)):=(by simp;omega);simp[Aq,A8]
  rw[Ar];by_cases Aq:j=i
  ·rw[if_pos Aq];intro hk;rcases Jc with h|h
   ·exact Ak i hi k (by rw[<-h];exact hk)
   ·exact Nat.le_trans O9 (h k hk)
  ·rw[if_neg Aq];exact Ak j hj k
end Go.Proofs.Tryq
section
namespace Go.Nk
open Go Go.Region Go.Proofs.Tryq
section
variable {P:Program} {ops:Array Oper} {R:Exit->Act->World->Prop} {t:Nat} {l:List Nat}
theorem Zit(k j:Nat){o q:Oper}{a:Act}{w:World}(hi:ops[k]? =some o)(hj:ops[j]? =some q)(hb:(decide (k<t)&&decide (j<t)&&decide (l.length<ops.size)&&Region.ready .any ops (mark ops.size l)==[k,j])=true)(hw:Region.wanted o (yielded ops a.tmps)=true)(Dp:Region.wanted q (yielded ops a.tmps)=true)
 (h:∀W,Ext w W->o.wp P a W (fun a' W'=>Ext W W'/\LX P ops R t (k::l) a' W') FQ)(h2:∀W,Ext w W->q.wp P a W (fun a' W'=>Ext W W'/\LX P ops R t (j::l) a' W') FQ):LX P ops R t l a w:=by
 simp only[Bool.and_eq_true,decide_eq_true_eq,beq_iff_eq] at hb;unfold LX at*;rw[show ops.size - l.length=(ops.size - (k::l).length)+1 by simp only[List.length_cons];omega];refine fun W hW=>⟨fun h0=>(by rw[h0] at hb;cases hb.2),fun i hi'=> ?_⟩
 rw[hb.2] at hi';rcases List.mem_cons.1 hi' with rfl|hi'
 ·refine⟨fun _=> ?_,fun h=>by omega⟩;unfold wpOp;simp only[hi,hw,if_true];exact .inl (h W hW)
 ·obtain rfl:i=j:=by simpa using hi'
  refine⟨fun _=> ?_,fun h=>by omega⟩;unfold wpOp;simp only[hj,Dp,if_true];exact .inl (h2 W hW)
def Ziq(ops:Array Oper):List Nat->List Nat->Bool
 |[],l=>(Region.ready .any ops (mark ops.size l)).isEmpty&&decide (l.length=ops.size)
 |k::ks,l=>(Region.ready .any ops (mark ops.size l)==[k])&&decide (k<ops.size)&&decide (l.length<ops.size)&&Ziq ops ks (k::l)
variable {i d:Nat} {pre:List Nat} {obj:Obj}
def Zic(ops:Array Oper):Nat->Nat->Nat->Bool
 |0,_,_=>false
 |f+1,i,j=>match ops[j]? with|some o=>(Zi7 o).any fun m=>m==i||Zic ops f i m|none=>false
def Closed(ops:Array Oper)(listed:Array Bool):Prop:=∀j o,ops[j]? =some o->listed.getD j false=true->∀m∈Zi7 o,listed.getD m false=true
theorem Zi9{listed:Array Bool}(hc:Closed ops listed):∀(f i j:Nat)(o:Oper),ops[j]? =some o->(∀m∈Zi7 o,listed.getD m false=true)->Zic ops f i j=true->listed.getD i false=true
 |0,_,_,_,_,_,h=>by cases h
 |f+1,i,j,o,ho,hm,h=>by
  rw[Zic,ho] at h;obtain⟨m,Dt,Jr⟩:=List.any_eq_true.1 h;have h1:=hm m Dt;simp only[Bool.or_eq_true,beq_iff_eq] at Jr;rcases Jr with rfl|Jr
  ·exact h1
  ·cases hom:ops[m]? with
   |none=>cases f<;>simp[Zic,hom] at Jr
   |some om=>exact Zi9 hc f i m om hom (hc m om hom h1) Jr
theorem Zii{l:Array Bool}{i j:Nat}(h:l.getD i false=true):(l.setIfInBounds j true).getD i false=true:=by
 simp only[Array.getD_eq_getD_getElem?,Array.getElem?_setIfInBounds] at*;split
 ·split
  ·rfl
  ·rename_i h1 h2;subst h1;rw[Array.getElem?_eq_none (by omega)] at h;exact h
 ·exact h
theorem Closed.set{listed:Array Bool}(hc:Closed ops listed){j:Nat}(hj:j∈Region.ready .any ops listed):Closed ops (listed.setIfInBounds j true):=by
 intro k o ho hk m hm;by_cases e:k=j
 ·subst e;obtain⟨_,o',ho',Ah⟩:=Go.mem_ready.1 hj;rw[ho] at ho';injection ho' with e;subst e;obtain⟨e,he,hb,rfl⟩:=Zf2 hm;exact Zii (Ah e he hb)
 ·have:listed.getD k false=true:=by
   simp only[Array.getD_eq_getD_getElem?,Array.getElem?_setIfInBounds] at*;rw[if_neg (fun h=>e h.symm)] at hk;exact hk
  exact Zii (hc k o ho this m hm)
def Zf9(ops:Array Oper)(t i:Nat):Bool:=(List.range ops.size).all fun j=>decide (j<t)||Zic ops ops.size i j
theorem ZeJ{listed:Array Bool}{i j:Nat}(hc:Closed ops listed)(hs:Zf9 ops t i=true)(hi:i∈Region.ready .any ops listed)(hj:j∈Region.ready .any ops listed):j<t:=by
 rcases Nat.lt_or_ge j t with h|h
 ·exact h
 ·obtain⟨_,oj,Bn,Ah⟩:=Go.mem_ready.1 hj;have h1:=List.all_eq_true.1 hs j (List.mem_range.2 (Array.getElem?_eq_some_iff.1 Bn).1);simp only[Bool.or_eq_true,decide_eq_true_eq] at h1;rcases h1 with h1|h1
  ·omega
  ·have h3:=Zi9 hc _ i j oj Bn (fun m hm=>by obtain⟨e,he,hb,rfl⟩:=Zf2 hm;exact Ah e he hb) h1;have h4:=(Go.mem_ready.1 hi).1;rcases Nat.lt_or_ge i listed.size with h'|h'
   ·simp[h'] at h3 h4;rw[h3] at h4;cases h4
   ·simp[Array.getElem?_eq_none h'] at h3
theorem Zih{i:Nat}{oi:Oper}{v:Value}(hi:ops[i]? =some oi)(Cd:∀(j:Nat)(o:Oper) cs b,ops[j]? =some o->o.op≠.select cs b)(Ac:Zf9 ops t i=true)(hit:i<t):
 ∀(n:Nat)(listed:Array Bool)(a:Act)(w:World),Closed ops listed->
  (∀j oj,ops[j]? =some oj->j≠i->listed.getD j true=false->(∀e∈oj.after,Region.binds .any e=true->e.on≠i)->oi.apart ops oj=true)->
  i∈Region.ready .any ops listed->YE P ops w oi v a->anyE P ops R t n (listed.setIfInBounds i true) (a.put oi.dst v) w->anyE P ops R t (n+1) listed a w:=by
 intro n
 induction n with
 |zero=>
  intro listed a w _ _ hr hy H W hW;refine⟨fun h=>(by rw[h] at hr;cases hr),fun j hj=> ?_⟩;by_cases Aq:j=i
  ·subst Aq;exact⟨fun _=>hy.wpOp hi hW fun W' hW'=>⟨hW',H.ext (hW.trans hW')⟩,fun h=>by omega⟩
  ·have:=Go.ready_mono hj Aq;rw[H.1] at this;cases this
 |succ n ih=>
  intro listed a w hc C7 hr hy H W hW;refine⟨fun h=>(by rw[h] at hr;cases hr),fun j hj=> ?_⟩;by_cases Aq:j=i
  ·subst Aq;exact⟨fun _=>hy.wpOp hi hW fun W' hW'=>⟨hW',H.ext (hW.trans hW')⟩,fun h=>by omega⟩
  ·obtain⟨D8,oj,Bn,Ah⟩:=Go.mem_ready.1 hj;have Cc:=C7 j oj Bn Aq D8 (ZeW (j:=j) (Go.mem_ready.1 hr).1 Ah)
   have D9:∀k ok,ops[k]? =some ok->k≠i->(listed.setIfInBounds j true).getD k true=false->
    (∀e∈ok.after,Region.binds .any e=true->e.on≠i)->oi.apart ops ok=true:=fun k ok hk Fc Hf E3=>by
    refine C7 k ok hk Fc ?_ E3;by_cases E4:j=k
    ·subst E4;exact D8
    ·rw[getD_set_ne true E4] at Hf;exact Hf
   refine⟨fun Pm=> ?_,fun Pm=> ?_⟩
   ·have h1:=((H W hW).2 j (Go.ready_mono hj Aq)).1 Pm;refine wpOp_mono (fun a' w' h3=> ?_) (ZeV Bn Cc (fun cs b=>Cd j oj cs b Bn) h1);obtain⟨⟨u,d,rfl⟩,h4,h5⟩:=h3;refine⟨h4,ih (listed.setIfInBounds j true) _ w' (hc.set hj) D9 (Go.ready_mono hr (Ne.symm Aq)) (YE.kept Cc (fun cs b=>Cd i oi cs b hi) (hy.ext (hW.trans h4))) ?_⟩;rw[Array.setIfInBounds_comm _ _ Aq];exact h5
   ·have:=ZeJ hc Ac hr hj;omega
def Zik(ops:Array Oper)(l:List Nat):Bool:=(List.range ops.size).all fun j=> !(mark ops.size l).getD j false||match ops[j]? with|some o=>(Zi7 o).all fun m=>(mark ops.size l).getD m false|none=>true
theorem Zid(h:Zik ops l=true):Closed ops (mark ops.size l):=by
 intro j o ho hj m hm;have h1:=List.all_eq_true.1 h j (List.mem_range.2 (Array.getElem?_eq_some_iff.1 ho).1);rw[hj,ho] at h1;simp only[Bool.not_true,Bool.false_or] at h1;exact List.all_eq_true.1 h1 m hm
def Zil(ops:Array Oper)(t:Nat)(l:List Nat)(k:Nat):Bool:=decide (k<t)&&decide (l.length<ops.size)&&(Region.ready .any ops (mark ops.size l)).contains k&&Region.free .any ops (mark ops.size l) k&&Zf9 ops t k&&Zik ops l
theorem Zim{k:Nat}{o:Oper}{v:Value}{a:Act}{w:World}(hs:okT ops t=true)(hi:ops[k]? =some o)(hf:Zil ops t l k=true)(hy:YE P ops w o v a)(h:LX P ops R t (k::l) (a.put o.dst v) w):LX P ops R t l a w:=by
 unfold okT at hs;unfold Zil at hf;simp only[Bool.and_eq_true,decide_eq_true_eq] at hf;obtain⟨⟨⟨⟨⟨h1,h2⟩,h3⟩,h4⟩,h5⟩,h6⟩:=hf;unfold LX at*;rw[show ops.size - l.length=(ops.size - (k::l).length)+1 by simp only[List.length_cons];omega];exact Zih hi (Region.noSelect_spec hs) h5 h1 _ _ a w (Zid h6) (Region.free_spec hi h4) (by simpa using h3) hy h
def Zij(ops:Array Oper)(t:Nat):List Nat->List Nat->Bool
 |[],_=>true
 |k::ks,l=>Zil ops t l k&&(match ops[k]? with|some o=>ZeC o|none=>false)&&Zij ops t ks (k::l)
theorem Zio{w:World}(X:List Nat->Act->Prop)(E5:∀l k o v a,ops[k]? =some o->Zil ops t l k=true->YE P ops w o v a->X (k::l) (a.put o.dst v)->X l a):∀(ks l:List Nat)(a:Act),Zij ops t ks l=true->wpQuiet P ops (fun w'=>∃p:Gr,w'=gr w p.d p.os) (X (doneL ks l)) (ZeD ops.toList ks) a->X l a:=by
 intro ks
 induction ks with
 |nil=>intro l a _ h;exact h
 |cons k ks ih=>
  intro l a hp h;simp only[Zij,Bool.and_eq_true] at hp;obtain⟨⟨hf,ho⟩,hp⟩:=hp;cases hi:ops[k]? with
  |none=>rw[hi] at ho;cases ho
  |some o=>
   rw[hi] at ho;rw[ZeD,show ops.toList[k]? =some o by rw[Array.getElem?_toList];exact hi] at h;have hq:qOp P ops (fun w'=>∃p:Gr,w'=gr w p.d p.os) k (wpQuiet P ops (fun w'=>∃p:Gr,w'=gr w p.d p.os) (X (doneL (k::ks) l)) (ZeD ops.toList ks)) a:=by
    unfold qOp;simp only[hi];exact h
   obtain⟨v,hy,hK⟩:=yieldsIn_of_qOp hi hq;exact E5 l k o v a hi hf (hy.imp (fun h=>⟨h.1,fun W hW=>Zis ho (h.2 W (Zfi hW))⟩) id) (ih _ _ hp hK)
theorem Zin{o:List Oper}(ks:List Nat){a:Act}{w:World}(hs:okT o.toArray t=true)(hp:Zij o.toArray t ks l=true)(h:wpQuiet P o.toArray (fun w'=>∃p:Gr,w'=gr w p.d p.os) (fun a'=>LX P o.toArray R t (doneL ks l) a' w) (ZeD o ks) a):LX P o.toArray R t l a w:=
 Zio (X:=fun l a=>LX P o.toArray R t l a w) (fun _ _ _ _ _ hi hf hy h=>Zim hs hi hf hy h) ks l a hp h
def Zip(a:Act):List (Nat×Value)->Act
 |[]=>a
 |(d,v)::L=>Zip (a.put (some d) v) L
theorem Zia{c:Code}{a:Act}{w:World}{T:Type}(L:T->List (Nat×Value))(F:T->World->Prop)(h:c.wp P (fun e a' w'=>e= .normal/\∃x,a'=Zip a (L x)/\F x w') a w)(k:∀x w',F x w'->R .normal (Zip a (L x)) w'):c.wp P R a w:=
 Go.wp_mono h fun e a' w' ⟨he,x,ha,hF⟩=>by subst he ha;exact k x w' hF
end
end Go.Nk
namespace Go.Proofs.Tryq
open Go Go.Nk Go.RowKit
def ZjW(w:World)(b:Nat)(v0 v1 v2 v3 v4:Value):World:=((((w.setCell ⟨b,0,none⟩ v0).setCell ⟨b,1,none⟩ v1).setCell ⟨b,2,none⟩ v2).setCell ⟨b,3,none⟩ v3).setCell ⟨b,4,none⟩ v4
theorem ZiD{w:World}{b:Nat}{a0 a1 a2 a3 a4:Value}{t:TypeId}(h:w.heap[b]? =some (.cells #[a0,a1,a2,a3,a4] t))(v0 v1 v2 v3 v4:Value):(ZjW w b v0 v1 v2 v3 v4).heap[b]? =some (.cells #[v0,v1,v2,v3,v4] t):=
 Zb (Zb (Zb (Zb (Zb h v0) v1) v2) v3) v4
theorem ZiG(w:World){b c:Nat}(h:c≠b)(v0 v1 v2 v3 v4:Value):(ZjW w b v0 v1 v2 v3 v4).heap[c]? =w.heap[c]? :=
 (((((set_ne (a:=⟨b,4,none⟩) h v4).trans (set_ne (a:=⟨b,3,none⟩) h v3)).trans (set_ne (a:=⟨b,2,none⟩) h v2)).trans (set_ne (a:=⟨b,1,none⟩) h v1)).trans (set_ne (a:=⟨b,0,none⟩) h v0))
theorem ZiE{w0 w:World}(e:Ext w0 w){b:Nat}(h:w0.heap.size<=b)(v0 v1 v2 v3 v4:Value):Ext w0 (ZjW w b v0 v1 v2 v3 v4):=
 ((((e.setCell ⟨b,0,none⟩ v0 h).setCell ⟨b,1,none⟩ v1 h).setCell ⟨b,2,none⟩ v2 h).setCell ⟨b,3,none⟩ v3 h).setCell ⟨b,4,none⟩ v4 h
theorem ZiJ{w:World}{b:Nat}{c:Array Value}{t:TypeId}(h:w.heap[b]? =some (.cells c t)):
 w.frozen? ⟨b,0,none⟩=false/\w.frozen? ⟨b,1,none⟩=false/\w.frozen? ⟨b,2,none⟩=false/\w.frozen? ⟨b,3,none⟩=false/\w.frozen? ⟨b,4,none⟩=false:=
 ⟨Z8 h 0,Z8 h 1,Z8 h 2,Z8 h 3,Z8 h 4⟩
end Go.Proofs.Tryq
end
section
namespace Go.Nk
open Go Go.Region Go.Proofs.Tryq
structure Pre(E:World->World->Prop):Prop where
 rfl':∀w,E w w
 trans:∀{a b c},E a b->E b c->E a c
 drew:∀w,E w w.drew
structure GrE(E:World->World->Prop)(w:World) where
 W:World
 h:E w W
structure ExtX(X:Nat->Prop)(w w':World):Prop where
 size:w.heap.size<=w'.heap.size
 old:∀b,b<w.heap.size->¬X b->w'.heap[b]? =w.heap[b]?
 tape:w'.tape=w.tape
 os:w'.os=w.os
 output:w'.output=w.output
theorem ExtX.pre(X:Nat->Prop):Pre (ExtX X):=
 ⟨fun w=>⟨Nat.le_refl _,fun _ _ _=>rfl,rfl,rfl,rfl⟩,fun h h'=>⟨Nat.le_trans h.size h'.size,fun b hb hx=>(h'.old b (Nat.lt_of_lt_of_le hb h.size) hx).trans (h.old b hb hx),h'.tape.trans h.tape,h'.os.trans h.os,h'.output.trans h.output⟩,fun w=>⟨Nat.le_refl _,fun _ _ _=>rfl,rfl,rfl,rfl⟩⟩
theorem Ext.toX{w w':World}(h:Ext w w')(X:Nat->Prop):ExtX X w w':=⟨h.size,fun b hb _=>h.old b hb,h.tape,h.os,h.output⟩
theorem ExtX.cellS{X:Nat->Prop}{w w':World}(h:ExtX X w w'){a:Addr}{v:Value}(hx:¬X a.block)(hc:w.cell? a=some v):w'.cell? a=some v:=by
 have A3:a.block<w.heap.size:=by
  unfold World.cell? at hc;split at hc
  ·rename_i hh;exact(Array.getElem?_eq_some_iff.1 hh).1
  ·cases hc
 simp only[World.cell?,h.old _ A3 hx] at*;exact hc
instance (X:Nat->Prop)(w:World):Nonempty (GrE (ExtX X) w):=⟨⟨w,(ExtX.pre X).rfl' w⟩⟩
theorem GrE.cell{X:Nat->Prop}{w:World}{a:Addr}{v:Value}(hx:¬X a.block)(hc:w.cell? a=some v)(p:GrE (ExtX X) w):p.W.cell? a=some v:=p.h.cellS hx hc
section
variable {P:Program} {ops:Array Oper} {R:Exit->Act->World->Prop} {E:World->World->Prop}
def ZhT(P:Program)(ops:Array Oper)(R:Exit->Act->World->Prop)(E:World->World->Prop):Nat->Array Bool->Act->World->Prop
 |0,listed,a,w=>Region.ready .any ops listed=[]/\R .normal a w
 |n+1,listed,a,w=>(Region.ready .any ops listed=[]->R .normal a w)/\∀i∈Region.ready .any ops listed,
   wpOp P ops FQ i (fun a' W'=>E w W'/\ZhT P ops R E n (listed.setIfInBounds i true) a' W') a w
theorem wpAny_of_X:∀(n:Nat)(l:Array Bool)(a:Act)(w:World),ZhT P ops R E n l a w->wpAny P .any ops R n l a w
 |0,_,_,w,h=>h
 |n+1,_,_,w,h=>⟨h.1,fun i hi=>Zf8 noFQ (fun a' w' h'=>wpAny_of_X n _ a' w' h'.2) (h.2 i hi)⟩
def YVX(P:Program)(o:Oper)(a:Act)(W:World)(v:Value):Prop:=match (execOp a.eval o).run P W with
 | .ok (.value u) W'=>u=v/\W'=W
 | .ok .skip W'=>v=undef/\W'=W
 |_=>False
def YX(P:Program)(ops:Array Oper)(E:World->World->Prop)(w:World)(o:Oper)(v:Value)(a:Act):Prop:=
 (Region.wanted o (yielded ops a.tmps)=true/\∀W,E w W->YVX P o a W v)\/(Region.wanted o (yielded ops a.tmps)=false/\v=undef)
theorem YX.ext(hE:Pre E){w W:World}{o:Oper}{v:Value}{a:Act}(h:YX P ops E w o v a)(e:E w W):YX P ops E W o v a:=
 h.imp (fun h=>⟨h.1,fun W' h'=>h.2 W' (hE.trans e h')⟩) id
theorem YX.kept{w:World}{oi oj:Oper}{v u:Value}{a:Act}{d:List Deferred}(Cc:oi.apart ops oj=true)(Wi:∀cs b,oi.op≠.select cs b)(hy:YX P ops E w oi v a):YX P ops E w oi v ({a with defers:=d}.put oj.dst u):=by
 obtain⟨h1,h2,h3⟩:=Oper.apart_spec Cc;have e1:execOp ({a with defers:=d}.put oj.dst u).eval oi=execOp a.eval oi:=execOp_put oi Wi _ oj.dst u h3;have e2:=wanted_put oi ({a with defers:=d}:Act) oj.dst u h3;unfold YX YVX at*;rw[e1,e2];exact hy
theorem YX.wpOp(hE:Pre E){i:Nat}{o:Oper}{v:Value}{a:Act}{w:World}(hi:ops[i]? =some o)(hy:YX P ops E w o v a){K:Act->World->Prop}{R:Exit->Act->World->Prop}(h:K (a.put o.dst v) w):wpOp P ops R i K a w:=by
 unfold Go.wpOp;simp only[hi];rcases hy with⟨hw,hv⟩|⟨hw,rfl⟩
 ·simp only[hw,if_true];refine .inl ?_;have h3:=hv w (hE.rfl' w);unfold YVX at h3;unfold Oper.wp;generalize (execOp a.eval o).run P w=r at*;cases r with
  |ok n w'=>
   cases n<;>simp only at h3<;>simp only[Oper.upon]
   case value u=>obtain⟨rfl,rfl⟩:=h3;exact h
   case skip=>obtain⟨rfl,rfl⟩:=h3;exact h
  |halt x w'=>simp only at h3
 ·simp only[hw,Bool.false_eq_true,if_false];exact h
theorem ZhA(hE:Pre E){i:Nat}{oi:Oper}{v:Value}(hi:ops[i]? =some oi)(Cd:∀(j:Nat)(o:Oper) cs b,ops[j]? =some o->o.op≠.select cs b):
 ∀(n:Nat)(listed:Array Bool)(a:Act)(w:World),
  (∀j oj,ops[j]? =some oj->j≠i->listed.getD j true=false->(∀e∈oj.after,Region.binds .any e=true->e.on≠i)->oi.apart ops oj=true)->
  i∈Region.ready .any ops listed->YX P ops E w oi v a->ZhT P ops R E n (listed.setIfInBounds i true) (a.put oi.dst v) w->ZhT P ops R E (n+1) listed a w:=by
 intro n
 induction n with
 |zero=>
  intro listed a w _ hr hy H;refine⟨fun h=>(by rw[h] at hr;cases hr),fun j hj=> ?_⟩;by_cases Aq:j=i
  ·subst Aq;exact hy.wpOp hE hi ⟨hE.rfl' w,H⟩
  ·have:=Go.ready_mono hj Aq;rw[H.1] at this;cases this
 |succ n ih=>
  intro listed a w C7 hr hy H;refine⟨fun h=>(by rw[h] at hr;cases hr),fun j hj=> ?_⟩;by_cases Aq:j=i
  ·subst Aq;exact hy.wpOp hE hi ⟨hE.rfl' w,H⟩
  ·obtain⟨D8,oj,Bn,Ah⟩:=Go.mem_ready.1 hj;have Cc:=C7 j oj Bn Aq D8 (ZeW (j:=j) (Go.mem_ready.1 hr).1 Ah)
   have D9:∀k ok,ops[k]? =some ok->k≠i->(listed.setIfInBounds j true).getD k true=false->
    (∀e∈ok.after,Region.binds .any e=true->e.on≠i)->oi.apart ops ok=true:=fun k ok hk Fc Hf E3=>by
    refine C7 k ok hk Fc ?_ E3;by_cases E4:j=k
    ·subst E4;exact D8
    ·rw[getD_set_ne true E4] at Hf;exact Hf
   have h1:=H.2 j (Go.ready_mono hj Aq);refine wpOp_mono (fun a' w' h3=> ?_) (ZeV Bn Cc (fun cs b=>Cd j oj cs b Bn) h1);obtain⟨⟨u,d,rfl⟩,h4,h5⟩:=h3;refine⟨h4,ih (listed.setIfInBounds j true) _ w' D9 (Go.ready_mono hr (Ne.symm Aq)) (YX.kept Cc (fun cs b=>Cd i oi cs b hi) (hy.ext hE h4)) ?_⟩;rw[Array.setIfInBounds_comm _ _ Aq];exact h5
def LXE(P:Program)(ops:Array Oper)(R:Exit->Act->World->Prop)(E:World->World->Prop)(l:List Nat)(a:Act)(w:World):Prop:=ZhT P ops R E (ops.size - l.length) (mark ops.size l) a w
variable {l:List Nat}
def ZhQ(ops:Array Oper)(l:List Nat)(k:Nat):Bool:=decide (l.length<ops.size)&&(Region.ready .any ops (mark ops.size l)).contains k&&Region.free .any ops (mark ops.size l) k
theorem ZhR(hE:Pre E){k:Nat}{o:Oper}{v:Value}{a:Act}{w:World}(hs:Region.noSelect ops=true)(hi:ops[k]? =some o)(hf:ZhQ ops l k=true)(hy:YX P ops E w o v a)(h:LXE P ops R E (k::l) (a.put o.dst v) w):LXE P ops R E l a w:=by
 unfold ZhQ at hf;simp only[Bool.and_eq_true,decide_eq_true_eq] at hf;obtain⟨⟨h2,h3⟩,h4⟩:=hf;unfold LXE at*;rw[show ops.size - l.length=(ops.size - (k::l).length)+1 by simp only[List.length_cons];omega];exact ZhA hE hi (Region.noSelect_spec hs) _ _ a w (Region.free_spec hi h4) (by simpa using h3) hy h
theorem Zh4(k:Nat){o:Oper}{a:Act}{w:World}(hi:ops[k]? =some o)(hb:(decide (l.length<ops.size)&&Region.ready .any ops (mark ops.size l)==[k])=true)(hw:Region.wanted o (yielded ops a.tmps)=true)
 (h:o.wp P a w (fun a' W'=>E w W'/\LXE P ops R E (k::l) a' W') FQ):LXE P ops R E l a w:=by
 simp only[Bool.and_eq_true,decide_eq_true_eq,beq_iff_eq] at hb;unfold LXE at*;rw[show ops.size - l.length=(ops.size - (k::l).length)+1 by simp only[List.length_cons];omega];refine⟨fun h0=>(by rw[h0] at hb;cases hb.2),fun i hi'=> ?_⟩;rw[hb.2] at hi';obtain rfl:i=k:=by simpa using hi'
 unfold wpOp;simp only[hi,hw,if_true];exact .inl h
theorem Zir(k j:Nat){o q:Oper}{a:Act}{w:World}(hi:ops[k]? =some o)(hj:ops[j]? =some q)(hb:(decide (l.length<ops.size)&&Region.ready .any ops (mark ops.size l)==[k,j])=true)(hw:Region.wanted o (yielded ops a.tmps)=true)(Dp:Region.wanted q (yielded ops a.tmps)=true)
 (h:o.wp P a w (fun a' W'=>E w W'/\LXE P ops R E (k::l) a' W') FQ)(h2:q.wp P a w (fun a' W'=>E w W'/\LXE P ops R E (j::l) a' W') FQ):LXE P ops R E l a w:=by
 simp only[Bool.and_eq_true,decide_eq_true_eq,beq_iff_eq] at hb;unfold LXE at*;rw[show ops.size - l.length=(ops.size - (k::l).length)+1 by simp only[List.length_cons];omega];refine⟨fun h0=>(by rw[h0] at hb;cases hb.2),fun i hi'=> ?_⟩;rw[hb.2] at hi';rcases List.mem_cons.1 hi' with rfl|hi'
 ·unfold wpOp;simp only[hi,hw,if_true];exact .inl h
 ·obtain rfl:i=j:=by simpa using hi'
  unfold wpOp;simp only[hj,Dp,if_true];exact .inl h2
theorem ZhF{a:Act}{w:World}(hk:(ops.size==l.length&&(Region.ready .any ops (mark ops.size l)).isEmpty)=true)(h:R .normal a w):LXE P ops R E l a w:=by
 rw[Bool.and_eq_true,beq_iff_eq,List.isEmpty_iff] at hk;unfold LXE;rw[show ops.size - l.length=0 by omega];exact⟨hk.2,h⟩
theorem ZhU{o:Oper}(ho:ZeC o=true){a:Act}{C:World->Prop}{W:World}{v:Value}(h3:o.quietAt P a C W v):YVX P o a W v:=by
 unfold Oper.quietAt at h3;unfold YVX;cases hr:(execOp a.eval o).run P W with
 |ok n w'=>
  rw[hr] at h3;cases n<;>simp only[Oper.quietUpon] at h3
  case value u=>exact⟨h3.2,h3.1⟩
  case skip=>exact⟨h3.2,h3.1⟩
  case enter f args=>exact(ZeK ho hr).elim
 |halt x w'=>rw[hr] at h3;simp only[Oper.quietUpon] at h3
def Zhu(ops:Array Oper):List Nat->List Nat->Bool
 |[],_=>true
 |k::ks,l=>ZhQ ops l k&&(match ops[k]? with|some o=>ZeC o|none=>false)&&Zhu ops ks (k::l)
theorem ZhN(hE:Pre E){w:World}(hs:Region.noSelect ops=true):∀(ks l:List Nat)(a:Act),Zhu ops ks l=true->wpQuiet P ops (fun w'=>∃p:GrE E w,w'=p.W) (fun a'=>LXE P ops R E (doneL ks l) a' w) (ZeD ops.toList ks) a->LXE P ops R E l a w:=by
 intro ks
 induction ks with
 |nil=>intro l a _ h;exact h
 |cons k ks ih=>
  intro l a hp h;simp only[Zhu,Bool.and_eq_true] at hp;obtain⟨⟨hf,ho⟩,hp⟩:=hp;cases hi:ops[k]? with
  |none=>rw[hi] at ho;cases ho
  |some o=>
   rw[hi] at ho;rw[ZeD,show ops.toList[k]? =some o by rw[Array.getElem?_toList];exact hi] at h;have hq:qOp P ops (fun w'=>∃p:GrE E w,w'=p.W) k (wpQuiet P ops (fun w'=>∃p:GrE E w,w'=p.W) (fun a'=>LXE P ops R E (doneL (k::ks) l) a' w) (ZeD ops.toList ks)) a:=by
    unfold qOp;simp only[hi];exact h
   obtain⟨v,hy,hK⟩:=yieldsIn_of_qOp hi hq;exact ZhR hE hs hi hf (hy.imp (fun h=>⟨h.1,fun W hW=>ZhU ho (h.2 W ⟨⟨W,hW⟩,rfl⟩)⟩) id) (ih _ _ hp hK)
theorem Zh8(hE:Pre E){o:List Oper}(ks:List Nat){a:Act}{w:World}(hs:Region.noSelect o.toArray=true)(hp:Zhu o.toArray ks l=true)(h:wpQuiet P o.toArray (fun w'=>∃p:GrE E w,w'=p.W) (fun a'=>LXE P o.toArray R E (doneL ks l) a' w) (ZeD o ks) a):LXE P o.toArray R E l a w:=
 ZhN hE hs ks l a hp h
theorem Zhk(E:World->World->Prop){id:Nat}{a:Act}{w:World}(hm:P.follows .mixedOrders=true)(h:LXE P ops R E [] a w.drew):(Code.region id ops true).wp P R a w:=by
 unfold LXE at h;exact wp_region_any hm (wpAny_of_X _ _ _ _ h)
theorem Zie{o:Oper}{a:Act}{W:World}{K:Act->World->Prop}(h:∃W',(execOp a.eval o).run P W= .ok .skip W'/\K (a.put o.dst undef) W'):o.wp P a W K FQ:=by
 obtain⟨W',hr,h⟩:=h;unfold Oper.wp;rw[hr];simp only[Oper.upon];exact h
end
end Go.Nk
namespace Go.Proofs.Tryq
open Go Go.Nk Go.RowKit
theorem Zhv{X:Nat->Prop}{w w':World}{ow:Option Nat}(h:w.grownBy w' ow)(hX:∀k,ow=some k->X k):ExtX X w w':=
 ⟨h.size,fun b hb hn=>h.block b hb (fun e=>hn (hX b e.symm)),h.tape,h.os,h.output⟩
end Go.Proofs.Tryq
end
