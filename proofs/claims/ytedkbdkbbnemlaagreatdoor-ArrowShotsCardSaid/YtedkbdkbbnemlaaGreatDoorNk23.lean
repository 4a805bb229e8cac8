import Derived.Test.YtedkbdkbbnemlaaGreatDoorNk22
import Derived.Laws.NewBlocks
set_option linter.all false
namespace Go.Proofs.Tryq
set_option maxRecDepth 100000
set_option maxHeartbeats 8000000
open Go Go.Nk Go.RowKit
structure Ctb(a b c m:Int)(base:Option Addr)(n cap:Nat)(T:List (List Int))(B sb nb yb fb kb yk:Nat)(W:World):Prop where
 hs:W.heap[sb]? =some (.cells #[.int .i64 a,.int .i64 b,.int .i64 c,.int .i64 m,.slice base n cap] 120)
 hnb:W.heap[nb]? =some (.cells #[.map (some kb)] 183)
 hyb:W.heap[yb]? =some (.cells #[.map (some yk)] 182)
 hfn:W.heap[fb]? =some (.cells #[.func (.func 145) #[] #[.pointer (some ⟨sb,0,none⟩),.pointer (some ⟨nb,0,none⟩),.pointer (some ⟨yb,0,none⟩),.pointer (some ⟨fb,0,none⟩)]] 184)
 rows:∃G,MapAt prog 3 W yk G∧∀i:Nat,i<n→Shr B W ((G (.int .i64 i)).getD (.slice none 0 0)) (byL T i)
 ne:sb≠kb∧nb≠kb∧yb≠kb∧fb≠kb∧yk≠kb
 sz:B≤W.heap.size
theorem Ctb.step{a b c m:Int}{base:Option Addr}{n cap:Nat}{T:List (List Int)}{B sb nb yb fb kb yk:Nat}{W W':World}(h:Ctb a b c m base n cap T B sb nb yb fb kb yk W)(hX:Map1 kb W W'){es:Array MapEntry}{ck:Nat}(hk:W.heap[kb]? =some (.map es ck)):Ctb a b c m base n cap T B sb nb yb fb kb yk W':=by
 obtain⟨G,hG,hr⟩:=h.rows
 exact⟨(hX.block _ (Z5 h.hs) h.ne.1).trans h.hs,(hX.block _ (Z5 h.hnb) h.ne.2.1).trans h.hnb,(hX.block _ (Z5 h.hyb) h.ne.2.2.1).trans h.hyb,(hX.block _ (Z5 h.hfn) h.ne.2.2.2.1).trans h.hfn,
  ⟨G,hG.keep (hX.block _ hG.lt h.ne.2.2.2.2),fun i hi=>(hr i hi).map1 hX hk⟩,h.ne,Nat.le_trans h.sz hX.size⟩
theorem Z2B{kb:Nat}(w:World)(o:Obj):Map1 kb w (Go.ChangeMaps.setBlock w kb o):=
 ⟨rfl,rfl,rfl,by rw[Z2s];exact Nat.le_refl _,fun k _ hn=>Z0O hn o⟩
open Classical in
theorem Known.update{T:List (List Int)}{n B kb:Nat}{w:World}{G:Value→Option Value}(hT:Z62 T)(hTn:∀l∈T,(∀p∈l,0≤p∧p<(n:Int))∧l.length≤9)(hn:n≤9)(h:Known T n B kb w G)(key:Nat→Bool)(V:Value)(hV:Shr B w V (Zk T n 0 key)):
 ∃o G',(Instr.mapUpdate 183 (.map (some kb)) (.agg (Zs key)) V).run prog w= .ok () (Go.ChangeMaps.setBlock w kb o)∧Known T n B kb (Go.ChangeMaps.setBlock w kb o) G':=by
 obtain⟨kl,hkl⟩:=Z4k key
 obtain⟨es,ck,hes⟩:=h.isMap
 obtain⟨o,h1,h2⟩:=h.map.update K138 u183 hkl V
 refine⟨o,_,h1,h2,fun key' v hv=> ?_⟩
 split at hv
 ·rename_i he
  cases hv
  have hk:Zs key'=Zs key:=by simpa using he
  rw[Z1W (N:=n) hT (fun l hl p hp=>((hTn l hl).1 p hp).2) n 0 key' key (fun j _ hj=>ZbV hk j (by omega))]
  exact hV.map1 (Z2B w o) hes
 ·exact(h.val key' v hv).map1 (Z2B w o) hes
theorem Z3N{B:Nat}{w:World}:∀{vs:List Value}{ls:List (List Int)},Each (fun u s=>OwnI B w u s) vs ls→∀u∈vs,u.oneCell'=true
 |[],_,_,u,hu=>by cases hu
 |v::vs,[],h,u,hu=>h.elim
 |v::vs,l::ls,⟨h1,h2⟩,u,hu=>by
  rcases List.mem_cons.1 hu with rfl|hu
  ·rcases h1.2 with⟨rfl,_⟩|⟨g,cp,_,rfl,_⟩<;>rfl
  ·exact Z3N h2 u hu
theorem Z2C(T:List (List Int)):∀(d i:Nat)(u:Nat→Bool),(Zk T d i u).length≤d
 |0,_,_=>by simp[Zk]
 |d+1,i,u=>by
  have hb:∀a b:List (List Int),a.length≤d+1→b.length≤d+1→(Z0q a b).length≤d+1:=fun a b h h'=>by unfold Z0q;split<;>assumption
  have hf:∀(B m:List (List Int)),m.length≤d+1→(B.foldl (ZL u (Zk T d (i+1))) m).length≤d+1:=by
   intro B
   induction B with
   |nil=>exact fun m h=>h
   |cons l B ih=>
    intro m h
    rw[List.foldl_cons]
    refine ih _ ?_
    unfold ZL
    split
    ·exact h
    ·exact hb _ _ h (by rw[List.length_cons];have:=Z2C T d (i+1) (by assumption);omega)
  rw[Zk]
  exact hb _ _ (hf _ _ (by simp)) (by have:=Z2C T d (i+1) u;omega)
theorem Z8B(a b c m:Int)(base:Option Addr)(n cap:Nat)(T:List (List Int))(B sb nb yb fb kb yk:Nat)(hn:n≤9)(hT:Z62 T)(hTl:T.length≤1000000)(hTn:∀l∈T,(∀p∈l,0≤p∧p<n)∧l.length≤9):
 ∀(d i0:Nat)(used:Nat→Bool)(W:World)(G:Value→Option Value),i0+d=n→Ctb a b c m base n cap T B sb nb yb fb kb yk W→Known T n B kb W G→
 Calls prog 145 #[.int .i64 i0,.agg (Zs used),.pointer (some ⟨sb,0,none⟩),.pointer (some ⟨nb,0,none⟩),.pointer (some ⟨yb,0,none⟩),.pointer (some ⟨fb,0,none⟩)] W fun e W'=>∃v G',e= .returned v∧Shr B W' v (Zk T d i0 used)∧Known T n B kb W' G'∧Map1 kb W W':=by
 intro d
 induction d with
 |zero=>
  intro i0 used W G hd hC hK
  have hi:i0=n:=by omega
  subst hi
  have s4:=Z0 hC.hs 4
  simp only[List.getElem?_toArray,List.getElem?_cons_zero,List.getElem?_cons_succ] at s4
  have hlt:=Z5 hC.hs
  generalize hno:Zs used=no
  have hnos:no.size=9:=by rw[←hno];rfl
  go_enter func145,ntmps145
  go_wp2
  refine wp_scope_straight ?_
  go_wp2
  rw[Exit.noGoto_ret]
  refine bodyPost_ret (results_tmp rfl _ _ _) rfl ?_
  exact⟨_,G,rfl,Shr.nil _ _,hK.ext ((Ext.rfl' W).alloc _),Map1.of_ext ((Ext.rfl' W).alloc _)⟩
 |succ d ih=>
  intro i0 used W G hd hC hK
  have s4:=Z0 hC.hs 4
  simp only[List.getElem?_toArray,List.getElem?_cons_zero,List.getElem?_cons_succ] at s4
  have hlt:=Z5 hC.hs
  have hin:((i0:Int)==(n:Int))=false:=by simp;omega
  simp only[Zs]
  go_enter func145,ntmps145
  go_wp2
  refine wp_scope_straight ?_
  go_wp2
  have hE0:Ext W ((W.alloc (.cells (Zs used) 138)).alloc (.cells (Zs used) 138)):=((Ext.rfl' W).alloc _).alloc _
  have hg0:((W.alloc (.cells (Zs used) 138)).alloc (.cells (Zs used) 138)).heap[W.heap.size]? =some (.cells (Zs used) 138):=by simp only[Z3,Z2];rw[if_neg (by omega),if_pos trivial]
  have hg1:((W.alloc (.cells (Zs used) 138)).alloc (.cells (Zs used) 138)).heap[W.heap.size+1]? =some (.cells (Zs (Z51 0 used)) 138):=by
   simp only[Z3,Z2];rw[if_pos trivial]
   rw[Z1o (out:=Z51 0 used) (out':=used) (fun j _=>by simp[Z51])]
  simp only[Zs] at hE0 hg0 hg1
  generalize (W.alloc _).alloc _=W1 at hE0 hg0 hg1⊢
  have hi9:i0<9:=by omega
  go_loopw [10,27] (fun _ v27 wr=>∃i:Nat,i≤i0∧v27= .int .i64 i∧Ext W wr∧wr.heap[W.heap.size]? =some (.cells (Zs used) 138)∧wr.heap[W.heap.size+1]? =some (.cells (Zs (Z51 i used)) 138)) (fun _ v27 _=>i0 - (intOf v27).toNat)
  case atStart=>exact⟨0,Nat.zero_le _,rfl,hE0,hg0,hg1⟩
  case round=>
   obtain⟨i,hi,rfl,hE,h0,h1⟩:=hrel
   clear hE0 hg0 hg1
   by_cases hii:i=i0
   ·subst hii
    have hK2:=hK.ext hE
    obtain⟨kl,hkl⟩:=Z4k (Z51 i used)
    have hlk:=hK2.map.lookup K138 u183 (Zap wr) hkl true
    have hbk:Zk T (d+1) i used=Zk T n 0 (Z51 i used):=by rw[Zao (N:=n) hT (fun l hl p hp=>((hTn l hl).1 p hp).2),hd]
    have hn2:=(Map1.of_ext (kb:=kb) hE).block nb (Z5 hC.hnb) hC.ne.2.1
    have n0:=Z0 (hn2.trans hC.hnb) 0
    simp only[List.getElem?_toArray,List.getElem?_cons_zero] at n0
    have y0:=Z0 h1 0;have y1:=Z0 h1 1;have y2:=Z0 h1 2;have y3:=Z0 h1 3;have y4:=Z0 h1 4;have y5:=Z0 h1 5;have y6:=Z0 h1 6;have y7:=Z0 h1 7;have y8:=Z0 h1 8
    simp only[Zs,List.getElem?_toArray,List.getElem?_cons_zero,List.getElem?_cons_succ] at y0 y1 y2 y3 y4 y5 y6 y7 y8 hlk
    cases hG:G (.agg (Zs (Z51 i used))) with
    |some v=>
     have hv:=hK2.val _ v hG
     simp only[Zs] at hG
     rw[hG] at hlk
     simp only[if_true,Option.getD_some,Option.isSome_some] at hlk
     go_wp2
     rw[Exit.noGoto_ret]
     refine bodyPost_ret (results_tmp rfl _ _ _) rfl ?_
     exact⟨v,G,rfl,by rw[hbk];exact hv,hK2,Map1.of_ext hE⟩
    |none=>
     have hGn:G (.agg (Zs (Z51 i used)))=none:=hG
     simp only[Zs] at hG
     rw[hG] at hlk
     simp only[if_true,Option.getD_none,Option.isSome_none] at hlk
     obtain⟨es,ck,hes⟩:=hK.isMap
     have hCr:=hC.step (Map1.of_ext hE) hes
     obtain⟨Gy,hGy,hrows⟩:=hCr.rows
     obtain⟨kl3,hkl3⟩:=Z3M i (by omega)
     have hly:=hGy.lookup K3 u182 (Zap wr) hkl3 false
     have hrow:=hrows i (by omega)
     simp only[if_neg (show¬(false=true) by decide)] at hly
     generalize (Gy (.int .i64 i)).getD (.slice none 0 0)=rv at hly hrow
     obtain⟨ao,cp,rfl⟩:=hrow.form
     have x0:=Z0 hCr.hyb 0
     simp only[List.getElem?_toArray,List.getElem?_cons_zero] at x0
     clear hGy hrows
     go_wp2
     refine wp_label ?_
     go_wp2
     have hmax:(byL T i).length≤1000000:=Nat.le_trans (List.length_filter_le _ _) hTl
     obtain⟨wo,rfl⟩:∃wo:World,wo=wr:=⟨_,rfl⟩
     clear y0 y1 y2 y3 y4 y5 y6 y7 y8 hlk hly n0 x0
     go_loopw [13,45] (fun v13 v45 w2=>∃(j:Nat)(G':Value→Option Value),j≤(byL T i).length∧v45= .int .i64 j∧Shr B w2 v13 (((byL T i).take j).foldl (ZL used (Zk T d (i+1))) [])∧Known T n B kb w2 G'∧Map1 kb wo w2) (fun _ v45 _=>(byL T i).length - (intOf v45).toNat)
     case atStart=>exact⟨0,G,Nat.zero_le _,rfl,Shr.nil _ _,hK2,Map1.refl _ _⟩
     case round=>
      obtain⟨j,G',hj,rfl,hSm,hK3,hM3⟩:=hrel
      obtain⟨es2,ck2,hes2⟩:=hK2.isMap
      have hkl:=hK.map.lt
      have hCw:=hCr.step hM3 hes2
      have z0:=Z0 hCw.hfn 0
      simp only[List.getElem?_toArray,List.getElem?_cons_zero] at z0
      have hlw:=Z5 h0
      have h7:wr.heap[W.heap.size]? =some (.cells (Zs used) 138):=(hM3.block _ hlw (by omega)).trans h0
      have y0:=Z0 h7 0;have y1:=Z0 h7 1;have y2:=Z0 h7 2;have y3:=Z0 h7 3;have y4:=Z0 h7 4;have y5:=Z0 h7 5;have y6:=Z0 h7 6;have y7:=Z0 h7 7;have y8:=Z0 h7 8
      simp only[Zs,List.getElem?_toArray,List.getElem?_cons_zero,List.getElem?_cons_succ] at y0 y1 y2 y3 y4 y5 y6 y7 y8
      obtain⟨a13,c13,rfl⟩:=hSm.form
      by_cases hjl:j=(byL T i).length
      ·have hSm2:Shr B wr (.slice a13 ((byL T i).foldl (ZL used (Zk T d (i+1))) []).length c13) ((byL T i).foldl (ZL used (Zk T d (i+1))) []):=by rw[hjl,List.take_length] at hSm;exact hSm
       have hb1:=ih (i+1) used wr G' (by omega) hCw hK3
       have hbd:Zk T (d+1) i used=Z0q ((byL T i).foldl (ZL used (Zk T d (i+1))) []) (Zk T d (i+1) used):=rfl
       rw[show((i+1:Nat):Int)=(i:Int)+1 from rfl] at hb1
       simp only[Zs] at hb1
       subst hjl
       rw[List.take_length]
       clear hSm
       generalize (byL T i).foldl (ZL used (Zk T d (i+1))) []=M at hSm2 hbd⊢
       generalize Zk T d (i+1) used=M2 at hb1 hbd
       by_cases hbt:M.length<M2.length
       ·have hbet:=fun a3 c3 w=>Z1V a13 M.length c13 a3 M2.length c3 w
        simp only[if_pos hbt] at hbet
        go_wp2_with (first
         |(go_at_call 145;refine hb1.mono ?_;rintro e w3 ⟨v3,G3,rfl,hS3,hK4,hM4⟩
           obtain⟨a3,c3,rfl⟩:=hS3.form
           obtain⟨es3,ck3,hes3⟩:=hK3.isMap
           have hC4:=hCw.step hM4 hes3
           have hS2':=hSm2.map1 hM4 hes3
           have n3:=Z0 hC4.hnb 0
           have h13:w3.heap[W.heap.size+1]? =some (.cells (Zs (Z51 i used)) 138):=(hM4.block _ (by have:=hM3.size;have:=Z5 h1;omega) (by omega)).trans ((hM3.block _ (Z5 h1) (by omega)).trans h1)
           have y0:=Z0 h13 0;have y1:=Z0 h13 1;have y2:=Z0 h13 2;have y3:=Z0 h13 3;have y4:=Z0 h13 4;have y5:=Z0 h13 5;have y6:=Z0 h13 6;have y7:=Z0 h13 7;have y8:=Z0 h13 8
           simp only[Zs,List.getElem?_toArray,List.getElem?_cons_zero,List.getElem?_cons_succ] at y0 y1 y2 y3 y4 y5 y6 y7 y8 n3
           obtain⟨o,G4,hup,hK5⟩:=hK4.update hT hTn hn (Z51 i used) (.slice a3 M2.length c3) (by rw[←hbk,hbd];simp only[Z0q,if_pos hbt];assumption)
           have hM5:=Z2B (kb:=kb) w3 o
           simp only[Zs] at hup)
         |(go_at_call 146;refine(hbet _ _ _).mono ?_;rintro e w4 ⟨rfl,hw4⟩;subst hw4))
        obtain⟨es4,ck4,hes4⟩:=hK4.isMap
        rw[Exit.noGoto_ret]
        refine bodyPost_ret (results_tmp rfl _ _ _) rfl ?_
        exact⟨_,G4,rfl,by rw[hbd];simp only[Z0q,if_pos hbt];exact hS3.map1 hM5 hes4,hK5,((Map1.of_ext hE).trans hM3).trans (hM4.trans hM5)⟩
       ·have hbet:=fun a3 c3 w=>Z1V a13 M.length c13 a3 M2.length c3 w
        simp only[if_neg hbt] at hbet
        go_wp2_with (first
         |(go_at_call 145;refine hb1.mono ?_;rintro e w3 ⟨v3,G3,rfl,hS3,hK4,hM4⟩
           obtain⟨a3,c3,rfl⟩:=hS3.form
           obtain⟨es3,ck3,hes3⟩:=hK3.isMap
           have hC4:=hCw.step hM4 hes3
           have hS2':=hSm2.map1 hM4 hes3
           have n3:=Z0 hC4.hnb 0
           have h13:w3.heap[W.heap.size+1]? =some (.cells (Zs (Z51 i used)) 138):=(hM4.block _ (by have:=hM3.size;have:=Z5 h1;omega) (by omega)).trans ((hM3.block _ (Z5 h1) (by omega)).trans h1)
           have y0:=Z0 h13 0;have y1:=Z0 h13 1;have y2:=Z0 h13 2;have y3:=Z0 h13 3;have y4:=Z0 h13 4;have y5:=Z0 h13 5;have y6:=Z0 h13 6;have y7:=Z0 h13 7;have y8:=Z0 h13 8
           simp only[Zs,List.getElem?_toArray,List.getElem?_cons_zero,List.getElem?_cons_succ] at y0 y1 y2 y3 y4 y5 y6 y7 y8 n3
           obtain⟨o,G4,hup,hK5⟩:=hK4.update hT hTn hn (Z51 i used) (.slice a13 M.length c13) (by rw[←hbk,hbd];simp only[Z0q,if_neg hbt];assumption)
           have hM5:=Z2B (kb:=kb) w3 o
           simp only[Zs] at hup)
         |(go_at_call 146;refine(hbet _ _ _).mono ?_;rintro e w4 ⟨rfl,hw4⟩;subst hw4))
        obtain⟨es4,ck4,hes4⟩:=hK4.isMap
        rw[Exit.noGoto_ret]
        refine bodyPost_ret (results_tmp rfl _ _ _) rfl ?_
        exact⟨_,G4,rfl,by rw[hbd];simp only[Z0q,if_neg hbt];exact hS2'.map1 hM5 hes4,hK5,((Map1.of_ext hE).trans hM3).trans (hM4.trans hM5)⟩
      ·have hjlt:j<(byL T i).length:=by omega
       obtain⟨_,vs,hvr,hve⟩:=hrow.map1 hM3 hes2
       obtain⟨l,hl⟩:∃l,(byL T i)[j]? =some l:=⟨_,List.getElem?_eq_getElem hjlt⟩
       obtain⟨u,hu,hou⟩:=hve.get j l hl
       have hlm:=List.mem_of_getElem? hl
       obtain⟨hge,tl,hltl⟩:=Z6Q hT hlm
       have hlT:=hTn l (List.mem_filter.1 hlm).1
       obtain⟨gr,cr,her,hgrB,hgrl⟩:=hvr.form (by rw[hve.length];omega)
       obtain⟨rfl,hvl,rfl⟩:ao=some ⟨gr,0,none⟩∧(byL T i).length=vs.length∧cp=cr:=by simpa using her
       have hcu:=hvr.cells (g:=gr) rfl j u hu
       rw[Z0c] at hcu
       obtain⟨gl,cl,rfl,hglB,hgll⟩:=hou.form (by rw[hltl];simp)
       have hTk:((byL T i).take (j+1)).foldl (ZL used (Zk T d (i+1))) []=ZL used (Zk T d (i+1)) (((byL T i).take j).foldl (ZL used (Zk T d (i+1))) []) l:=by rw[Z0G hl,List.foldl_append];rfl
       clear hltl
       have hj0:(0:Int)≤(j:Int):=by omega
       have hjL:(j:Int)<((byL T i).length:Int):=by omega
       go_wp2
       have hE5:Ext wr (wr.alloc (.cells (Zs used) 138)):=(Ext.rfl' wr).alloc _
       have h5:(wr.alloc (.cells (Zs used) 138)).heap[wr.heap.size]? =some (.cells (Zs used) 138):=by rw[Z3,if_pos rfl]
       simp only[Zs] at hE5
       have h5':(wr.alloc (.cells #[.bool (used 0),.bool (used 1),.bool (used 2),.bool (used 3),.bool (used 4),.bool (used 5),.bool (used 6),.bool (used 7),.bool (used 8)] 138)).heap[wr.heap.size]? =some (.cells (Zs used) 138):=h5
       clear h5 y0 y1 y2 y3 y4 y5 y6 y7 y8
       generalize wr.alloc _=w6 at hE5 h5'⊢
       obtain⟨wq,rfl⟩:∃wq:World,wq=wr:=⟨_,rfl⟩
       go_loopw [52] (fun v52 w3=>∃(k:Nat)(u':Nat→Bool),k≤l.length∧v52= .int .i64 k∧Ext wq w3∧w3.heap[wq.heap.size]? =some (.cells (Zs u') 138)∧Hid (take1 used l=take1 u' (l.drop k))) (fun v52 _=>l.length - (intOf v52).toNat)
       case atStart=>exact⟨0,used,Nat.zero_le _,rfl,hE5,h5',rfl⟩
       case round=>
        obtain⟨k,u',hk,rfl,hE6,h6,hTk6⟩:=hrel
        by_cases hkl2:k=l.length
        ·subst hkl2
         have hsome:take1 used l=some u':=by rw[hTk6.out,List.drop_length];rfl
         have hC6:=hCw.step (Map1.of_ext hE6) (hK3.isMap).choose_spec.choose_spec
         have hK6:=hK3.ext hE6
         have z6:=Z0 hC6.hfn 0
         simp only[List.getElem?_toArray,List.getElem?_cons_zero] at z6
         have y0:=Z0 h6 0;have y1:=Z0 h6 1;have y2:=Z0 h6 2;have y3:=Z0 h6 3;have y4:=Z0 h6 4;have y5:=Z0 h6 5;have y6:=Z0 h6 6;have y7:=Z0 h6 7;have y8:=Z0 h6 8
         simp only[Zs,List.getElem?_toArray,List.getElem?_cons_zero,List.getElem?_cons_succ] at y0 y1 y2 y3 y4 y5 y6 y7 y8
         have ho6:=hou.ext hE6
         have hSm6:=hSm.ext hE6
         have hfbl:fb<wr.heap.size:=Z5 hC6.hfn
         have hwql:wq.heap.size<wr.heap.size:=Z5 h6
         have hTk2:ZL used (Zk T d (i+1)) (((byL T i).take j).foldl (ZL used (Zk T d (i+1))) []) l=Z0q (((byL T i).take j).foldl (ZL used (Zk T d (i+1))) []) (l::Zk T d (i+1) u'):=by simp only[ZL,hsome]
         have hb8:∀W8,Ext wr W8→_:=fun W8 hE8=>ih (i+1) u' W8 G' (by omega) (hC6.step (Map1.of_ext hE8) (hK6.isMap).choose_spec.choose_spec) (hK6.ext hE8)
         have hown8:=Z6s wr B 27 #[.slice (some ⟨gl,0,none⟩) l.length cl] 1 wr.heap.size rfl hC6.sz rfl (by simp[maxLen])
         rw[show((i+1:Nat):Int)=(i:Int)+1 from rfl] at hb8
         simp only[Zs] at hb8
         generalize ((byL T i).take j).foldl (ZL used (Zk T d (i+1))) []=Mp at hSm6 hTk2 hTk⊢
         have hM9len:(Zk T d (i+1) u').length≤1000000:=Nat.le_trans (Z2C T d (i+1) u') (by omega)
         generalize Zk T d (i+1) u'=M9 at hb8 hTk2 hM9len
         by_cases hbt:Mp.length<M9.length+1
         ·have hbet:=fun a3 c3 w=>Z1V a13 Mp.length c13 a3 (M9.length+1) c3 w
          simp only[if_pos hbt] at hbet
          go_wp2_with (first
           |(go_at_call 145;refine(hb8 _ (by(repeat (with_reducible first|assumption|exact Ext.rfl' _|apply Ext.alloc|apply Ext.drew)))).mono ?_;rintro e w9 ⟨v9,G9,rfl,hS9,hK9,hM9⟩
             obtain⟨a9,c9,rfl⟩:=hS9.form
             obtain⟨hnil9,vs9,hr9,he9⟩:=hS9
             have hl9:=he9.length
             have hown9:=Z2R (hown8:(wr.alloc (.cells #[.slice (some ⟨gl,0,none⟩) l.length cl] 27)).ownsRow B 27 1 _ 1 _) hM9 (hK6.ext ((Ext.rfl' wr).alloc (.cells #[.slice (some ⟨gl,0,none⟩) l.length cl] 27))).isMap.choose_spec.choose_spec)
           |(at_builtin
             refine Z1p rfl _ _ rfl B wr.heap.size _ rfl hown9 (.slice a9 M9.length c9) M9.length vs9 rfl (by rw[←hl9];exact hl9▸hr9) (fun h=>hnil9 (List.eq_nil_of_length_eq_zero h)) (Z3N he9) hM9len (Nat.le_trans hC6.sz (Nat.le_trans (by simp) hM9.size)) ?_
             intro g' cap' w10 h10 hE10)
           |(go_at_call 146;refine(hbet _ _ _).mono ?_;rintro e w4 ⟨rfl,hw4⟩;subst hw4))
          have hX10:Map1 kb wr w4:=((Map1.of_ext ((Ext.rfl' wr).alloc (.cells #[.slice (some ⟨gl,0,none⟩) l.length cl] 27))).trans hM9).trans (Map1.of_ext hE10)
          have hkm:=hK6.isMap.choose_spec.choose_spec
          rw[hvl]
          refine⟨⟨_,_,_,_,_,_,_,_,_,_,_,_,_,_,_,_,_,_,_,_,_,_,_,_,_,_,_,_,_,_,_,_,⟨j+1,G9,by omega,by push_cast;rfl,?_,hK9.ext hE10,(hM3.trans (Map1.of_ext hE6)).trans hX10⟩,rfl⟩,by simp[intOf];omega⟩
          rw[hTk,hTk2,Z0q,if_pos (by simpa using hbt)]
          exact⟨fun h=>(by cases h),_::vs9,by rw[List.length_cons,hl9];exact h10,Z2R ho6 hX10 hkm,he9.mono fun u s h=>Z00 h hE10⟩
         ·have hbet:=fun a3 c3 w=>Z1V a13 Mp.length c13 a3 (M9.length+1) c3 w
          simp only[if_neg hbt] at hbet
          go_wp2_with (first
           |(go_at_call 145;refine(hb8 _ (by(repeat (with_reducible first|assumption|exact Ext.rfl' _|apply Ext.alloc|apply Ext.drew)))).mono ?_;rintro e w9 ⟨v9,G9,rfl,hS9,hK9,hM9⟩
             obtain⟨a9,c9,rfl⟩:=hS9.form
             obtain⟨hnil9,vs9,hr9,he9⟩:=hS9
             have hl9:=he9.length
             have hown9:=Z2R (hown8:(wr.alloc (.cells #[.slice (some ⟨gl,0,none⟩) l.length cl] 27)).ownsRow B 27 1 _ 1 _) hM9 (hK6.ext ((Ext.rfl' wr).alloc (.cells #[.slice (some ⟨gl,0,none⟩) l.length cl] 27))).isMap.choose_spec.choose_spec)
           |(at_builtin
             refine Z1p rfl _ _ rfl B wr.heap.size _ rfl hown9 (.slice a9 M9.length c9) M9.length vs9 rfl (by rw[←hl9];exact hl9▸hr9) (fun h=>hnil9 (List.eq_nil_of_length_eq_zero h)) (Z3N he9) hM9len (Nat.le_trans hC6.sz (Nat.le_trans (by simp) hM9.size)) ?_
             intro g' cap' w10 h10 hE10)
           |(go_at_call 146;refine(hbet _ _ _).mono ?_;rintro e w4 ⟨rfl,hw4⟩;subst hw4))
          have hX10:Map1 kb wr w4:=((Map1.of_ext ((Ext.rfl' wr).alloc (.cells #[.slice (some ⟨gl,0,none⟩) l.length cl] 27))).trans hM9).trans (Map1.of_ext hE10)
          have hkm:=hK6.isMap.choose_spec.choose_spec
          rw[hvl]
          refine⟨⟨_,_,_,_,_,_,_,_,_,_,_,_,_,_,_,_,_,_,_,_,_,_,_,_,_,_,_,_,_,_,_,_,⟨j+1,G9,by omega,by push_cast;rfl,?_,hK9.ext hE10,(hM3.trans (Map1.of_ext hE6)).trans hX10⟩,rfl⟩,by simp[intOf];omega⟩
          rw[hTk,hTk2,Z0q,if_neg (by simpa using hbt)]
          exact hSm6.map1 hX10 hkm
        ·obtain⟨p,hp⟩:∃p,l[k]? =some p:=⟨_,List.getElem?_eq_getElem (by omega)⟩
         have hpn:=hlT.1 p (List.mem_of_getElem? hp)
         obtain⟨q,rfl⟩:=Int.eq_ofNat_of_zero_le hpn.1
         have hq9:q<9:=by omega
         have hcp:=hou.cells (g:=gl) rfl k (.int .i64 q) (by rw[List.getElem?_map,hp];rfl)
         rw[Z0c] at hcp
         replace hcp:=hE6.cellS hcp
         have hcq:=Z0 h6 q
         rw[Z1u _ q hq9] at hcq
         have hfq:=Z8 h6 q
         have hk0:(0:Int)≤(k:Int):=by omega
         have hkL:(k:Int)<(l.length:Int):=by omega
         have hq0:(0:Int)≤(q:Int):=by omega
         have hq9':(q:Int)<9:=by omega
         have hdr:=Z0b hp
         by_cases huq:u' q=true
         ·rw[huq] at hcq
          have hnone:take1 used l=none:=by rw[hTk6.out,hdr,take1,if_pos (by simpa using huq)]
          go_wp2
          refine⟨⟨j+1,G',by omega,by push_cast;rfl,?_,hK3.ext hE6,hM3.trans (Map1.of_ext hE6)⟩,by simp[intOf];omega⟩
          rw[hTk]
          simp only[ZL,hnone]
          exact hSm.ext hE6
         ·have huq':u' q=false:=by simpa using huq
          rw[huq'] at hcq
          have hTk7:Hid (take1 used l=take1 (fun j=>u' j||j==q) (l.drop (k+1))):=by
           show _=_
           rw[hTk6.out,hdr,take1,if_neg (by simpa using huq)]
           simp
          go_wp2
          exact⟨⟨k+1,_,by omega,by push_cast;rfl,hE6.setCell _ _ (Nat.le_refl _),by rw[Zb h6,Z52 _ q hq9],hTk7⟩,by simp[intOf];omega⟩
   ·have hlt0:i<i0:=by omega
    have c1:=Z0 h1 i
    rw[Z1u _ i (by omega)] at c1
    have f1:=Z8 h1 i
    have hi0:(0:Int)≤(i:Int):=by omega
    have hi8:(i:Int)<9:=by omega
    have hi7:(i:Int)<(i0:Int):=by omega
    go_wp2
    refine⟨⟨i+1,by omega,by push_cast;rfl,hE.setCell _ _ (by simp),(set_ne (by simp) _).trans h0,?_⟩,by simp[intOf];omega⟩
    rw[Zb h1,Z52 _ i (by omega)]
    rw[Z1o (out':=Z51 (i+1) used)]
    intro j _
    simp only[Z51]
    by_cases hj:j=i
    ·subst hj;simp
    ·have e1:(j==i)=false:=by simpa using hj
     have e2:decide (j<i+1)=decide (j<i):=decide_eq_decide.2 (by omega)
     rw[e1,e2,Bool.or_false]
end Go.Proofs.Tryq
namespace Go.Nk
open Go Go.Region
open Go.Proofs.Tryq (Ext Z3 Z2)
variable {P:Program} {ops:Array Oper} {Q:Exit→Act→World→Prop}
variable {n:Nat} {Dl:List (Option Tmp)} {S:List (Option Value)} {L0:Tmp→Value} {M:(Nat→Bool)→(Tmp→Value)→World→Prop} {ℓ:Nat→Bool} {a:Act} {w w':World} {i:Nat} {o:Oper}
def Z53(ops:Array Oper)(a:Act)(o:Oper):Prop:=Region.wanted o (yielded ops a.tmps)=true
theorem Z4(h:o.guard=none):Z53 ops a o:=by simp[Z53,Region.wanted,h]
theorem Z1X{K:Act→World→Prop}(ho:ops[i]? =some o)(hw:Z53 ops a o)(h:o.wp P a w K Q):wpOp P ops Q i K a w:=by
 unfold wpOp
 unfold Z53 at hw
 simp only[ho,hw,if_true]
 exact .inl h
end Go.Nk
namespace Go.Proofs.Tryq
open Go Go.Nk Go.RowKit
open Go.Maps (Keyed)
open Go.ChangeMaps (setBlock)
theorem run_append_keep{P:Program}(w:World)(base:Nat)(t ty e:TypeId)(i:TypeInfo)(z:Value)(size bytes:Nat)(ht:P.underlying t=some (.slice e))(hi:P.info? e=some i)(hz:i.zero=some z)
 (hsize:i.size=size)(hby:i.bytes=bytes)(hzs:z.cells.size=size)(hsz:0<size)
 (v:Value)(n:Nat)(xs:List Value)(hown:w.ownsRow base e size v n xs)
 (a:Addr)(m c:Nat)(news:List Value)(hl:news.length=m*size)(hnews:∀j u,news[j]? =some u→w.cell? (a.add j)=some u)(h1:∀u∈news,u.oneCell'=true)
 (h63:n+m≤maxLen)(hbytes:(n+m)*bytes≤140737488355328)(hbase:base≤w.heap.size):
 ∃v' w',(Builtin.append_ #[t,t] ty #[v,.slice (some a) m c]).run P w= .ok v' w'∧w'.ownsRow base e size v' (n+m) (xs++news)∧w.grownBy w' v.ownBlock∧
  ((v'.ownBlock=v.ownBlock)∨∀k,v'.ownBlock=some k→w.heap.size≤k):=by
 rcases hown.2 with⟨rfl,rfl⟩|⟨g,cap,cur,rfl,hbg,hg,hnc,hcm,hcs,htake⟩
 ·have hx:xs=[]:=List.eq_nil_of_length_eq_zero (by simpa using hown.1)
  subst hx
  obtain⟨v',w',r1,r2,r3,_⟩:=run_append_own (P:=P) w w.heap.size t ty e i z size bytes ht hi hz hsize hby hzs hsz (.slice none 0 0) 0 [] (World.ownsRow_nil _ _ _ _) a m c news hl hnews h1 h63 hbytes (Nat.le_refl _)
  exact⟨v',w',r1,Z05 r2 hbase,r3,.inr fun k hk=>(r2.lt k hk).1⟩
 ·by_cases hroom:n+m≤cap
  ·obtain⟨w',r1,r2,r3⟩:=run_append_fits (P:=P) w base t ty e i size ht hi hsize g n cap xs hown a m c news hl hnews h1 hroom
   exact⟨_,w',r1,r2,r3,.inl rfl⟩
  ·obtain⟨v',w',r1,r2,r3⟩:=run_append_arg_grows (P:=P) w t ty e i z size bytes ht hi hz hsize hby hzs hsz ⟨g,0,none⟩ n cap xs hown.1 (hown.cells (g:=g) rfl) a m c news hl hnews (by omega) h63 hbytes
   exact⟨v',w',r1,Z05 r2 hbase,⟨r3.os,r3.tape,r3.output,r3.size,fun b hb _=>r3.block b hb (fun e=>by cases e)⟩,.inr fun k hk=>(r2.lt k hk).1⟩
theorem Z3V{P:Program}{w:World}{o:Oper}{a:Act}{K:Act→World→Prop}{Q:Exit→Act→World→Prop}(s x:Operand)(t:TypeId)
 (ho:o.op= .call {callee:= .builtin .append,args:= #[s,x],argTypes:= #[t,t]})
 (base:Nat)(e:TypeId)(i:TypeInfo)(z:Value)(size bytes:Nat)(ht:P.underlying t=some (.slice e))(hi:P.info? e=some i)(hz:i.zero=some z)
 (hsize:i.size=size)(hby:i.bytes=bytes)(hzs:z.cells.size=size)(hsz:0<size)
 (v:Value)(n:Nat)(xs:List Value)(hs:a.eval s=v)(hown:w.ownsRow base e size v n xs)
 (ad:Addr)(m c:Nat)(news:List Value)(hx:a.eval x= .slice (some ad) m c)(hl:news.length=m*size)(hnews:∀j u,news[j]? =some u→w.cell? (ad.add j)=some u)(h1:∀u∈news,u.oneCell'=true)
 (h63:n+m≤maxLen)(hbytes:(n+m)*bytes≤140737488355328)(hbase:base≤w.heap.size)
 (h:∀v' w',w'.ownsRow base e size v' (n+m) (xs++news)→w.grownBy w' v.ownBlock→((v'.ownBlock=v.ownBlock)∨∀k,v'.ownBlock=some k→w.heap.size≤k)→K (a.put o.dst v') w'):o.wp P a w K Q:=by
 obtain⟨v',w',hr,h2,h3,h4⟩:=run_append_keep (P:=P) w base t o.type e i z size bytes ht hi hz hsize hby hzs hsz v n xs hown ad m c news hl hnews h1 h63 hbytes hbase
 unfold Oper.wp execOp
 simp only[ho,resolve,invoke,builtin,Sem.run_bind,Sem.run_pure,Result.andThen_ok,List.map_toArray,List.map_cons,List.map_nil,hs,hx,hr]
 exact h v' w' h2 h3 h4
def ZO(G:Value→Option Value)(i:Nat):Value:=(G (.int .i64 i)).getD (.slice none 0 0)
def ByAt(B B2 n yk:Nat)(D:List (List Int))(w:World):Prop:=
 ∃G:Value→Option Value,MapAt prog 3 w yk G∧(∀i:Nat,i<n→Shr B w (ZO G i) (byL D i))∧(∀i j:Nat,i<n→j<n→i≠j→(ZO G i).ownBlock=none∨(ZO G i).ownBlock≠(ZO G j).ownBlock)∧∀i:Nat,i<n→∀k,(ZO G i).ownBlock=some k→B2≤k
theorem Shr.lt{B:Nat}{w:World}{v:Value}{ls:List (List Int)}(h:Shr B w v ls){k:Nat}(hk:v.ownBlock=some k):B≤k∧k<w.heap.size:=by
 obtain⟨_,vs,h1,_⟩:=h
 exact h1.lt k hk
theorem Shr.isCells{B:Nat}{w:World}{v:Value}{ls:List (List Int)}(h:Shr B w v ls){k:Nat}(hk:v.ownBlock=some k):∃c,w.heap[k]? =some (.cells c 27):=by
 obtain⟨_,vs,h1,_⟩:=h
 rcases h1.2 with⟨rfl,_⟩|⟨g,cp,cur,rfl,_,hg,_⟩
 ·cases hk
 ·cases hk;exact⟨cur,hg⟩
theorem Shr.grown{B:Nat}{W w:World}{v rv:Value}{ls rs:List (List Int)}(h:Shr B W v ls)(hr:Shr B W rv rs)(hg:W.grownBy w rv.ownBlock)(hne:v.ownBlock=none∨v.ownBlock≠rv.ownBlock):Shr B w v ls:=by
 obtain⟨h0,vs,h1,h2⟩:=h
 refine⟨h0,vs,h1.kept hg hne,h2.mono fun u s hu=>hu.kept hg ?_⟩
 obtain⟨_,rvs,k1,_⟩:=hr
 exact Z4i hu k1 (by decide)
theorem OwnI.grownRow{B:Nat}{W w:World}{u rv:Value}{l:List Int}{rs:List (List Int)}(h:OwnI B W u l)(hr:Shr B W rv rs)(hg:W.grownBy w rv.ownBlock):OwnI B w u l:=by
 obtain⟨_,rvs,k1,_⟩:=hr
 exact World.ownsRow.kept h hg (Z4i h k1 (by decide))
theorem ZbW(D:List (List Int))(l:List Int)(i:Nat):byL (D++[l]) i=if l.head? =some (i:Int) then byL D i++[l] else byL D i:=by
 unfold byL
 rw[List.filter_append]
 by_cases h:l.head? =some (i:Int)
 ·rw[if_pos h,List.filter_cons_of_pos (by simpa using h),List.filter_nil]
 ·rw[if_neg h,List.filter_cons_of_neg (by simpa using h),List.filter_nil,List.append_nil]
open Classical in
theorem ByAt.step{B B2 n yk:Nat}{D:List (List Int)}{W:World}{G:Value→Option Value}(hm:MapAt prog 3 W yk G)(hrows:∀i:Nat,i<n→Shr B W (ZO G i) (byL D i))
 (hap:∀i j:Nat,i<n→j<n→i≠j→(ZO G i).ownBlock=none∨(ZO G i).ownBlock≠(ZO G j).ownBlock)(hb2:∀i:Nat,i<n→∀k,(ZO G i).ownBlock=some k→B2≤k)(hB2:B2≤W.heap.size){l:List Int}{i:Nat}(hi:i<n)(hn:n<100)(hl:l.head? =some (i:Int)){u v':Value}{w3:World}{vs:List Value}
 (hu:OwnI B W u l)(hvs:W.ownsRow B 27 1 (ZO G i) vs.length vs)(he:Each (fun u s=>OwnI B W u s) vs (byL D i))
 (hown:w3.ownsRow B 27 1 v' (vs.length+1) (vs++[u]))(hg:W.grownBy w3 (ZO G i).ownBlock)(hwhere:(v'.ownBlock=(ZO G i).ownBlock)∨∀k,v'.ownBlock=some k→W.heap.size≤k):
 ∃o,(Instr.mapUpdate 182 (.map (some yk)) (.int .i64 i) v').run prog w3= .ok () (setBlock w3 yk o)∧ByAt B B2 n yk (D++[l]) (setBlock w3 yk o):=by
 have hyk:∀k,(ZO G i).ownBlock=some k→k≠yk:=by
  rintro k hk rfl
  obtain⟨c,hc⟩:=(hrows i hi).isCells hk
  obtain⟨es,ck,hb,_⟩:=hm
  rw[hb] at hc
  cases hc
 have hm3:MapAt prog 3 w3 yk G:=hm.keep (hg.block _ hm.lt (fun e=>hyk _ e.symm rfl))
 obtain⟨es,ck,hes,_⟩:=hm3
 have hm3:MapAt prog 3 w3 yk G:=hm.keep (hg.block _ hm.lt (fun e=>hyk _ e.symm rfl))
 obtain⟨kl,hkl⟩:=Z3M i (by omega)
 obtain⟨o,h1,h2⟩:=hm3.update K3 u182 hkl v'
 refine⟨o,h1,_,h2,?_,?_,?_⟩
 ·have hX:=Z2B (kb:=yk) w3 o
  intro j hj
  have hrow:ZO (fun x=>if x=Value.int .i64 i then some v' else G x) j=if j=i then v' else ZO G j:=by
   unfold ZO
   by_cases hji:j=i
   ·subst hji;simp
   ·have hne:¬(Value.int .i64 (j:Int)=Value.int .i64 (i:Int)):=by simp;omega
    simp[hji,hne]
  rw[hrow,ZbW]
  by_cases hji:j=i
  ·subst hji
   rw[if_pos rfl,if_pos hl]
   have hr:=hrows j hj
   refine Shr.map1 (w:=w3) ⟨fun h=>by simp at h,vs++[u],by simpa using hown,Each.append (he.mono fun u s h=>OwnI.grownRow h hr hg) ⟨OwnI.grownRow hu hr hg,trivial⟩⟩ hX hes
  ·rw[if_neg hji,if_neg (by rw[hl];simp;omega)]
   exact((hrows j hj).grown (hrows i hi) hg (hap j i hj hi hji)).map1 hX hes
 ·have hrow:∀j:Nat,ZO (fun x=>if x=Value.int .i64 i then some v' else G x) j=if j=i then v' else ZO G j:=by
   intro j
   unfold ZO
   by_cases hji:j=i
   ·subst hji;simp
   ·have hne:¬(Value.int .i64 (j:Int)=Value.int .i64 (i:Int)):=by simp;omega
    simp[hji,hne]
  intro p q hp hq hpq
  rw[hrow,hrow]
  have key:∀j,j<n→j≠i→∀k,(ZO G j).ownBlock=some k→v'.ownBlock≠some k:=by
   intro j hj hji k hk he
   rcases hwhere with h|h
   ·rcases hap j i hj hi hji with h'|h'
    ·rw[hk] at h';cases h'
    ·rw[hk,←h,he] at h';exact h' rfl
   ·have:=h k he
    have:=((hrows j hj).lt hk).2
    omega
  by_cases hpi:p=i
  ·have hqi:q≠i:=fun h=>hpq (hpi.trans h.symm)
   rw[if_pos hpi,if_neg hqi]
   cases hv:v'.ownBlock with
   |none=>exact .inl rfl
   |some k=>exact .inr fun h=>key q hq hqi k h.symm hv
  ·rw[if_neg hpi]
   by_cases hqi:q=i
   ·rw[if_pos hqi]
    cases hv:(ZO G p).ownBlock with
    |none=>exact .inl rfl
    |some k=>exact .inr fun h=>key p hp hpi k hv h.symm
   ·rw[if_neg hqi]
    exact hap p q hp hq hpq
 ·intro j hj k
  have hrow:ZO (fun x=>if x=Value.int .i64 i then some v' else G x) j=if j=i then v' else ZO G j:=by
   unfold ZO
   by_cases hji:j=i
   ·subst hji;simp
   ·have hne:¬(Value.int .i64 (j:Int)=Value.int .i64 (i:Int)):=by simp;omega
    simp[hji,hne]
  rw[hrow]
  by_cases hji:j=i
  ·rw[if_pos hji]
   intro hk
   rcases hwhere with h|h
   ·exact hb2 i hi k (by rw[←h];exact hk)
   ·exact Nat.le_trans hB2 (h k hk)
  ·rw[if_neg hji]
   exact hb2 j hj k
structure R5(w0:World)(cells:Array Value)(A:Value→World→Prop)(Z:World→Prop)(ℓ:Nat→Bool)(x:Tmp→Value)(w:World):Prop where
 o1:ℓ 12=true→ℓ 11=true
 o2:ℓ 11=true→ℓ 10=true∧ℓ 8=true
 s0:ℓ 10=false→w=w0
 s1:ℓ 10=true→ℓ 11=false→w=w0.alloc (.cells cells 27)∧x 29= .slice (some ⟨w0.heap.size,0,none⟩) 1 1
 s2:ℓ 11=true→ℓ 12=false→A (x 30) w
 s3:ℓ 12=true→Z w
section
variable {w0:World} {cells:Array Value} {A:Value→World→Prop} {Z:World→Prop} {ℓ:Nat→Bool} {x:Tmp→Value} {w:World}
theorem R5.start:R5 w0 cells A Z (fun _=>false) x w0:=by
 refine⟨fun h=> ?_,fun h=> ?_,fun _=>rfl,fun h=> ?_,fun h=> ?_,fun h=> ?_⟩<;>cases h
theorem R5.keep(h:R5 w0 cells A Z ℓ x w){i:Nat}{d:Tmp}{v:Value}(hi:(i !=10&&i !=11&&i !=12)=true)(hd:(d !=29&&d !=30)=true):R5 w0 cells A Z (upd ℓ i) (fun t=>if t=d then v else x t) w:=by
 simp at hi hd
 have e10:=upd_ne (ℓ:=ℓ) (i:=i) (j:=10) (fun h=>hi.1.1 h.symm)
 have e11:=upd_ne (ℓ:=ℓ) (i:=i) (j:=11) (fun h=>hi.1.2 h.symm)
 have e12:=upd_ne (ℓ:=ℓ) (i:=i) (j:=12) (fun h=>hi.2 h.symm)
 refine⟨by rw[e11,e12];exact h.o1,?_,by rw[e10];exact h.s0,?_,?_,by rw[e12];exact h.s3⟩
 ·rw[e10,e11]
  intro h11
  refine⟨(h.o2 h11).1,?_⟩
  by_cases h8:(8:Nat)=i
  ·rw[←h8];exact Z0k _ _
  ·rw[upd_ne h8];exact(h.o2 h11).2
 ·rw[e10,e11]
  intro a b
  obtain⟨c1,c2⟩:=h.s1 a b
  exact⟨c1,by rw[if_neg (fun e=>hd.1 e.symm)];exact c2⟩
 ·rw[e11,e12]
  intro a b
  have:=h.s2 a b
  rw[if_neg (fun e=>hd.2 e.symm)]
  exact this
theorem R5.cell(h:R5 w0 cells A Z ℓ x w){p:Addr}{v:Value}(h0:w0.cell? p=some v)(hA:∀u w,A u w→w.cell? p=some v)(hZ:∀w,Z w→w.cell? p=some v):w.cell? p=some v:=by
 cases h10:ℓ 10 with
 |false=>rw[h.s0 h10];exact h0
 |true=>
  cases h11:ℓ 11 with
  |false=>
   rw[(h.s1 h10 h11).1]
   exact((Ext.rfl' w0).alloc _).cellS h0
  |true=>
   cases h12:ℓ 12 with
   |false=>exact hA _ _ (h.s2 h11 h12)
   |true=>exact hZ _ (h.s3 h12)
theorem R5.make(h:R5 w0 cells A Z ℓ x w)(h10:ℓ 10=false):R5 w0 cells A Z (upd ℓ 10) (fun t=>if t=29 then .slice (some ⟨w.heap.size,0,none⟩) 1 1 else x t) (w.alloc (.cells cells 27)):=by
 have h11:ℓ 11=false:=by
  cases hb:ℓ 11 with
  |false=>rfl
  |true=>rw[(h.o2 hb).1] at h10;cases h10
 have h12:ℓ 12=false:=by
  cases hb:ℓ 12 with
  |false=>rfl
  |true=>rw[h.o1 hb] at h11;cases h11
 have hw:=h.s0 h10
 subst hw
 refine⟨?_,?_,?_,?_,?_,?_⟩
 ·rw[upd_ne (by decide),h12];intro h;cases h
 ·rw[upd_ne (by decide),h11];intro h;cases h
 ·rw[Z0k];intro h;cases h
 ·intro _ _;exact⟨rfl,rfl⟩
 ·rw[upd_ne (by decide),h11];intro h;cases h
 ·rw[upd_ne (by decide),h12];intro h;cases h
theorem R5.app(h:R5 w0 cells A Z ℓ x w)(h10:ℓ 10=true)(h8:ℓ 8=true)(h11:ℓ 11=false){v:Value}{w':World}(hA:A v w'):R5 w0 cells A Z (upd ℓ 11) (fun t=>if t=30 then v else x t) w':=by
 have h12:ℓ 12=false:=by
  cases hb:ℓ 12 with
  |false=>rfl
  |true=>rw[h.o1 hb] at h11;cases h11
 refine⟨?_,?_,?_,?_,?_,?_⟩
 ·intro _;exact Z0k _ _
 ·intro _;exact⟨by rw[upd_ne (by decide)];exact h10,by rw[upd_ne (by decide)];exact h8⟩
 ·rw[upd_ne (by decide),h10];intro h;cases h
 ·rw[Z0k];intro _ h;cases h
 ·intro _ _;exact hA
 ·rw[upd_ne (by decide),h12];intro h;cases h
theorem R5.put(h:R5 w0 cells A Z ℓ x w)(h11:ℓ 11=true)(h12:ℓ 12=false){w':World}(hZ:Z w'):R5 w0 cells A Z (upd ℓ 12) x w':=by
 refine⟨?_,?_,?_,?_,?_,?_⟩
 ·intro _;rw[upd_ne (by decide)];exact h11
 ·rw[upd_ne (by decide),upd_ne (by decide),upd_ne (by decide)];exact h.o2
 ·rw[upd_ne (by decide),(h.o2 h11).1];intro h;cases h
 ·rw[upd_ne (by decide),upd_ne (by decide),h11];intro _ h;cases h
 ·rw[Z0k];intro _ h;cases h
 ·intro _;exact hZ
theorem R5.ahead(h:R5 w0 cells A Z ℓ x w)(h8:ℓ 8=false):w=w0∨w=w0.alloc (.cells cells 27):=by
 have h11:ℓ 11=false:=by
  cases hb:ℓ 11 with
  |false=>rfl
  |true=>rw[(h.o2 hb).2] at h8;cases h8
 cases h10:ℓ 10 with
 |false=>exact .inl (h.s0 h10)
 |true=>exact .inr (h.s1 h10 h11).1
end
end Go.Proofs.Tryq
namespace Go.Proofs.Tryq
set_option maxRecDepth 100000
set_option maxHeartbeats 4000000
open Go Go.Nk Go.RowKit
open Go.Maps (Keyed)
open Go.ChangeMaps (setBlock)
theorem Z65(a b c m:Int)(base:Option Addr)(n cap:Nat)(L:List Sf)(out:Nat→Bool)(w:World)(hG:Good a b c L)(hlen:L.length=n)(hn:n≤9)(hm:2≤m∧m≤4)(hM:Meas w)(hS:RawA w base L):
 Calls prog 100 #[.agg #[.int .i64 a,.int .i64 b,.int .i64 c,.int .i64 m,.slice base n cap],.agg (Zs out)] w fun e w'=>∃v,e= .returned v∧Shr w.heap.size w' v (Zk (Zt a b c L n out m.toNat [] 0) n 0 out)∧Ext w w':=by
 have hsets:=fun W (hW:Ext w W)=>ZbU a b c m base n cap L out W hG hlen hn hm (hM.ext hW) (hS.ext hW)
 have hT1:∀l∈Zt a b c L n out m.toNat [] 0,l.Pairwise (·<·)∧(∀p∈l,0≤p∧p<(n:Int))∧l.length=m.toNat:=fun l hl=>by
  have:=Z2A a b c L n out m.toNat [] 0 l hl (by simp) List.Pairwise.nil
  exact⟨this.1,this.2.1,by simpa using this.2.2⟩
 have hTl:(Zt a b c L n out m.toNat [] 0).length≤100000:=by
  refine Nat.le_trans (Z3L a b c L n out hn m.toNat [] 0) ?_
  have:m.toNat=2∨m.toNat=3∨m.toNat=4:=by omega
  rcases this with h|h|h<;>rw[h]<;>decide
 have hTe:Z62 (Zt a b c L n out m.toNat [] 0):=Z6R a b c L n m.toNat out
 generalize Zt a b c L n out m.toNat [] 0=T at hsets hT1 hTl hTe⊢
 have hmm:= @run_makeMap prog
 simp only[Zs] at hsets⊢
 go_enter func100,ntmps100
 go_wp2_with (
  go_at_call 115;refine(hsets _ (((((Ext.rfl' w).alloc _).alloc _).alloc _).alloc _)).mono ?_;rintro e w2 ⟨v,vs,rfl,hvs,hve,hE2⟩
  have hE3:Ext w w2:=Ext.trans (((((Ext.rfl' w).alloc _).alloc _).alloc _).alloc _) hE2
  have g0:w2.heap[w.heap.size]? =some (.cells #[.int .i64 a,.int .i64 b,.int .i64 c,.int .i64 m,.slice base n cap] 120):=hE2.get (by simp only[Z3,Z2];rw[if_neg (by omega),if_neg (by omega),if_neg (by omega),if_pos trivial])
  have g1:w2.heap[w.heap.size+1]? =some (.cells (Zs out) 138):=hE2.get (by simp only[Z3,Z2];rw[if_neg (by omega),if_neg (by omega),if_pos trivial];rfl)
  have g2:w2.heap[w.heap.size+1+1]? =some (.map #[] 0):=hE2.get (by simp only[Z3,Z2];rw[if_neg (by omega),if_pos trivial])
  have g3:w2.heap[w.heap.size+1+1+1]? =some (.cells #[.map (some (w.heap.size+1+1))] 182):=hE2.get (by simp only[Z3,Z2];rw[if_pos trivial])
  have hB2:w.heap.size+4≤w2.heap.size:=by have:=hE2.size;simp only[Z2] at this;omega
  replace hvs:=Z05 hvs (show w.heap.size≤_ by simp only[Z2];omega)
  replace hve:=hve.mono fun u s h=>OwnI.le h (show w.heap.size≤_ by simp only[Z2];omega)
  clear hE2
  obtain⟨ao,cp,rfl⟩:∃ao cp,v= .slice ao vs.length cp:=by
   rcases hvs.2 with⟨rfl,h⟩|⟨g,cp,_,rfl,_⟩
   ·exact⟨none,0,by rw[h]⟩
   ·exact⟨_,cp,rfl⟩)
 clear hsets hmm
 have hvl:=hve.length
 rw[hvl] at hvs⊢
 obtain⟨B,hB⟩:∃B,B=w.heap.size:=⟨_,rfl⟩
 rw[←hB] at hvs hve
 have hby0:ByAt B w2.heap.size n (w.heap.size+1+1) (T.take 0) w2:=by
  refine⟨fun _=>none,⟨#[],0,g2,by simp,by simp,by simp,by simp⟩,fun i hi=>Shr.nil _ _,fun i j _ _ _=> .inl rfl,fun i hi k hk=>by cases hk⟩
 go_loopw [15] (fun v15 wr=>∃j:Nat,j≤T.length∧v15= .int .i64 j∧Map1 (w.heap.size+1+1) w2 wr∧ByAt B w2.heap.size n (w.heap.size+1+1) (T.take j) wr) (fun v15 _=>T.length - (intOf v15).toNat)
 case atStart=>exact⟨0,Nat.zero_le _,rfl,Map1.refl _ _,hby0⟩
 case round=>
  obtain⟨j,hj,rfl,hX,hBy⟩:=hrel
  clear hby0
  by_cases hjl:j=T.length
  ·subst hjl
   rw[List.take_length] at hBy
   obtain⟨G,hmap,hrows,_,_⟩:=hBy
   have hEr:Ext w wr:=BelowX.ext hX hE3 (by omega) hE3.size
   have hwsz:=hX.size
   have g5:=(hX.block _ (Z5 g0) (by omega)).trans g0
   have g6:=(hX.block _ (Z5 g1) (by omega)).trans g1
   have g7:=(hX.block _ (Z5 g3) (by omega)).trans g3
   have z0:=Z0 g6 0;have z1:=Z0 g6 1;have z2:=Z0 g6 2;have z3:=Z0 g6 3;have z4:=Z0 g6 4;have z5:=Z0 g6 5;have z6:=Z0 g6 6;have z7:=Z0 g6 7;have z8:=Z0 g6 8
   simp only[Zs,List.getElem?_toArray,List.getElem?_cons_zero,List.getElem?_cons_succ] at z0 z1 z2 z3 z4 z5 z6 z7 z8
   have hrec:∀W,W=(((wr.alloc (.map #[] 0)).alloc (.cells #[.map (some wr.heap.size)] 183)).alloc (.cells #[.func (.func 145) #[] #[.pointer (some ⟨w.heap.size,0,none⟩),.pointer (some ⟨wr.heap.size+1,0,none⟩),.pointer (some ⟨w.heap.size+1+1+1,0,none⟩),.pointer (some ⟨wr.heap.size+1+1,0,none⟩)]] 184))→
    Calls prog 145 #[.int .i64 0,.agg (Zs out),.pointer (some ⟨w.heap.size,0,none⟩),.pointer (some ⟨wr.heap.size+1,0,none⟩),.pointer (some ⟨w.heap.size+1+1+1,0,none⟩),.pointer (some ⟨wr.heap.size+1+1,0,none⟩)] W fun e W'=>∃v,e= .returned v∧Shr B W' v (Zk T n 0 out)∧Ext w W':=by
    intro W hW
    have hEW:Ext wr W:=by rw[hW];exact(((Ext.rfl' wr).alloc _).alloc _).alloc _
    have k0:W.heap[wr.heap.size]? =some (.map #[] 0):=by rw[hW];simp only[Z3,Z2];rw[if_neg (by omega),if_neg (by omega),if_pos trivial]
    have k1:W.heap[wr.heap.size+1]? =some (.cells #[.map (some wr.heap.size)] 183):=by rw[hW];simp only[Z3,Z2];rw[if_neg (by omega),if_pos trivial]
    have k2:W.heap[wr.heap.size+1+1]? =some (.cells #[.func (.func 145) #[] #[.pointer (some ⟨w.heap.size,0,none⟩),.pointer (some ⟨wr.heap.size+1,0,none⟩),.pointer (some ⟨w.heap.size+1+1+1,0,none⟩),.pointer (some ⟨wr.heap.size+1+1,0,none⟩)]] 184):=by rw[hW];simp only[Z3,Z2];rw[if_pos trivial]
    have hkm:MapAt prog 138 W wr.heap.size (fun _=>none):=⟨#[],0,k0,by simp,by simp,by simp,by simp⟩
    have hyl:=hmap.lt
    refine(Z8B a b c m base n cap T B w.heap.size (wr.heap.size+1) (w.heap.size+1+1+1) (wr.heap.size+1+1) wr.heap.size (w.heap.size+1+1) hn hTe (by omega) (fun l hl=>⟨(hT1 l hl).2.1,by rw[(hT1 l hl).2.2];omega⟩) n 0 out W (fun _=>none) (by omega)
     ⟨hEW.get g5,k1,hEW.get g7,k2,⟨G,hmap.keep (hEW.old _ hyl),fun i hi=>(hrows i hi).ext hEW⟩,⟨by omega,by omega,by omega,by omega,by omega⟩,by have:=hEW.size;omega⟩ ⟨hkm,fun key v hv=>by cases hv⟩).mono ?_
    rintro e W' ⟨v,G',rfl,hS',hK',hM'⟩
    exact⟨v,rfl,hS',BelowX.ext hM' (hEr.trans hEW) hEr.size (hEr.trans hEW).size⟩
   simp only[Zs] at hrec
   have hmm:= @run_makeMap prog
   clear hX hrows hmap
   have hl6:=Z5 g6
   have hzz:∀(o1 o2 o3:Obj)(k:Nat),(((wr.alloc o1).alloc o2).alloc o3).cell? ⟨w.heap.size+1,k,none⟩=wr.cell? ⟨w.heap.size+1,k,none⟩:=fun o1 o2 o3 k=>((((Ext.rfl' wr).alloc o1).alloc o2).alloc o3).cell hl6
   go_wp2_with (
    go_at_call 145;refine(hrec _ rfl).mono ?_;rintro e w5 ⟨v,rfl,hS5,hE5⟩)
   go_ret
   exact⟨v,rfl,by rw[←hB];exact hS5,hE5⟩
  ·have hjlt:j<T.length:=by omega
   have hjv:j<vs.length:=by omega
   obtain⟨l,hl⟩:∃l,T[j]? =some l:=⟨_,List.getElem?_eq_getElem hjlt⟩
   obtain⟨u,hu,hou⟩:=hve.get j l hl
   obtain⟨hasc,hmem,hll⟩:=hT1 l (List.mem_of_getElem? hl)
   obtain⟨gr,cr,her,hgrB,hgrl⟩:=hvs.form (by omega)
   obtain⟨rfl,rfl⟩:ao=some ⟨gr,0,none⟩∧cp=cr:=by simpa using her
   have hcu:=hvs.cells (g:=gr) rfl j u hu
   rw[Z0c] at hcu
   obtain⟨gl,cl,rfl,hglB,hgll⟩:=hou.form (by omega)
   obtain⟨p,hp⟩:∃p,l[0]? =some p:=⟨_,List.getElem?_eq_getElem (by omega)⟩
   have hpn:=hmem p (List.mem_of_getElem? hp)
   obtain⟨i,rfl⟩:=Int.eq_ofNat_of_zero_le hpn.1
   have hcl:=hou.cells (g:=gl) rfl 0 (.int .i64 i) (by rw[List.getElem?_map,hp];rfl)
   rw[Z0c] at hcl
   have hin:i<n:=by omega
   obtain⟨es2,ck2,hes2⟩:∃es ck,w2.heap[w.heap.size+1+1]? =some (.map es ck):=⟨_,_,g2⟩
   have hgrk:gr≠w.heap.size+1+1:=by
    rintro rfl
    obtain⟨_,⟨h,_⟩|⟨_,_,_,h,_,hc,_⟩⟩:=hvs
    ·cases h
    ·cases h;rw[g2] at hc;cases hc
   have hglk:gl≠w.heap.size+1+1:=by
    rintro rfl
    obtain⟨_,⟨h,_⟩|⟨_,_,_,h,_,hc,_⟩⟩:=hou
    ·cases h
    ·cases h;rw[g2] at hc;cases hc
   have hsame:∀(q:Addr),q.block<w2.heap.size→q.block≠w.heap.size+1+1→wr.cell? q=w2.cell? q:=fun q h1 h2=>by simp only[World.cell?,hX.block _ h1 h2]
   replace hcu:=(hsame ⟨gr,j,none⟩ hgrl hgrk).trans hcu
   have hlc:wr.drew.cell? ⟨gl,0,none⟩=some (.int .i64 i):=(hsame ⟨gl,0,none⟩ hgll hglk).trans hcl
   have hyc:wr.drew.cell? ⟨w.heap.size+1+1+1,0,none⟩=some (.map (some (w.heap.size+1+1))):=(hsame ⟨w.heap.size+1+1+1,0,none⟩ (Z5 g3) (by simp)).trans (by rw[Z0 g3];rfl)
   obtain⟨G,hmap,hrows,hap,hnew⟩:=hBy
   have hrow:=hrows i hin
   obtain⟨ra,rc,hra⟩:=hrow.form
   obtain⟨hr0,rvs,hrvs,hre⟩:=hrow
   rw[hra] at hrvs hr0
   have hrl:=hre.length
   have hrvs2:wr.drew.ownsRow B 27 1 (.slice ra (byL (T.take j) i).length rc) rvs.length rvs:=Z00 hrvs ((Ext.rfl' wr).drew)
   have hrvs3:wr.drew.ownsRow B 27 1 (.slice ra (byL (T.take j) i).length rc) (byL (T.take j) i).length rvs:=by have h:=hrvs2;rw[hrl] at h;exact h
   have hlook:∀W,W=wr.drew∨W=wr.drew.alloc (.cells #[.slice (some ⟨gl,0,none⟩) l.length cl] 27)→(Instr.lookup 182 (.map (some (w.heap.size+1+1))) (.int .i64 i) false).run prog W= .ok (.slice ra (byL (T.take j) i).length rc) W:=by
    intro W hW
    obtain⟨kl,hkl⟩:=Z3M i (by omega)
    have hmW:MapAt prog 3 W (w.heap.size+1+1) G:=by
     rcases hW with rfl|rfl
     ·exact hmap.keep rfl
     ·exact hmap.keep (((Ext.rfl' wr).drew.alloc _).old _ hmap.lt)
    have:=hmW.lookup K3 u182 (Zap W) hkl false
    rw[if_neg (by decide)] at this
    rw[this]
    exact congrArg (fun v=>Result.ok v W) hra
   have hBsz:B≤(wr.drew.alloc (.cells #[.slice (some ⟨gl,0,none⟩) l.length cl] 27)).heap.size:=by simp only[Z2];have:=hX.size;have:wr.drew.heap.size=wr.heap.size:=rfl;omega
   have hrlen:(byL (T.take j) i).length≤100000:=Nat.le_trans (List.length_filter_le _ _) (by rw[List.length_take];omega)
   obtain⟨A,hA⟩:∃A:Value→World→Prop,A=fun v w3=>w3.ownsRow B 27 1 v (rvs.length+1) (rvs++[.slice (some ⟨gl,0,none⟩) l.length cl])∧(wr.drew.alloc (.cells #[.slice (some ⟨gl,0,none⟩) l.length cl] 27)).grownBy w3 (Value.ownBlock (.slice ra (byL (T.take j) i).length rc))∧((v.ownBlock=Value.ownBlock (.slice ra (byL (T.take j) i).length rc))∨∀k,v.ownBlock=some k→(wr.drew.alloc (.cells #[.slice (some ⟨gl,0,none⟩) l.length cl] 27)).heap.size≤k):=⟨_,rfl⟩
   have hA1:∀v w3,A v w3→w3.ownsRow B 27 1 v (rvs.length+1) (rvs++[.slice (some ⟨gl,0,none⟩) l.length cl])∧(wr.drew.alloc (.cells #[.slice (some ⟨gl,0,none⟩) l.length cl] 27)).grownBy w3 (Value.ownBlock (.slice ra (byL (T.take j) i).length rc))∧((v.ownBlock=Value.ownBlock (.slice ra (byL (T.take j) i).length rc))∨∀k,v.ownBlock=some k→(wr.drew.alloc (.cells #[.slice (some ⟨gl,0,none⟩) l.length cl] 27)).heap.size≤k):=fun v w3 h=>by rw[hA] at h;exact h
   have hA2:∀v w3,w3.ownsRow B 27 1 v (rvs.length+1) (rvs++[.slice (some ⟨gl,0,none⟩) l.length cl])∧(wr.drew.alloc (.cells #[.slice (some ⟨gl,0,none⟩) l.length cl] 27)).grownBy w3 (Value.ownBlock (.slice ra (byL (T.take j) i).length rc))∧((v.ownBlock=Value.ownBlock (.slice ra (byL (T.take j) i).length rc))∨∀k,v.ownBlock=some k→(wr.drew.alloc (.cells #[.slice (some ⟨gl,0,none⟩) l.length cl] 27)).heap.size≤k)→A v w3:=fun v w3 h=>by rw[hA];exact h
   clear hA
   have hAold:∀v w3,A v w3→∀k,k<w2.heap.size→w3.heap[k]? =wr.heap[k]? :=by
    intro v w3 h k hk
    obtain⟨_,hg,_⟩:=hA1 v w3 h
    rw[hg.block k (by simp only[Z2];have:=hX.size;have:wr.drew.heap.size=wr.heap.size:=rfl;omega) (fun e=>by have:=hnew i hin k (by rw[hra];exact e.symm);omega)]
    rw[Z3,if_neg (by have:=hX.size;have:wr.drew.heap.size=wr.heap.size:=rfl;omega)]
    rfl
   have hstep:∀v w3,A v w3→∃o,(Instr.mapUpdate 182 (.map (some (w.heap.size+1+1))) (.int .i64 i) v).run prog w3= .ok () (setBlock w3 (w.heap.size+1+1) o)∧ByAt B w2.heap.size n (w.heap.size+1+1) (T.take (j+1)) (setBlock w3 (w.heap.size+1+1) o):=by
    intro v w3 h
    obtain⟨h1,h2,h3⟩:=hA1 v w3 h
    rw[Z0G hl]
    have hEa:Ext wr (wr.drew.alloc (.cells #[.slice (some ⟨gl,0,none⟩) l.length cl] 27)):=(Ext.rfl' wr).drew.alloc _
    exact ByAt.step (W:=wr.drew.alloc (.cells #[.slice (some ⟨gl,0,none⟩) l.length cl] 27)) (G:=G) (hmap.keep (hEa.old _ hmap.lt)) (fun q hq=>(hrows q hq).ext hEa) hap hnew (Nat.le_trans hX.size hEa.size) hin (by omega) (by rw[List.head?_eq_getElem?];exact hp)
     (Z00 (Z2R hou hX g2) hEa) (by rw[hra];exact Z00 hrvs hEa) (hre.mono fun u s h=>Z00 h hEa) h1 (by rw[hra];exact h2) (by rw[hra];exact h3)
   obtain⟨Z,hZ⟩:∃Z:World→Prop,Z=fun w4=>∃v w3 o,A v w3∧w4=setBlock w3 (w.heap.size+1+1) o∧ByAt B w2.heap.size n (w.heap.size+1+1) (T.take (j+1)) (setBlock w3 (w.heap.size+1+1) o):=⟨_,rfl⟩
   have hcA:∀(q:Addr),q.block<w2.heap.size→q.block≠w.heap.size+1+1→∀v w3,A v w3→w3.cell? q=wr.cell? q:=fun q h1 h2 v w3 h=>by simp only[World.cell?,hAold v w3 h _ h1]
   have hcZ:∀(q:Addr),q.block<w2.heap.size→q.block≠w.heap.size+1+1→∀w4,Z w4→w4.cell? q=wr.cell? q:=by
    intro q h1 h2 w4 h
    rw[hZ] at h
    obtain⟨v,w3,o,h3,rfl,_⟩:=h
    rw[Z4M h2,hcA q h1 h2 v w3 h3]
   have hlA:=fun v w3 h=>(hcA ⟨gl,0,none⟩ hgll hglk v w3 h).trans hlc
   have hyA:=fun v w3 h=>(hcA ⟨w.heap.size+1+1+1,0,none⟩ (Z5 g3) (by simp) v w3 h).trans hyc
   have hlZ:=fun w4 h=>(hcZ ⟨gl,0,none⟩ hgll hglk w4 h).trans hlc
   have hyZ:=fun w4 h=>(hcZ ⟨w.heap.size+1+1+1,0,none⟩ (Z5 g3) (by simp) w4 h).trans hyc
   have hl0:¬((l.length:Int)≤0):=by omega
   have hlne:¬l=[]:=by rintro rfl;simp at hl0
   clear hll
   clear hsame hcA hcZ
   go_wp2_with fail
   refine Z03 (by kernel_rfl) (by kernel_rfl) (RI 37 [some 19,some 20,some 21,some 22,some 23,some 24,some 25,some 26,some 27,some 28,some 29,some 30,none] [some (.map (some (w.heap.size+1+1))),some (.slice (some ⟨gl,0,none⟩) l.length cl),some (.pointer (some ⟨gl,0,none⟩)),some (.int .i64 i),some (.map (some (w.heap.size+1+1))),some (.slice (some ⟨gl,0,none⟩) l.length cl),some (.pointer (some ⟨gl,0,none⟩)),some (.int .i64 i),some (.slice ra (byL (T.take j) i).length rc),some (.slice (some ⟨gl,0,none⟩) l.length cl),none,none,none] _ (R5 wr.drew #[.slice (some ⟨gl,0,none⟩) l.length cl] A Z)) (RI.start rfl rfl R5.start) (AllIx.arr ⟨?_,?_,?_,?_,?_,?_,?_,?_,?_,?_,?_,?_,?_,trivial⟩) ?_
   ·intro ℓ aq W hl hp h
    have e5:aq.tmps.getD 5 undef= .pointer (some ⟨w.heap.size+1+1+1,0,none⟩):=h.at_out 5 rfl
    have c0:=h.mem.cell hyc hyA hyZ
    exact h.dt (r:=by simp[go_sem,execOp,Act.eval,e5,c0]) (m:=h.mem.keep rfl rfl)
   ·intro ℓ aq W hl hp h
    have e7:aq.tmps.getD 7 undef= .slice (some ⟨gl,0,none⟩) l.length cl:=h.at_out 7 rfl
    exact h.dt (r:=by simp[go_sem,execOp,Act.eval,e7]) (m:=h.mem.keep rfl rfl)
   ·intro ℓ aq W hl hp h
    have e20:=h.v hp 1 20
    exact h.dt (r:=by simp[go_sem,execOp,Act.eval,e20,hl0,hlne]) (m:=h.mem.keep rfl rfl)
   ·intro ℓ aq W hl hp h
    have e21:=h.v hp 2 21
    have c0:=h.mem.cell hlc hlA hlZ
    exact h.dt (r:=by simp[go_sem,execOp,Act.eval,e21,c0]) (m:=h.mem.keep rfl rfl)
   ·intro ℓ aq W hl hp h
    have e5:aq.tmps.getD 5 undef= .pointer (some ⟨w.heap.size+1+1+1,0,none⟩):=h.at_out 5 rfl
    have c0:=h.mem.cell hyc hyA hyZ
    exact h.dt (r:=by simp[go_sem,execOp,Act.eval,e5,c0]) (m:=h.mem.keep rfl rfl)
   ·intro ℓ aq W hl hp h
    have e7:aq.tmps.getD 7 undef= .slice (some ⟨gl,0,none⟩) l.length cl:=h.at_out 7 rfl
    exact h.dt (r:=by simp[go_sem,execOp,Act.eval,e7]) (m:=h.mem.keep rfl rfl)
   ·intro ℓ aq W hl hp h
    have e24:=h.v hp 5 24
    exact h.dt (r:=by simp[go_sem,execOp,Act.eval,e24,hl0,hlne]) (m:=h.mem.keep rfl rfl)
   ·intro ℓ aq W hl hp h
    have e25:=h.v hp 6 25
    have c0:=h.mem.cell hlc hlA hlZ
    exact h.dt (r:=by simp[go_sem,execOp,Act.eval,e25,c0]) (m:=h.mem.keep rfl rfl)
   ·intro ℓ aq W hl hp h
    have e23:=h.v hp 4 23
    have e26:=h.v hp 7 26
    have c0:(Instr.lookup 182 (.map (some (w.heap.size+1+1))) (.int .i64 i) false).run prog W= .ok (.slice ra (byL (T.take j) i).length rc) W:=hlook W (h.mem.ahead hl)
    exact h.dt (r:=by simp[go_sem,execOp,Act.eval,e23,e26,c0]) (m:=h.mem.keep rfl rfl)
   ·intro ℓ aq W hl hp h
    have e7:aq.tmps.getD 7 undef= .slice (some ⟨gl,0,none⟩) l.length cl:=h.at_out 7 rfl
    exact h.dt (r:=by simp[go_sem,execOp,Act.eval,e7]) (m:=h.mem.keep rfl rfl)
   ·intro ℓ aq W hl hp h
    have e28:=h.v hp 9 28
    have f28:=e28
    simp only[Array.getD_eq_getD_getElem?] at f28
    exact h.det rfl rfl rfl (by decide) rfl (by decide) (fun v' hv=>by simp at hv) (by simp[go_sem,execOp,Act.eval,e28,f28]) (h.mem.make hl)
   ·intro ℓ aq W hl hp h
    have e27:=h.v hp 8 27
    obtain⟨hw1,hx1⟩:=h.mem.s1 (hp 10 (by decide)) hl
    have e29:aq.tmps.getD 29 undef= .slice (some ⟨wr.drew.heap.size,0,none⟩) 1 1:=hx1
    refine Z1X rfl (Z4 rfl) (Z3V _ _ 57 rfl B 27 Tryz.t27 (.slice none 0 0) 1 24 u57 i27 t27z t27s t27b rfl (by omega) (.slice ra (byL (T.take j) i).length rc) (byL (T.take j) i).length rvs (by simp[Act.eval,e27]) (by rw[hw1];exact hrvs3.alloc _) ⟨wr.drew.heap.size,0,none⟩ 1 1 [.slice (some ⟨gl,0,none⟩) l.length cl] (by simp[Act.eval,e29]) rfl (by rw[hw1];exact Z1N _ _ _) (by intro u hu;rw[List.mem_singleton.1 hu];rfl) (by simp[maxLen];omega) (by omega) (by rw[hw1];exact hBsz) ?_)
    intro v' w3 hown3 hgr3 hwh3
    rw[hw1] at hgr3 hwh3
    exact h.put (by decide) rfl (by decide) (fun v' hv=>by simp at hv) (h.mem.app (hp 10 (by decide)) (hp 8 (by decide)) hl (hA2 _ _ ⟨by rw[hrl];exact hown3,hgr3,hwh3⟩))
   ·intro ℓ aq W hl hp h
    have e19:=h.v hp 0 19
    have e22:=h.v hp 3 22
    have h11:=hp 11 (by decide)
    obtain⟨v30,e30⟩:∃v,aq.tmps.getD 30 undef=v:=⟨_,rfl⟩
    have hA:A v30 W:=e30▸h.mem.s2 h11 hl
    obtain⟨o,hup,hby⟩:=hstep _ _ hA
    exact h.eff (w':=setBlock W (w.heap.size+1+1) o) rfl rfl rfl rfl (by simp[go_sem,execOp,Act.eval,e19,e22,e30,hup]) (h.mem.put h11 hl (by rw[hZ];exact⟨_,_,o,hA,rfl,hby⟩))
   ·intro ℓ aq W hall h
    have h9:=h.mem.s3 (hall 12 (by decide))
    rw[hZ] at h9
    obtain⟨v9,w9,o9,hA9,hW9,hby9⟩:=h9
    have ea:=Z1z h.defers h.size
    simp only[List.range,List.range.loop,List.map] at ea
    rw[ea]
    clear ea
    rw[(show aq.tmps.getD 0 undef= .agg #[.int .i64 a,.int .i64 b,.int .i64 c,.int .i64 m,.slice base n cap] from h.at_out 0 rfl),(show aq.tmps.getD 1 undef= .agg #[.bool (out 0),.bool (out 1),.bool (out 2),.bool (out 3),.bool (out 4),.bool (out 5),.bool (out 6),.bool (out 7),.bool (out 8)] from h.at_out 1 rfl),(show aq.tmps.getD 2 undef= .pointer (some ⟨w.heap.size,0,none⟩) from h.at_out 2 rfl),(show aq.tmps.getD 3 undef= .pointer (some ⟨w.heap.size+1,0,none⟩) from h.at_out 3 rfl),(show aq.tmps.getD 4 undef= .slice none 0 0 from h.at_out 4 rfl),(show aq.tmps.getD 5 undef= .pointer (some ⟨w.heap.size+1+1+1,0,none⟩) from h.at_out 5 rfl),(show aq.tmps.getD 6 undef=undef from h.at_out 6 rfl),(show aq.tmps.getD 7 undef= .slice (some ⟨gl,0,none⟩) l.length cl from h.at_out 7 rfl),(show aq.tmps.getD 8 undef=undef from h.at_out 8 rfl),(show aq.tmps.getD 9 undef=undef from h.at_out 9 rfl),(show aq.tmps.getD 10 undef= .map (some (w.heap.size+1+1)) from h.at_out 10 rfl),(show aq.tmps.getD 11 undef= .agg #[.int .i64 a,.int .i64 b,.int .i64 c,.int .i64 m,.slice base n cap] from h.at_out 11 rfl),(show aq.tmps.getD 12 undef= .agg #[.bool (out 0),.bool (out 1),.bool (out 2),.bool (out 3),.bool (out 4),.bool (out 5),.bool (out 6),.bool (out 7),.bool (out 8)] from h.at_out 12 rfl),(show aq.tmps.getD 13 undef= .slice (some ⟨gr,0,none⟩) T.length cp from h.at_out 13 rfl),(show aq.tmps.getD 14 undef= .int .i64 T.length from h.at_out 14 rfl),(show aq.tmps.getD 15 undef= .int .i64 j from h.at_out 15 rfl),(show aq.tmps.getD 16 undef= .bool true from h.at_out 16 rfl),(show aq.tmps.getD 17 undef= .pointer (some ⟨gr,j,none⟩) from h.at_out 17 rfl),(show aq.tmps.getD 18 undef= .slice (some ⟨gl,0,none⟩) l.length cl from h.at_out 18 rfl),(show aq.tmps.getD 31 undef=u31 from h.at_out 31 rfl),(show aq.tmps.getD 32 undef=undef from h.at_out 32 rfl),(show aq.tmps.getD 33 undef=undef from h.at_out 33 rfl),(show aq.tmps.getD 34 undef=undef from h.at_out 34 rfl),(show aq.tmps.getD 35 undef=undef from h.at_out 35 rfl),(show aq.tmps.getD 36 undef=undef from h.at_out 36 rfl)]
    iterate 12 generalize aq.tmps.getD _ undef=ux
    clear h hall
    have hmap9:Map1 (w.heap.size+1+1) w2 W:=by
     obtain⟨_,k1,_⟩:=hA1 _ _ hA9
     rw[hW9]
     have hs9:=k1.size
     simp only[Z2] at hs9
     have hdr:wr.drew.heap.size=wr.heap.size:=rfl
     exact⟨k1.os.trans hX.os,k1.tape.trans hX.tape,k1.output.trans hX.output,by rw[Z2s];have:=hX.size;omega,fun k hk hne=>(Z0O hne _).trans ((hAold _ _ hA9 k hk).trans (hX.block k hk hne))⟩
    rw[←hW9] at hby9
    clear hW9
    go_wp2
    exact⟨⟨j+1,by omega,by push_cast;rfl,hmap9,hby9⟩,by simp[intOf];omega⟩
end Go.Proofs.Tryq
