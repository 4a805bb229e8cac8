import Derived.Test.YtedkbdkbbnemlaaGreatDoorNk23
import Derived.Lib.Hide
set_option linter.all false
namespace Go.Proofs.Tryq
set_option maxRecDepth 100000
set_option maxHeartbeats 4000000
open Go Go.Nk Go.RowKit
theorem Z7I{w:World}{b:Nat}{x:Int}(h:w.heap[b]? =some (.cells #[.int .i64 x] 3)):RawI w (some ⟨b,0,none⟩) [x]:=by
 intro i y hy
 match i,hy with
 |0,hy=>
  obtain rfl:=Option.some.inj hy
  exact⟨b,0,rfl,Z5 h,by rw[Z0 h];rfl⟩
def Z1Y(a b c m:Int)(L:List Sf)(k:Int):Int:=if Zo a b c m L [k]=0 then(Zk (Zt a b c L L.length (fun j=>j==k.toNat) m.toNat [] 0) L.length 0 (fun j=>j==k.toNat)).length else 0
theorem Z6S(a b c m:Int)(base:Option Addr)(n cap:Nat)(L:List Sf)(k:Int)(w:World)(hlen:L.length=n)(hn:n≤20)(hM:Meas w)(hS:RawA w base L):
 Calls prog 59 #[.agg #[.int .i64 a,.int .i64 b,.int .i64 c,.int .i64 m,.slice base n cap],.int .i64 k] w fun e w'=>e= .returned (.tuple #[.int .i64 (Z1Y a b c m L k),.int .i64 (Zo a b c m L [k])])∧Ext w w':=by
 have ho:=fun W hW ad hl=>Z3c a b c m base n cap L ad 1 1 [k] W hlen hn rfl (by omega) (hM.ext hW) (hS.ext hW) hl
 by_cases h:Zo a b c m L [k]=0
 ·obtain⟨hG,hin,hn9,hm⟩:=Z1n h
  have hk:=hin k (by simp)
  obtain⟨q,rfl⟩:=Int.eq_ofNat_of_zero_le hk.1
  have hq:q<9:=by omega
  have hq0:(0:Int)≤(q:Int):=by omega
  have hq9:(q:Int)<9:=by omega
  have hF:Z1Y a b c m L q=(Zk (Zt a b c L n (fun j=>j==q) m.toNat [] 0) n 0 (fun j=>j==q)).length:=by rw[Z1Y,if_pos h,hlen,Int.toNat_natCast]
  have hsh:=fun W hW=>Z65 a b c m base n cap L (fun j=>j==q) W hG hlen (by omega) hm (hM.ext hW) (hS.ext hW)
  rw[h] at ho⊢
  rw[hF]
  generalize Zk (Zt a b c L n (fun j=>j==q) m.toNat [] 0) n 0 (fun j=>j==q)=Bs at hsh⊢
  simp only[Zs] at hsh
  clear hF h hk hin
  have hqs:q=3∨q=0∨q=1∨q=2∨q=4∨q=5∨q=6∨q=7∨q=8:=by omega
  clear hq hq0 hq9
  rcases hqs with rfl|rfl|rfl|rfl|rfl|rfl|rfl|rfl|rfl
  all_goals
   go_enter func59,ntmps59
   go_wp2_with (first
    |(go_at_call 86;refine(ho _ (by(repeat (with_reducible first|assumption|exact Ext.rfl' _|apply Ext.alloc|apply Ext.drew))) _ (Z7I (by simp only[Z3,Z2];exact if_pos trivial))).mono ?_;rintro e w2 ⟨rfl,hE2⟩
      have hE3:Ext w w2:=Ext.trans (by(repeat (with_reducible first|assumption|exact Ext.rfl' _|apply Ext.alloc|apply Ext.drew))) hE2)
    |(go_at_call 100;refine(hsh _ (by(repeat (with_reducible first|assumption|exact Ext.rfl' _|apply Ext.alloc|apply Ext.drew|exact Ext.setCell (by(repeat (with_reducible first|assumption|exact Ext.rfl' _|apply Ext.alloc|apply Ext.drew))) _ _ (by simp only[Z2];have:=hE3.size;omega))))).mono ?_;rintro e w3 ⟨v,rfl,hSv,hE4⟩
      obtain⟨ao,cp,rfl⟩:=hSv.form))
   go_ret2
   exact⟨rfl,((hE3.alloc _).alloc _).trans hE4⟩
 ·have hF:Z1Y a b c m L k=0:=by rw[Z1Y,if_neg h]
  have hne:(Zo a b c m L [k] !=0)=true:=by simpa using h
  rw[hF]
  generalize Zo a b c m L [k]=f at ho hne⊢
  go_enter func59,ntmps59
  go_wp2_with (
   go_at_call 86;refine(ho _ (by(repeat (with_reducible first|assumption|exact Ext.rfl' _|apply Ext.alloc|apply Ext.drew))) _ (Z7I (by simp only[Z3,Z2];exact if_pos trivial))).mono ?_;rintro e w2 ⟨rfl,hE2⟩
   have hE3:Ext w w2:=Ext.trans (by(repeat (with_reducible first|assumption|exact Ext.rfl' _|apply Ext.alloc|apply Ext.drew))) hE2)
  go_ret2
  exact⟨rfl,hE3.alloc _⟩
end Go.Proofs.Tryq
namespace Go.Proofs.Tryq
open Go Go.Nk Go.RowKit
def Z66(a b c m:Int)(L:List Sf):List (List Int):=if Zo a b c m L []=0 then Zk (Zt a b c L L.length (fun _=>false) m.toNat [] 0) L.length 0 (fun _=>false) else[]
def inL(S:List (List Int))(i:Nat):Bool:=S.any fun l=>l.contains (i:Int)
def Z32(n:Nat)(S:List (List Int)):List Int:=((List.range n).filter fun i=> !inL S i).map fun(i:Nat)=>(i:Int)
def Z6T(a b c m:Int)(L:List Sf):List Int:=if Zo a b c m L []=0 then Z32 L.length (Z66 a b c m L) else[]
theorem ZbX(S:List (List Int))(l:List Int)(i:Nat):inL (S++[l]) i=(inL S i||l.contains (i:Int)):=by simp[inL,List.any_append]
theorem Z8C(S:List (List Int))(i:Nat):Z32 (i+1) S=if inL S i=true then Z32 i S else Z32 i S++[(i:Int)]:=by
 rw[Z32,List.range_succ,List.filter_append,List.map_append]
 cases h:inL S i<;>simp[Z32,h]
theorem Zaq(n:Nat)(S:List (List Int)):(Z32 n S).length≤n:=by
 have:=List.length_filter_le (fun i=> !inL S i) (List.range n)
 simpa[Z32] using this
theorem Z3O{T:List (List Int)}:∀(d i:Nat)(u:Nat→Bool),∀l∈Zk T d i u,l∈T
 |0,_,_,l,h=>by cases h
 |d+1,i,u,l,h=>by
  have hb:∀(P:List Int→Prop)(a b:List (List Int)),(∀l∈a,P l)→(∀l∈b,P l)→∀l∈Z0q a b,P l:=fun P a b h h'=>by unfold Z0q;split<;>assumption
  have hf:∀(B mo:List (List Int)),(∀l∈B,l∈T)→(∀l∈mo,l∈T)→∀l∈B.foldl (ZL u (Zk T d (i+1))) mo,l∈T:=by
   intro B
   induction B with
   |nil=>exact fun mo _ h=>h
   |cons x B ih=>
    intro mo hB hm
    rw[List.foldl_cons]
    refine ih _ (fun l hl=>hB l (List.mem_cons_of_mem _ hl)) ?_
    unfold ZL
    split
    ·exact hm
    ·refine hb _ _ _ hm fun l hl=> ?_
     rcases List.mem_cons.1 hl with rfl|hl
     ·exact hB _ List.mem_cons_self
     ·exact Z3O d (i+1) _ l hl
  rw[Zk] at h
  exact hb _ _ _ (hf _ _ (fun l hl=>(List.mem_filter.1 hl).1) (fun l hl=>by cases hl)) (fun l hl=>Z3O d (i+1) u l hl) l h
theorem Zdw{B:Nat}{w:World}{v:Value}{ls:List (List Int)}(h:Shr B w v ls){j:Nat}{l:List Int}(hl:ls[j]? =some l)(h0:l≠[]):
 ∃gr cr gl cl,v= .slice (some ⟨gr,0,none⟩) ls.length cr∧B≤gr∧gr<w.heap.size∧w.cell? ⟨gr,j,none⟩=some (.slice (some ⟨gl,0,none⟩) l.length cl)∧OwnI B w (.slice (some ⟨gl,0,none⟩) l.length cl) l∧B≤gl∧gl<w.heap.size∧l.length≤cl:=by
 obtain⟨_,vs,h1,h2⟩:=h
 have hlen:=h2.length
 have hj:j<ls.length:=(List.getElem?_eq_some_iff.1 hl).1
 obtain⟨gr,cr,rfl,hb,hg⟩:=h1.form (by omega)
 obtain⟨u,hu,hou⟩:=h2.get j l hl
 have hc:=h1.cells (g:=gr) rfl j u hu
 rw[Z0c] at hc
 have hlp:0<l.length:=List.length_pos_iff.2 h0
 obtain⟨_,⟨h,_⟩|⟨gl,cl,cur,rfl,hb2,hg2,hcap,_⟩⟩:=hou
 ·subst h
  rename_i hx hz
  simp at hz
  exact absurd hz h0
 ·rename_i hx hq
  exact⟨gr,cr,gl,cl,by rw[hlen],hb,hg,hc,⟨hx,.inr ⟨gl,cl,cur,rfl,hb2,hg2,hcap,hq⟩⟩,hb2,Z5 hg2,hcap⟩
end Go.Proofs.Tryq
namespace Go.Proofs.Tryq
set_option maxRecDepth 100000
set_option maxHeartbeats 4000000
open Go Go.Nk Go.RowKit
theorem Shr.belowX{B ib:Nat}{w w':World}{v:Value}{ls:List (List Int)}(h:Shr B w v ls)(hX:BelowX w.heap.size ib w w')(hib:ib<B):Shr B w' v ls:=by
 have key:∀{e:TypeId}{v:Value}{n:Nat}{xs:List Value},w.ownsRow B e 1 v n xs→w'.ownsRow B e 1 v n xs:=fun h=>Z3d h fun k hv=>hX.block k (h.lt k hv).2 (by have:=(h.lt k hv).1;omega)
 obtain⟨h0,vs,h1,h2⟩:=h
 exact⟨h0,vs,key h1,h2.mono fun u s h=>key h⟩
theorem Shr.le{B B':Nat}{w:World}{v:Value}{ls:List (List Int)}(h:Shr B w v ls)(hB:B'≤B):Shr B' w v ls:=by
 obtain⟨h0,vs,h1,h2⟩:=h
 exact⟨h0,vs,Z05 h1 hB,h2.mono fun u s h=>OwnI.le h hB⟩
theorem BelowX.of_ext{B ib:Nat}{a b c:World}(h:BelowX B ib a b)(hE:Ext b c)(hB:B≤b.heap.size):BelowX B ib a c:=
 h.trans (Z15 hE hB)
theorem ZbY(a b c m:Int)(base:Option Addr)(n cap:Nat)(L:List Sf)(w:World)(hlen:L.length=n)(hn:n≤20)(hM:Meas w)(hS:RawA w base L):
 Calls prog 37 #[.agg #[.int .i64 a,.int .i64 b,.int .i64 c,.int .i64 m,.slice base n cap]] w fun e w'=>∃v1 v2,e= .returned (.tuple #[v1,v2,.int .i64 (Zo a b c m L [])])∧Shr w.heap.size w' v1 (Z66 a b c m L)∧OwnI w.heap.size w' v2 (Z6T a b c m L)∧Ext w w':=by
 have ho:=fun W hW=>Z3c a b c m base n cap L none 0 0 [] W hlen hn rfl (by omega) (hM.ext hW) (hS.ext hW) (fun i x hx=>by simp at hx)
 by_cases h:Zo a b c m L []=0
 ·obtain⟨hG,_,hn9,hm⟩:=Z1n h
  have hF1:Z66 a b c m L=Zk (Zt a b c L n (fun _=>false) m.toNat [] 0) n 0 (fun _=>false):=by rw[Z66,if_pos h,hlen]
  have hF2:Z6T a b c m L=Z32 n (Z66 a b c m L):=by rw[Z6T,if_pos h,hlen]
  have hsh:=fun W hW=>Z65 a b c m base n cap L (fun _=>false) W hG hlen (by omega) hm (hM.ext hW) (hS.ext hW)
  have hmem:∀l∈Zk (Zt a b c L n (fun _=>false) m.toNat [] 0) n 0 (fun _=>false),(∀p∈l,0≤p∧p<(n:Int))∧l.length=m.toNat:=fun l hl=>by
   have:=Z2A a b c L n (fun _=>false) m.toNat [] 0 l (Z3O _ _ _ l hl) (by simp) List.Pairwise.nil
   exact⟨this.2.1,by simpa using this.2.2⟩
  have hSl:=Z2C (Zt a b c L n (fun _=>false) m.toNat [] 0) n 0 (fun _=>false)
  rw[hF2,hF1]
  rw[h] at ho⊢
  generalize Zk (Zt a b c L n (fun _=>false) m.toNat [] 0) n 0 (fun _=>false)=S at hsh hmem hSl⊢
  simp only[Zs] at hsh
  clear hF1 hF2 h
  go_enter func37,ntmps37
  go_wp2_with (first
   |(go_at_call 86;refine(ho _ (by(repeat (with_reducible first|assumption|exact Ext.rfl' _|apply Ext.alloc|apply Ext.drew)))).mono ?_;rintro e w2 ⟨rfl,hE2⟩
     have hE3:Ext w w2:=Ext.trans (by(repeat (with_reducible first|assumption|exact Ext.rfl' _|apply Ext.alloc|apply Ext.drew))) hE2
     have hst2:w2.heap[w.heap.size]? =some (.cells #[.int .i64 a,.int .i64 b,.int .i64 c,.int .i64 m,.slice base n cap] 26):=hE2.get (by simp only[Z3,Z2];exact if_pos trivial))
   |(go_at_call 100;refine(hsh _ (by(repeat (with_reducible first|assumption|exact Ext.rfl' _|apply Ext.alloc|apply Ext.drew)))).mono ?_;rintro e w3 ⟨v,rfl,hSv,hE4⟩
     obtain⟨ao,cp,rfl⟩:=hSv.form
     have hE5:Ext w w3:=Ext.trans (by(repeat (with_reducible first|assumption|exact Ext.rfl' _|apply Ext.alloc|apply Ext.drew))) hE4
     have hst:=((Ext.rfl' w2).alloc _).alloc _ |>.trans hE4 |>.get hst2
     have hib:w3.heap[w2.heap.size+1]? =some (.cells (Zs (inL (S.take 0))) 138):=hE4.get (by simp only[Z3,Z2];exact if_pos trivial)
     simp only[Z2] at hSv))
  have hibl:=Z5 hib
  clear ho hsh hE2 hE4
  have hst0:=Z0 hst 4
  simp only[List.getElem?_toArray,List.getElem?_cons_zero,List.getElem?_cons_succ] at hst0
  go_loopw [2,24] (fun v2 v24 wr=>∃j,j≤S.length∧v24= .int .i64 j∧BelowX w3.heap.size (w2.heap.size+1) w3 wr∧wr.heap[w2.heap.size+1]? =some (.cells (Zs (inL (S.take j))) 138)∧Shr w3.heap.size wr v2 (S.take j)) (fun _ v24 _=>S.length - (intOf v24).toNat)
  case atStart=>exact⟨0,Nat.zero_le _,rfl,BelowX.refl _ _ _,hib,Shr.nil _ _⟩
  case round=>
   obtain⟨j,hj,rfl,hX,hi,hSm⟩:=hrel
   clear hib
   by_cases hjl:j=S.length
   ·subst hjl
    rw[List.take_length] at hi hSm
    have hs4:wr.cell? ⟨w.heap.size,4,none⟩=some (.slice base n cap):=by
     rw[←hst0];simp only[World.cell?,hX.block w.heap.size (Z5 hst) (by have:=hE3.size;omega)]
    have hbw:=hX.size
    go_wp2
    obtain⟨wo,rfl⟩:∃wo:World,wo=wr:=⟨_,rfl⟩
    go_loopw [3,46] (fun v3 v46 wz=>∃i:Nat,i≤n∧v46= .int .i64 i∧Ext wo wz∧OwnI wo.heap.size wz v3 (Z32 i S)) (fun _ v46 _=>n - (intOf v46).toNat)
    case atStart=>exact⟨0,Nat.zero_le _,rfl,Ext.rfl' _,World.ownsRow_nil _ _ _ _⟩
    case round=>
     obtain⟨i,hin,rfl,hEz,hown⟩:=hrel
     by_cases hi2:i=n
     ·subst hi2
      go_wp2
      refine bodyPost_ret (results_tmp3 rfl _ _ _) rfl ?_
      refine⟨_,_,rfl,(hSm.ext hEz).le (by have:=hE5.size;omega),hown.le (by have:=hE5.size;omega),?_⟩
      exact(BelowX.ext hX hE5 (by have:=hE3.size;omega) hE5.size).trans hEz
     ·have hlt:i<n:=by omega
      have hci:=Z0 (hEz.get hi) i
      rw[Z1u _ i (by omega)] at hci
      have hi0:(0:Int)≤(i:Int):=by omega
      have hi9:(i:Int)<9:=by omega
      have hiL:(i:Int)<(n:Int):=by omega
      have hlen2:=Zaq i S
      have hsz2:=hEz.size
      have hnx:=Z8C S i
      cases hb:inL S i with
      |true=>
       rw[hb] at hci hnx
       rw[if_pos rfl] at hnx
       rw[←hnx] at hown
       clear hnx hlen2
       go_wp2
       exact⟨⟨i+1,by omega,by push_cast;rfl,hEz,hown⟩,by simp[intOf];omega⟩
      |false=>
       rw[hb] at hci hnx
       rw[if_neg (by decide)] at hnx
       have hnx2:Hid (Z32 (i+1) S=Z32 i S++[(i:Int)]):=hnx
       clear hnx
       go_wp2_with (
        at_builtin
        refine wpList_append_own _ rfl _ _ _ rfl wo.heap.size 3 Tryz.t3 (.int .i64 0) 1 8 Go.Proofs.Tryq.u27 i3 t3z t3s t3b rfl (by omega) _ _ _ rfl (hown.alloc _) ⟨wr.heap.size,0,none⟩ 1 1 [.int .i64 i] rfl rfl (Z1N _ _ _) (by intro u hu;simp at hu;subst hu;rfl) (by simp[maxLen];omega) (by omega) (by simp;omega) ?_
        intro v' w5 hown5 hgrow5 _
        have hE9:Ext wo w5:=(hEz.alloc _).grown hgrow5 (fun k hk=>(hown.lt k hk).1))
       exact⟨⟨i+1,by omega,by push_cast;rfl,hE9,by rw[hnx2.out];simpa[OwnI] using hown5⟩,by simp[intOf];omega⟩
   ·have hjlt:j<S.length:=by omega
    obtain⟨l,hl⟩:∃l,S[j]? =some l:=⟨_,List.getElem?_eq_getElem hjlt⟩
    obtain⟨hlm,hll⟩:=hmem l (List.mem_of_getElem? hl)
    have hl1:0<l.length:=by omega
    have hl9:l.length≤9:=by omega
    clear hll
    obtain⟨gr,cr,gl,cl,her,hgrB,hgrl,hcu,hou,hglB,hgll,hcap⟩:=Zdw hSv hl (by rintro rfl;simp at hl1)
    obtain⟨rfl,rfl⟩:ao=some ⟨gr,0,none⟩∧cp=cr:=by simpa using her
    replace hcu:wr.cell? ⟨gr,j,none⟩=some (.slice (some ⟨gl,0,none⟩) l.length cl):=by
     rw[←hcu];simp only[World.cell?,hX.block gr hgrl (by omega)]
    have hcl:∀W,Ext wr W→∀(j:Nat) u,(l.map (Value.int .i64))[j]? =some u→W.cell? ⟨gl,j,none⟩=some u:=by
     intro W hW j u hu
     have:=hou.cells (g:=gl) rfl j u hu
     rw[Z0c] at this
     refine hW.cellS ?_
     rw[←this]
     simp only[World.cell?,hX.block gl hgll (by omega)]
    have hclone:=fun W hW=>Z60 gl l.length cl l W rfl hl1 (by omega) hcap (by have:=hX.size;have:=(hW:Ext wr W).size;omega) (hcl W hW)
    obtain⟨a2,c2,rfl⟩:=hSm.form
    have hSm0:=hSm
    obtain⟨hn2,vs,hvs,hve⟩:=hSm
    have htl:(S.take j).length=j:=by rw[List.length_take];omega
    have hvl:=hve.length
    rw[hvl] at hvs
    rw[htl] at hvs hn2 hvl hSm0⊢
    have hj0:(0:Int)≤(j:Int):=by omega
    have hjL:(j:Int)<(S.length:Int):=by omega
    go_wp2_with (first
     |(go_at_call 101;refine(hclone _ (by(repeat (with_reducible first|assumption|exact Ext.rfl' _|apply Ext.alloc|apply Ext.drew)))).mono ?_;rintro e w4 ⟨g',cap',rfl,ho4,hE4⟩)
     |(at_builtin
       refine wpList_append_own _ rfl _ _ _ rfl w3.heap.size 27 Tryz.t27 (.slice none 0 0) 1 24 u57 i27 t27z t27s t27b rfl (by omega) (.slice a2 j c2) _ _ rfl ((Z00 hvs hE4).alloc _) ⟨w4.heap.size,0,none⟩ 1 1 [.slice (some ⟨g',0,none⟩) l.length cap'] rfl rfl (Z1N _ _ _) (by intro u hu;rw[List.mem_singleton.1 hu];rfl) (by simp[maxLen];omega) (by omega) (by simp only[Z2];have:=hE4.size;have:=hX.size;omega) ?_
       intro v' w5 hown5 hgrow5 _))
    have hg5:(w4.alloc (.cells #[.slice (some ⟨g',0,none⟩) l.length cap'] 27)).grownBy w5 (Value.ownBlock (.slice a2 j c2)):=hgrow5
    clear hgrow5
    have hS4:Shr w3.heap.size (w4.alloc (.cells #[.slice (some ⟨g',0,none⟩) l.length cap'] 27)) (.slice a2 j c2) (S.take j):=(hSm0.ext hE4).ext ((Ext.rfl' w4).alloc _)
    have hwr:=hX.size
    have hw4:=hE4.size
    have hX5:BelowX w3.heap.size (w2.heap.size+1) w3 w5:=by
     refine(hX.of_ext (hE4.alloc (.cells #[.slice (some ⟨g',0,none⟩) l.length cap'] 27)) hX.size).trans ⟨hg5.os,hg5.tape,hg5.output,hg5.size,fun k hk _=>hg5.block k (by simp only[Z2];omega) (fun e=>by have:=(hS4.lt e.symm).1;omega)⟩
    have hi5:w5.heap[w2.heap.size+1]? =some (.cells (Zs (inL (S.take j))) 138):=(hg5.block _ (by simp only[Z2];omega) (fun e=>by have:=(hS4.lt e.symm).1;omega)).trans (((hE4.alloc _).get hi))
    have hS5:Shr w3.heap.size w5 v' (S.take (j+1)):=by
     rw[Z0G hl]
     refine⟨fun h=>by simp at h,vs++[.slice (some ⟨g',0,none⟩) l.length cap'],by simpa[hvl] using hown5,Each.append (hve.mono fun u s h=>OwnI.grownRow (OwnI.ext (OwnI.ext h hE4) ((Ext.rfl' w4).alloc _)) hS4 hg5) ⟨OwnI.grownRow (OwnI.ext (OwnI.le ho4 hwr) ((Ext.rfl' w4).alloc _)) hS4 hg5,trivial⟩⟩
    clear hg5 hS4 hvs hve hvl hn2 hSm0 hown5 ho4 hcu hcl hclone
    obtain⟨wo,rfl⟩:∃wo:World,wo=wr:=⟨_,rfl⟩
    go_loopw [35] (fun v35 wz=>∃k:Nat,k≤l.length∧v35= .int .i64 k∧BelowX w5.heap.size (w2.heap.size+1) w5 wz∧wz.heap[w2.heap.size+1]? =some (.cells (Zs (fun i=>inL (S.take j) i||(l.take k).contains (i:Int))) 138)) (fun v35 _=>l.length - (intOf v35).toNat)
    case atStart=>exact⟨0,Nat.zero_le _,rfl,BelowX.refl _ _ _,by rw[hi5,Z1o];intro i _;simp⟩
    case round=>
     obtain⟨k,hk,rfl,hXz,hiz⟩:=hrel
     by_cases hkl:k=l.length
     ·subst hkl
      rw[List.take_length] at hiz
      have hiz2:wr.heap[w2.heap.size+1]? =some (.cells (Zs (inL (S.take (j+1)))) 138):=by
       rw[hiz,Z1o]
       intro i _
       rw[Z0G hl,ZbX]
      have hXf:BelowX w3.heap.size (w2.heap.size+1) w3 wr:=hX5.trans ⟨hXz.os,hXz.tape,hXz.output,by have:=hXz.size;have:=hX5.size;omega,fun k hk hne=>hXz.block k (by have:=hX5.size;omega) hne⟩
      have hSf:=hS5.belowX hXz hibl
      go_wp2
      exact⟨⟨j+1,by omega,by push_cast;rfl,hXf,hiz2,hSf⟩,by simp[intOf];omega⟩
     ·obtain⟨p,hp⟩:∃p,l[k]? =some p:=⟨_,List.getElem?_eq_getElem (by omega)⟩
      have hpn:=hlm p (List.mem_of_getElem? hp)
      obtain⟨q,rfl⟩:=Int.eq_ofNat_of_zero_le hpn.1
      have hq9:q<9:=by omega
      have hcp:=hou.cells (g:=gl) rfl k (.int .i64 q) (by rw[List.getElem?_map,hp];rfl)
      rw[Z0c] at hcp
      replace hcp:wr.cell? ⟨gl,k,none⟩=some (.int .i64 q):=by
       rw[←hcp];simp only[World.cell?,hXz.block gl (by have:=hX5.size;omega) (by omega),hX5.block gl hgll (by omega)]
      have hfq:=Z8 hiz q
      have hcq:=Z0 hiz q
      rw[Z1u _ q hq9] at hcq
      generalize (inL (S.take j) q||(l.take k).contains (q:Int))=bq at hcq
      have hk0:(0:Int)≤(k:Int):=by omega
      have hkL:(k:Int)<(l.length:Int):=by omega
      have hq0:(0:Int)≤(q:Int):=by omega
      have hq9':(q:Int)<9:=by omega
      go_wp2
      have hA:=Go.Conc.aside_setCell wr ⟨w2.heap.size+1,q,none⟩ (.bool true)
      refine⟨⟨k+1,by omega,by push_cast;rfl,hXz.trans ⟨hA.os,hA.tape,hA.output,by rw[hA.size];exact Nat.le_refl _,fun b _ hne=>hA.block b hne⟩,?_⟩,by simp[intOf];omega⟩
      rw[Zb hiz,Z52 _ q hq9,Z1o]
      intro i _
      have e9:(i==q)=decide ((i:Int)=(q:Int)):=by rw[Bool.eq_iff_iff];simp;omega
      rw[Z0G hp,e9]
      simp[Bool.or_assoc]
 ·have hF1:Z66 a b c m L=[]:=by rw[Z66,if_neg h]
  have hF2:Z6T a b c m L=[]:=by rw[Z6T,if_neg h]
  have hne:(Zo a b c m L [] !=0)=true:=by simpa using h
  rw[hF1,hF2]
  generalize Zo a b c m L []=f at ho hne⊢
  go_enter func37,ntmps37
  go_wp2_with (
   go_at_call 86;refine(ho _ (by(repeat (with_reducible first|assumption|exact Ext.rfl' _|apply Ext.alloc|apply Ext.drew)))).mono ?_;rintro e w2 ⟨rfl,hE2⟩
   have hE3:Ext w w2:=Ext.trans (by(repeat (with_reducible first|assumption|exact Ext.rfl' _|apply Ext.alloc|apply Ext.drew))) hE2)
  refine bodyPost_ret (results_tmp3 rfl _ _ _) rfl ?_
  exact⟨_,_,rfl,Shr.nil _ _,World.ownsRow_nil _ _ _ _,hE3.alloc _⟩
end Go.Proofs.Tryq
namespace Go.Proofs.Tryq
set_option maxRecDepth 100000
set_option maxHeartbeats 2000000
open Go Go.Nk Go.RowKit
theorem Z3P(a b:Int)(w:World):Calls prog 34 #[.int .i64 a,.int .i64 b] w fun e w'=>e= .returned (.agg #[.int .i64 a,.int .i64 b])∧Ext w w':=by
 go_enter func34,ntmps34
 go_wp2
 refine bodyPost_ret (v:= .agg #[.int .i64 a,.int .i64 b]) ((Z07 rfl _ _ _).trans ?_) rfl ⟨rfl,(Ext.rfl' w).alloc _⟩
 simp[go_sem]
theorem ZP{a b:Bool}(h:a=b):Ending.returned (.bool a)=Ending.returned (.bool b):=by rw[h]
theorem Z1Z{α:Type}{l:List α}{n:Nat}(h:l.length=n):l.drop n=[]:=by rw[←h,List.drop_length]
theorem Z54{α:Type}[DecidableEq α]{l k:List α}{i:Nat}{x y:α}(hx:l[i]? =some x)(hy:k[i]? =some y):decide (l.drop i=k.drop i)=(decide (x=y)&&decide (l.drop (i+1)=k.drop (i+1))):=by
 rw[Z0b hx,Z0b hy,Bool.eq_iff_iff]
 simp
theorem Z1d(a1:Option Addr)(n1 c1:Nat)(l:List Int)(a2:Option Addr)(n2 c2:Nat)(k:List Int)(w:World)(h1:l.length=n1)(h2:k.length=n2)(hb:n1≤1000000∧n2≤1000000)(hl:RawI w a1 l)(hk:RawI w a2 k):
 Calls prog 58 #[.slice a1 n1 c1,.slice a2 n2 c2] w fun e w'=>e= .returned (.bool (decide (l=k)))∧Ext w w':=by
 by_cases hn:n1=n2
 ·have H:Hid (decide (l=k)=decide (l.drop 0=k.drop 0)):=rfl
  subst hn
  obtain⟨n,hn⟩:∃n,n=n1:=⟨_,rfl⟩
  subst hn
  go_enter func58,ntmps58
  go_wp2
  go_loopw [5] (fun v wr=>∃i:Nat,i≤n∧v= .int .i64 i∧Ext w wr∧Hid (decide (l=k)=decide (l.drop i=k.drop i))) (fun v _=>n - (intOf v).toNat)
  case atStart=>exact⟨0,Nat.zero_le _,rfl,Ext.rfl' w,H⟩
  case round=>
   obtain⟨i,hi,rfl,hE,hH⟩:=hrel
   clear H
   by_cases hin:i=n
   ·subst hin
    have hz:decide (l=k)=true:=by rw[hH.out,Z1Z h1,Z1Z h2];rfl
    go_wp2
    go_ret
    exact⟨ZP (a:=true) hz.symm,hE⟩
   ·have hlt:i<n:=by omega
    obtain⟨x,hx⟩:∃x,l[i]? =some x:=⟨_,List.getElem?_eq_getElem (by omega)⟩
    obtain⟨y,hy⟩:∃y,k[i]? =some y:=⟨_,List.getElem?_eq_getElem (by omega)⟩
    obtain⟨ba,oa,rfl,hba,hxa⟩:=(hl.ext hE) i x hx
    obtain⟨bb,ob,rfl,hbb,hyb⟩:=(hk.ext hE) i y hy
    go_wp2_with fail
    have gz0:=Zet hxa
    have gz1:=Zet hyb
    refine ZeG 9 (by kernel_rfl) ?_
    refine ZeB [0,1,2,3,4,5,6,7,8] (by kernel_rfl) (by kernel_rfl) ?_
    simp only[ZeD,List.getElem?_cons_succ,List.getElem?_cons_zero,List.cons_append,List.nil_append]
    repeat (go_big_quiet_step (fail))
    refine wpQuiet_nil ?_
    refine Zf6 (by kernel_rfl) (fun W hW=> ?_)
    have hEW:=hW
    clear gz0 gz1
    have hEW2:=hE.trans hEW
    by_cases hxy:x=y
    ·have hb:(x !=y)=false:=by simpa using hxy
     have hH2:Hid (decide (l=k)=decide (l.drop (i+1)=k.drop (i+1))):=by show _=_;rw[hH.out,Z54 hx hy,decide_eq_true hxy,Bool.true_and]
     rw[hb]
     clear hb
     go_wp2
     go_roundw
     case rel=>exact⟨i+1,by omega,by push_cast;rfl,hEW2,hH2⟩
     case measure=>simp[intOf];omega
    ·have hb:(x !=y)=true:=by simpa using hxy
     have hH2:decide (l=k)=false:=by rw[hH.out,Z54 hx hy,decide_eq_false hxy,Bool.false_and]
     rw[hb]
     clear hb
     go_wp2
     go_ret
     exact⟨ZP (a:=false) hH2.symm,hEW2⟩
 ·have hz:decide (l=k)=false:=decide_eq_false fun h=>hn (by rw[←h1,←h2,h])
  have hnn:¬(n1:Int)=(n2:Int):=by omega
  go_enter func58,ntmps58
  go_wp2
  go_ret
  exact⟨ZP (a:=false) hz.symm,Ext.rfl' w⟩
def RawL(w:World)(base:Option Addr)(ls:List (List Int)):Prop:=∀(i:Nat)(l:List Int),ls[i]? =some l→∃b off ad cp,base=some ⟨b,off,none⟩∧b<w.heap.size∧w.cell? ⟨b,off+i,none⟩=some (.slice ad l.length cp)∧l.length≤1000000∧RawI w ad l
theorem RawL.ext{w w':World}{base:Option Addr}{ls:List (List Int)}(h:RawL w base ls)(e:Ext w w'):RawL w' base ls:=by
 intro i l hi
 obtain⟨b,off,ad,cp,h1,h2,h3,h4,h5⟩:=h i l hi
 exact⟨b,off,ad,cp,h1,e.lt h2,e.cellS h3,h4,h5.ext e⟩
theorem OwnI.rawI{b:Nat}{w:World}{v:Value}{l:List Int}(h:OwnI b w v l):∃ao cp,v= .slice ao l.length cp∧RawI w ao l∧l.length≤cp:=by
 by_cases h0:l=[]
 ·subst h0
  rcases h.2 with⟨rfl,_⟩|⟨g,cp,_,rfl,_⟩
  ·exact⟨none,0,rfl,fun i x hx=>by simp at hx,Nat.zero_le _⟩
  ·exact⟨_,cp,rfl,fun i x hx=>by simp at hx,Nat.zero_le _⟩
 ·rcases h.2 with⟨rfl,hz⟩|⟨g,cp,cur,rfl,hb,hg,hcap,hr⟩
  ·simp at hz;exact absurd hz h0
  ·exact⟨_,cp,rfl,OwnI.raw (b:=b) ⟨h.1,.inr ⟨g,cp,cur,rfl,hb,hg,hcap,hr⟩⟩,hcap⟩
theorem Shr.rawL{b:Nat}{w:World}{v:Value}{ls:List (List Int)}(h:Shr b w v ls)(hb:∀l∈ls,l.length≤1000000):∃ao cp,v= .slice ao ls.length cp∧RawL w ao ls:=by
 obtain⟨ao,cp,rfl⟩:=h.form
 refine⟨ao,cp,rfl,fun i l hl=> ?_⟩
 obtain⟨_,vs,h1,h2⟩:=h
 have hlen:=h2.length
 have hi:=(List.getElem?_eq_some_iff.1 hl).1
 obtain⟨g,cr,he,_,hg⟩:=h1.form (by omega)
 obtain⟨rfl,_⟩:ao=some ⟨g,0,none⟩∧_:=by simpa using he
 obtain⟨u,hu,hou⟩:=h2.get i l hl
 have hc:=h1.cells (g:=g) rfl i u hu
 rw[Z0c] at hc
 obtain⟨ad,cu,rfl,hr,_⟩:=hou.rawI
 exact⟨g,0,ad,cu,rfl,hg,by rw[Nat.zero_add];exact hc,hb l (List.mem_of_getElem? hl),hr⟩
theorem Z55(a1:Option Addr)(n1 c1:Nat)(l:List (List Int))(a2:Option Addr)(n2 c2:Nat)(k:List (List Int))(w:World)(h1:l.length=n1)(h2:k.length=n2)(hb:n1≤1000000∧n2≤1000000)(hl:RawL w a1 l)(hk:RawL w a2 k):
 Calls prog 56 #[.slice a1 n1 c1,.slice a2 n2 c2] w fun e w'=>e= .returned (.bool (decide (l=k)))∧Ext w w':=by
 by_cases hn:n1=n2
 ·have H:Hid (decide (l=k)=decide (l.drop 0=k.drop 0)):=rfl
  subst hn
  obtain⟨n,hn⟩:∃n,n=n1:=⟨_,rfl⟩
  subst hn
  go_enter func56,ntmps56
  go_wp2
  go_loopw [5] (fun v wr=>∃i:Nat,i≤n∧v= .int .i64 i∧Ext w wr∧Hid (decide (l=k)=decide (l.drop i=k.drop i))) (fun v _=>n - (intOf v).toNat)
  case atStart=>exact⟨0,Nat.zero_le _,rfl,Ext.rfl' w,H⟩
  case round=>
   obtain⟨i,hi,rfl,hE,hH⟩:=hrel
   clear H
   by_cases hin:i=n
   ·subst hin
    have hz:decide (l=k)=true:=by rw[hH.out,Z1Z h1,Z1Z h2];rfl
    go_wp2
    go_ret
    exact⟨ZP (a:=true) hz.symm,hE⟩
   ·have hlt:i<n:=by omega
    obtain⟨x,hx⟩:∃x,l[i]? =some x:=⟨_,List.getElem?_eq_getElem (by omega)⟩
    obtain⟨y,hy⟩:∃y,k[i]? =some y:=⟨_,List.getElem?_eq_getElem (by omega)⟩
    obtain⟨ba,oa,ax,cx,rfl,hba,hxa,hxn,hxr⟩:=(hl.ext hE) i x hx
    obtain⟨bb,ob,ay,cy,rfl,hbb,hyb,hyn,hyr⟩:=(hk.ext hE) i y hy
    go_wp2_with fail
    have gz0:=Zet hxa
    have gz1:=Zet hyb
    refine ZeG 10 (by kernel_rfl) ?_
    refine ZeB [0,1,2,3,4,5,6,7] (by kernel_rfl) (by kernel_rfl) ?_
    simp only[ZeD,List.getElem?_cons_succ,List.getElem?_cons_zero,List.cons_append,List.nil_append]
    repeat (go_big_quiet_step (fail))
    refine wpQuiet_nil ?_
    refine ZeX 8 (f:=58) (args:= #[.slice ax x.length cx,.slice ay y.length cy]) (v:= .bool (decide (x=y))) (by kernel_rfl) rfl (by kernel_rfl) rfl (fun W=>by simp[go_sem,execOp,Act.eval]) (fun W hW=>Z1d ax x.length cx x ay y.length cy y _ rfl rfl ⟨hxn,hyn⟩ (hxr.ext hW) (hyr.ext hW)) ?_
    go_simp
    refine ZeB [9] (by kernel_rfl) (by kernel_rfl) ?_
    simp only[ZeD,List.getElem?_cons_succ,List.getElem?_cons_zero,List.cons_append,List.nil_append]
    repeat (go_big_quiet_step (fail))
    refine wpQuiet_nil ?_
    refine Zf6 (by kernel_rfl) (fun W hW=> ?_)
    have hEW:=hW
    clear gz0 gz1
    have hEW2:=hE.trans hEW
    by_cases hxy:x=y
    ·have hb:(!decide (x=y))=false:=by simpa using hxy
     have hH2:Hid (decide (l=k)=decide (l.drop (i+1)=k.drop (i+1))):=by show _=_;rw[hH.out,Z54 hx hy,decide_eq_true hxy,Bool.true_and]
     rw[hb]
     clear hb
     go_wp2
     go_roundw
     case rel=>exact⟨i+1,by omega,by push_cast;rfl,hEW2,hH2⟩
     case measure=>simp[intOf];omega
    ·have hb:(!decide (x=y))=true:=by simpa using hxy
     have hH2:decide (l=k)=false:=by rw[hH.out,Z54 hx hy,decide_eq_false hxy,Bool.false_and]
     rw[hb]
     clear hb
     go_wp2
     go_ret
     exact⟨ZP (a:=false) hH2.symm,hEW2⟩
 ·have hz:decide (l=k)=false:=decide_eq_false fun h=>hn (by rw[←h1,←h2,h])
  have hnn:¬(n1:Int)=(n2:Int):=by omega
  go_enter func56,ntmps56
  go_wp2
  go_ret
  exact⟨ZP (a:=false) hz.symm,Ext.rfl' w⟩
end Go.Proofs.Tryq
namespace Go.Proofs.Tryq
open Go Go.Nk Go.RowKit
set_option linter.all false
theorem Zhx{w:World}{bl:Option Addr}{S:List Int}(h:RawI w bl S)(h0:S≠[]):∃b o,bl=some ⟨b,o,none⟩∧b<w.heap.size∧∀j u,(S.map (Value.int .i64))[j]? =some u→w.cell? ((⟨b,o,none⟩:Addr).add j)=some u:=by
 obtain⟨x,hx⟩:∃x,S[0]? =some x:=by
  cases S with
  |nil=>exact absurd rfl h0
  |cons x t=>exact⟨x,rfl⟩
 obtain⟨b,o,rfl,hb,_⟩:=h 0 x hx
 refine⟨b,o,rfl,hb,fun j u hj=> ?_⟩
 rw[List.getElem?_map] at hj
 obtain⟨y,hy,rfl⟩:=Option.map_eq_some_iff.1 hj
 obtain⟨b',o',e,_,hc⟩:=h j y hy
 obtain⟨rfl,rfl⟩:b=b'∧o=o':=by simpa using e
 have e2:(⟨b,o,none⟩:Addr).add j=⟨b,o+j,none⟩:=by unfold Addr.add;split<;>simp_all
 rw[e2]
 exact hc
theorem Zhm{o:Oper}{a:Act}{w:World}{K:Act→World→Prop}{Q:Exit→Act→World→Prop}(s x:Operand)(ho:o.op= .call {callee:= .builtin .append,args:= #[s,x],argTypes:= #[27,27]})
 (base:Nat)(v:Value)(T:List Int)(hs:a.eval s=v)(hown:OwnI base w v T)(bl:Option Addr)(c:Nat)(S:List Int)(hx:a.eval x= .slice bl S.length c)(hnil:bl=none→c=0)(hS:RawI w bl S)
 (hb:T.length+S.length≤1000000)(hbase:base≤w.heap.size)(h:∀v' w',OwnI base w' v' (T++S)→w.grownBy w' v.ownBlock→K (a.put o.dst v') w'):o.wp prog a w K Q:=by
 cases bl with
 |none=>
  have hS0:S=[]:=by
   cases S with
   |nil=>rfl
   |cons x t=>
    obtain⟨b,o,e,_⟩:=hS 0 x rfl
    cases e
  subst hS0
  obtain rfl:=hnil rfl
  have hrun:=run_append_owned_none (P:=prog) (w:=w) base 27 o.type 3 Tryz.t3 1 u27 i3 v T.length (T.map (Value.int .i64)) hown
  have hx:a.eval x= .slice none 0 0:=hx
  unfold Oper.wp
  simp[execOp,ho,resolve,invoke,builtin,hs,hx,hrun,Result.andThen]
  exact h v w (by rw[List.append_nil];exact hown) ⟨rfl,rfl,rfl,Nat.le_refl _,fun b hb _=>rfl⟩
 |some ad=>
  have hn:∀j u,(S.map (Value.int .i64))[j]? =some u→w.cell? (ad.add j)=some u:=by
   by_cases h0:S=[]
   ·subst h0;intro j u hj;simp at hj
   ·obtain⟨b,o,e,_,hc⟩:=Zhx hS h0
    cases e
    exact hc
  refine wp_append_own w s x 27 ho base 3 Tryz.t3 (.int .i64 0) 1 8 u27 i3 t3z t3s t3b rfl (by omega) v T.length (T.map (Value.int .i64)) hs hown ad S.length c (S.map (Value.int .i64)) hx (by simp) hn (by intro u hu;obtain⟨x,_,rfl⟩:=List.mem_map.1 hu;rfl) (by simp only[maxLen];omega) (by omega) hbase ?_
  intro v' w' h1 h2 _
  refine h v' w' ?_ h2
  show w'.ownsRow base 3 1 v' (T++S).length ((T++S).map (Value.int .i64))
  rw[List.map_append,List.length_append]
  exact h1
def chooseR:List Int→List (List Int)
 |[]=>[[]]
 |x::t=>[]::((chooseR t).map (x::·)++(chooseR t).tail)
theorem chooseR_head:∀l,chooseR l=[]::(chooseR l).tail
 |[]=>rfl
 |_::_=>rfl
theorem chooseR_ne:∀(l:List Int)(c:List Int),c∈(chooseR l).tail→c≠[]
 |[],c,h=>by cases h
 |x::t,c,h=>by
  rcases List.mem_append.1 (show c∈(chooseR t).map (x::·)++(chooseR t).tail from h) with h|h
  ·obtain⟨y,_,rfl⟩:=List.mem_map.1 h;simp
  ·exact chooseR_ne t c h
def ZeS(n:Nat)(out:Nat→Bool)(i:Nat):List Int:=((List.range' i (n - i)).filter fun k=> !out k).map fun(k:Nat)=>(k:Int)
theorem chooseR_mem:∀(s c:List Int),c∈chooseR s→List.Sublist c s
 |[],c,h=>by cases List.mem_singleton.1 h;exact List.Sublist.refl _
 |x::t,c,h=>by
  rcases List.mem_cons.1 h with rfl|h
  ·exact List.nil_sublist _
  ·rcases List.mem_append.1 h with h|h
   ·obtain⟨y,hy,rfl⟩:=List.mem_map.1 h
    exact(chooseR_mem t y hy).cons_cons x
   ·exact(chooseR_mem t c (List.mem_of_mem_tail h)).cons x
theorem mem_chooseR:∀(s c:List Int),List.Sublist c s→c∈chooseR s
 |[],c,h=>by rw[List.sublist_nil.1 h];simp[chooseR]
 |x::t,c,h=>by
  cases c with
  |nil=>exact List.mem_cons_self
  |cons y c=>
   rw[chooseR]
   refine List.mem_cons_of_mem _ (List.mem_append.2 ?_)
   cases h with
   |cons _ h=>
    right
    have:=mem_chooseR t _ h
    rw[chooseR_head] at this
    rcases List.mem_cons.1 this with h2|h2
    ·cases h2
    ·exact h2
   |cons_cons _ h=>exact .inl (List.mem_map.2 ⟨c,mem_chooseR t c h,rfl⟩)
set_option linter.all false
end Go.Proofs.Tryq
namespace Go.Nk
open Go Go.Region Go.Proofs.Tryq
end Go.Nk
namespace Go.Proofs.Tryq
set_option maxRecDepth 100000
set_option maxHeartbeats 4000000
open Go Go.Nk Go.RowKit
def Zm(f:Nat→Bool)(bt:Int→Int→Bool):Nat→Nat×Bool
 |0=>(0,false)
 |k+1=>if f k&&(!(Zm f bt k).2||bt (bl k).length (bl (Zm f bt k).1).length||((bl k).length==(bl (Zm f bt k).1).length&&Z1g k (Zm f bt k).1)) then(k,true) else Zm f bt k
theorem Z56(f:Nat→Bool)(bt:Int→Int→Bool):∀k,k≤256→(Zm f bt k).1<256
 |0,_=>by simp[Zm]
 |k+1,h=>by
  rw[Zm]
  split
  ·simp;omega
  ·exact Z56 f bt k (by omega)
theorem Z7K(r0 r1 r2 r3:Int)(base:Option Addr)(cap B n:Nat)(p:Nat→Nat)(C:Nat→Nat→Int×Int)(hn:n≤8)(ft:Bool)(g:FuncId)(bt:Int→Int→Bool)(w:World)(hm:Most w)(hC:Cv w B n p C)(hd:Deb w)
 (hge:∀args w,(callFunc g args).run prog w= .ok (.enter g args) w)(hgc:∀a b w,Calls prog g #[.int .i64 a,.int .i64 b] w fun e w'=>e= .returned (.bool (bt a b))∧w'=w):
 Calls prog 125 #[.agg #[.int .i64 r0,.int .i64 r1,.int .i64 r2,.int .i64 r3,.slice base n cap,.slice (some ⟨B,0,none⟩) n n],.bool ft,.func (.func g) #[] #[]] w fun e w'=>
  ∃v,e= .returned (.tuple #[v,.bool (Zm (fun k=>Zz C k n==ft) bt (2 ^ n)).2])∧OwnI w.heap.size w' v ((bl (Zm (fun k=>Zz C k n==ft) bt (2 ^ n)).1).map fun(i:Nat)=>(i:Int))∧Ext w w':=by
 have hpow:=Z2Z hn
 have hev:=fun v w'=>Z08 r0 r1 r2 r3 base n cap v hn w'
 go_enter func125,ntmps125
 have hc:(w.alloc (.cells #[.int .i64 r0,.int .i64 r1,.int .i64 r2,.int .i64 r3,.slice base n cap,.slice (some ⟨B,0,none⟩) n n] 146)).heap[w.heap.size]? =some (.cells #[.int .i64 r0,.int .i64 r1,.int .i64 r2,.int .i64 r3,.slice base n cap,.slice (some ⟨B,0,none⟩) n n] 146):=by rw[Z3,if_pos rfl]
 have hE1:=(Ext.rfl' w).alloc (.cells #[.int .i64 r0,.int .i64 r1,.int .i64 r2,.int .i64 r3,.slice base n cap,.slice (some ⟨B,0,none⟩) n n] 146)
 go_wp2_with (first
  |(go_at_call 106;refine(hev _ _).mono ?_;rintro e w2 ⟨rfl,hE2⟩;have hs2:=hE2.get hc))
 have hE3:=hE1.trans hE2
 have hcast:((2:Int) ^ n)=((2 ^ n:Nat):Int):=by push_cast;rfl
 have hm1:2 ^ n≤256:=by omega
 rw[hcast]
 clear hcast hpow hE2 hc hE1
 obtain⟨m,Hm⟩:∃m,m=2 ^ n:=⟨_,rfl⟩
 rw[←Hm] at hm1⊢
 replace Hm:=Lib.hid Hm
 go_loopw [8,9,16] (fun vb vf vk wr=>∃k:Nat,k≤m∧vk= .int .i64 k∧vb= .int .i64 ((Zm (fun k=>Zz C k n==ft) bt k).1:Nat)∧vf= .bool (Zm (fun k=>Zz C k n==ft) bt k).2∧Ext w wr∧wr.heap[w.heap.size]? =some (.cells #[.int .i64 r0,.int .i64 r1,.int .i64 r2,.int .i64 r3,.slice base n cap,.slice (some ⟨B,0,none⟩) n n] 146)) (fun _ _ vk _=>m - (intOf vk).toNat)
 case atStart=>exact⟨0,Nat.zero_le _,rfl,rfl,rfl,hE3,hs2⟩
 case round=>
  obtain⟨k,hk,rfl,rfl,rfl,hE,hs6⟩:=hrel
  clear hE3 hs2
  have c0:=Z0 hs6 0
  have c1:=Z0 hs6 1
  have c2:=Z0 hs6 2
  have c3:=Z0 hs6 3
  have c4:=Z0 hs6 4
  have c5:=Z0 hs6 5
  simp only[List.getElem?_toArray,List.getElem?_cons_zero,List.getElem?_cons_succ] at c0 c1 c2 c3 c4 c5
  have hbl:=Z56 (fun k=>Zz C k n==ft) bt k (by omega)
  by_cases hkm:k=m
  ·subst hkm
   have hlst:=fun w hd=>ZbS _ hbl w hd
   go_wp2_with (first|(go_at_call 158;refine(hlst _ (hd.ext hE)).mono ?_;rintro e w9 ⟨v,rfl,hv,hE9⟩))
   go_ret2
   rw[←Hm.out]
   exact⟨v,rfl,hv.le hE.size,hE.trans hE9⟩
  ·have hk2:k<256:=by omega
   have hfit:=Z7j r0 r1 r2 r3 (.slice base n cap) B n (k:Int) p C hn (by omega) wr (hm.ext hE) (hC.ext hE)
   have H:Hid (Zm (fun k=>Zz C k n==ft) bt (k+1)=if(Zz C k n==ft)&&(!(Zm (fun k=>Zz C k n==ft) bt k).2||bt (bl k).length (bl (Zm (fun k=>Zz C k n==ft) bt k).1).length||((bl k).length==(bl (Zm (fun k=>Zz C k n==ft) bt k).1).length&&Z1g k (Zm (fun k=>Zz C k n==ft) bt k).1)) then(k,true) else Zm (fun k=>Zz C k n==ft) bt k):=rfl
   generalize Zm (fun k=>Zz C k n==ft) bt k=P at H hbl⊢
   obtain⟨b,f⟩:=P
   have hk0:(0:Int)≤(k:Int):=by omega
   have hk1:(k:Int)<256:=by omega
   have hb0:(0:Int)≤(b:Int):=by omega
   have hb1:(b:Int)<256:=by have:b<256:=hbl;omega
   have ho1:=fun w=>Z7k k hk2 w
   have ho2:=fun w=>Z7k b hbl w
   have hbt:=fun w=>hgc (bl k).length (bl b).length w
   have hls:=fun w=>Z89 (k:Int) (b:Int) ⟨hk0,hk1⟩ ⟨hb0,hb1⟩ w
   simp only at H ho2 hbt hls
   have hkm2:((k:Int)<(m:Int)):=by omega
   generalize (bl k).length=x at H ho1 hbt
   generalize (bl b).length=y at H ho2 hbt
   generalize Z1g (k:Int) (b:Int)=l at H hls
   generalize Zz C (k:Int) n=q at H hfit
   generalize bt (x:Int) (y:Int)=t at H hbt
   by_cases hq:q=ft
   ·subst hq
    cases f
    ·have e':Zm (fun k=>Zz C k n==q) bt (k+1)=(k,true):=by rw[H];simp
     replace e':=Lib.hid e';clear H
     go_wp2_with (first
     |(go_at_call 124;refine hfit.mono ?_;rintro e w2 ⟨rfl,hE2⟩;have hW:=hE.trans hE2;have hW6:=hE2.get hs6;clear c0 c1 c2 c3 c4 c5)
     |(go_at_call 156;refine(ho1 _).mono ?_;rintro e w2 ⟨rfl,rfl⟩)
     |(go_at_call 156;refine(ho2 _).mono ?_;rintro e w2 ⟨rfl,rfl⟩)
     |(go_at_call 157;refine(hls _).mono ?_;rintro e w2 ⟨rfl,rfl⟩)
     |(refine(hbt _).mono ?_;rintro e w2 ⟨rfl,rfl⟩))
     go_roundw
     case rel=>exact⟨k+1,by omega,by push_cast;rfl,by rw[e'.out],by rw[e'.out],hW,hW6⟩
     case measure=>simp[intOf];omega
    ·cases t
     ·by_cases hxy:x=y
      ·subst hxy
       have hxx:(((x:Int)==(x:Int)))=true:=by simp
       cases l
       ·have e':Zm (fun k=>Zz C k n==q) bt (k+1)=(b,true):=by rw[H];simp
        replace e':=Lib.hid e';clear H
        go_wp2_with (first
        |(go_at_call 124;refine hfit.mono ?_;rintro e w2 ⟨rfl,hE2⟩;have hW:=hE.trans hE2;have hW6:=hE2.get hs6;clear c0 c1 c2 c3 c4 c5)
        |(go_at_call 156;refine(ho1 _).mono ?_;rintro e w2 ⟨rfl,rfl⟩)
        |(go_at_call 156;refine(ho2 _).mono ?_;rintro e w2 ⟨rfl,rfl⟩)
        |(go_at_call 157;refine(hls _).mono ?_;rintro e w2 ⟨rfl,rfl⟩)
        |(refine(hbt _).mono ?_;rintro e w2 ⟨rfl,rfl⟩))
        go_roundw
        case rel=>exact⟨k+1,by omega,by push_cast;rfl,by rw[e'.out],by rw[e'.out],hW,hW6⟩
        case measure=>simp[intOf];omega
       ·have e':Zm (fun k=>Zz C k n==q) bt (k+1)=(k,true):=by rw[H];simp
        replace e':=Lib.hid e';clear H
        go_wp2_with (first
        |(go_at_call 124;refine hfit.mono ?_;rintro e w2 ⟨rfl,hE2⟩;have hW:=hE.trans hE2;have hW6:=hE2.get hs6;clear c0 c1 c2 c3 c4 c5)
        |(go_at_call 156;refine(ho1 _).mono ?_;rintro e w2 ⟨rfl,rfl⟩)
        |(go_at_call 156;refine(ho2 _).mono ?_;rintro e w2 ⟨rfl,rfl⟩)
        |(go_at_call 157;refine(hls _).mono ?_;rintro e w2 ⟨rfl,rfl⟩)
        |(refine(hbt _).mono ?_;rintro e w2 ⟨rfl,rfl⟩))
        go_roundw
        case rel=>exact⟨k+1,by omega,by push_cast;rfl,by rw[e'.out],by rw[e'.out],hW,hW6⟩
        case measure=>simp[intOf];omega
      ·have hxx:(((x:Int)==(y:Int)))=false:=by simp;omega
       have e':Zm (fun k=>Zz C k n==q) bt (k+1)=(b,true):=by rw[H];simp[hxy]
       replace e':=Lib.hid e';clear H
       go_wp2_with (first
       |(go_at_call 124;refine hfit.mono ?_;rintro e w2 ⟨rfl,hE2⟩;have hW:=hE.trans hE2;have hW6:=hE2.get hs6;clear c0 c1 c2 c3 c4 c5)
       |(go_at_call 156;refine(ho1 _).mono ?_;rintro e w2 ⟨rfl,rfl⟩)
       |(go_at_call 156;refine(ho2 _).mono ?_;rintro e w2 ⟨rfl,rfl⟩)
       |(go_at_call 157;refine(hls _).mono ?_;rintro e w2 ⟨rfl,rfl⟩)
       |(refine(hbt _).mono ?_;rintro e w2 ⟨rfl,rfl⟩))
       go_roundw
       case rel=>exact⟨k+1,by omega,by push_cast;rfl,by rw[e'.out],by rw[e'.out],hW,hW6⟩
       case measure=>simp[intOf];omega
     ·have e':Zm (fun k=>Zz C k n==q) bt (k+1)=(k,true):=by rw[H];simp
      replace e':=Lib.hid e';clear H
      go_wp2_with (first
      |(go_at_call 124;refine hfit.mono ?_;rintro e w2 ⟨rfl,hE2⟩;have hW:=hE.trans hE2;have hW6:=hE2.get hs6;clear c0 c1 c2 c3 c4 c5)
      |(go_at_call 156;refine(ho1 _).mono ?_;rintro e w2 ⟨rfl,rfl⟩)
      |(go_at_call 156;refine(ho2 _).mono ?_;rintro e w2 ⟨rfl,rfl⟩)
      |(go_at_call 157;refine(hls _).mono ?_;rintro e w2 ⟨rfl,rfl⟩)
      |(refine(hbt _).mono ?_;rintro e w2 ⟨rfl,rfl⟩))
      go_roundw
      case rel=>exact⟨k+1,by omega,by push_cast;rfl,by rw[e'.out],by rw[e'.out],hW,hW6⟩
      case measure=>simp[intOf];omega
   ·cases q<;>cases ft<;>first
     |exact absurd rfl hq
     |(
       have e':=H.trans (if_neg (by simp))
       replace e':=Lib.hid e';clear H
       go_wp2_with (first
       |(go_at_call 124;refine hfit.mono ?_;rintro e w2 ⟨rfl,hE2⟩;have hW:=hE.trans hE2;have hW6:=hE2.get hs6;clear c0 c1 c2 c3 c4 c5)
       |(go_at_call 156;refine(ho1 _).mono ?_;rintro e w2 ⟨rfl,rfl⟩)
       |(go_at_call 156;refine(ho2 _).mono ?_;rintro e w2 ⟨rfl,rfl⟩)
       |(go_at_call 157;refine(hls _).mono ?_;rintro e w2 ⟨rfl,rfl⟩)
       |(refine(hbt _).mono ?_;rintro e w2 ⟨rfl,rfl⟩))
       go_roundw
       case rel=>exact⟨k+1,by omega,by push_cast;rfl,by rw[e'.out],by rw[e'.out],hW,hW6⟩
       case measure=>simp[intOf];omega)
end Go.Proofs.Tryq
namespace Go.Proofs.Tryq
set_option maxRecDepth 100000
set_option maxHeartbeats 1000000
open Go Go.Nk Go.RowKit
theorem ZbZ(a b:Int)(w:World):Calls prog 126 #[.int .i64 a,.int .i64 b] w fun e w'=>e= .returned (.bool (decide (a<b)))∧w'=w:=by
 go_enter func126,ntmps126
 go_wp2
 go_ret
 exact⟨rfl,rfl⟩
theorem Zc0(a b:Int)(w:World):Calls prog 128 #[.int .i64 a,.int .i64 b] w fun e w'=>e= .returned (.bool (decide (b<a)))∧w'=w:=by
 go_enter func128,ntmps128
 go_wp2
 go_ret
 exact⟨rfl,rfl⟩
def Z7L(r0 r1 r2 r3:Int)(S:List Rs):List Int:=(bl (Zm (fun k=>Zz (cvS r0 r1 r2 r3 (S.map Ze)) k S.length==false) (fun a b=>decide (a<b)) (2 ^ S.length)).1).map fun(i:Nat)=>(i:Int)
def Z7M(r0 r1 r2 r3:Int)(S:List Rs):List Int:=(bl (Zm (fun k=>Zz (cvS r0 r1 r2 r3 (S.map Ze)) k S.length==true) (fun a b=>decide (b<a)) (2 ^ S.length)).1).map fun(i:Nat)=>(i:Int)
theorem Zas(r0 r1 r2 r3:Int)(base:Option Addr)(n cap:Nat)(S:List Rs)(w:World)(hlen:S.length=n)(hS:RawS w base S)(hm:Most w)(hd:Deb w):
 Calls prog 66 #[.agg #[.int .i64 r0,.int .i64 r1,.int .i64 r2,.int .i64 r3,.slice base n cap]] w fun e w'=>∃v,e= .returned (.tuple #[v,.int .i64 (ZC r0 r1 r2 r3 S)])∧OwnI w.heap.size w' v (if ZC r0 r1 r2 r3 S=0 then Z7L r0 r1 r2 r3 S else[])∧Ext w w':=by
 have hck:=Z0U r0 r1 r2 r3 base n cap S
 simp only[Zh] at hck
 have hb:(w.alloc (.cells #[.int .i64 r0,.int .i64 r1,.int .i64 r2,.int .i64 r3,.slice base n cap] 70)).heap[w.heap.size]? =some (.cells #[.int .i64 r0,.int .i64 r1,.int .i64 r2,.int .i64 r3,.slice base n cap] 70):=by rw[Z3,if_pos rfl]
 have hE1:Ext w _:=(Ext.rfl' w).alloc (.cells #[.int .i64 r0,.int .i64 r1,.int .i64 r2,.int .i64 r3,.slice base n cap] 70)
 have hck2:=hck _ hlen (hS.ext hE1)
 clear hck
 by_cases hc0:ZC r0 r1 r2 r3 S=0
 ·obtain⟨_,h8,hok⟩:=Z0i hc0
  rw[if_pos hc0]
  rw[hc0] at hck2⊢
  clear hc0
  have hlen2:(S.map Ze).length=n:=by rw[List.length_map,hlen]
  have hn8:n≤8:=by omega
  have hsg:=fun w hS=>Z2c r0 r1 r2 r3 base cap w (S.map Ze) n hlen2 hn8 hS
  have hpk:=fun B p w hm hC hd=>Z7K r0 r1 r2 r3 base cap B n p (cvS r0 r1 r2 r3 (S.map Ze)) hn8 false 126 (fun a b=>decide (a<b)) w hm hC hd (fun args w=>by simp[go_sem]) ZbZ
  simp only[Zh] at hsg
  go_enter func66,ntmps66
  go_wp2_with (first
   |(go_at_call 62;refine hck2.mono ?_;rintro e w2 ⟨rfl,hE2⟩;have hE3:=hE1.trans hE2;have hb2:=hE2.get hb;have q0:=Z0 hb2 0;have q1:=Z0 hb2 1;have q2:=Z0 hb2 2;have q3:=Z0 hb2 3;have q4:=Z0 hb2 4;simp only[List.getElem?_toArray,List.getElem?_cons_zero,List.getElem?_cons_succ] at q0 q1 q2 q3 q4)
   |(go_at_call 123;refine(hsg _ (Z4J (hS.ext hE3) hok)).mono ?_;rintro e w3 ⟨B,p,rfl,hE4,hC,_,_⟩;have hE5:=hE3.trans hE4)
   |(go_at_call 125;refine(hpk B p _ (hm.ext hE5) hC (hd.ext hE5)).mono ?_;rintro e w4 ⟨v,rfl,hv,hE6⟩))
  go_ret2
  exact⟨v,rfl,by rw[Z7L,hlen];exact hv.le hE5.size,hE5.trans hE6⟩
 ·rw[if_neg hc0]
  have hx:(ZC r0 r1 r2 r3 S !=0)=true:=by simpa using hc0
  clear hc0
  generalize ZC r0 r1 r2 r3 S=x at hx hck2⊢
  go_enter func66,ntmps66
  go_wp2_with (first
   |(go_at_call 62;refine hck2.mono ?_;rintro e w2 ⟨rfl,hE2⟩;have hE3:=hE1.trans hE2))
  go_ret2
  exact⟨_,rfl,World.ownsRow_nil _ _ _ _,hE3⟩
theorem Zat(r0 r1 r2 r3:Int)(base:Option Addr)(n cap:Nat)(S:List Rs)(w:World)(hlen:S.length=n)(hS:RawS w base S)(hm:Most w)(hd:Deb w):
 Calls prog 68 #[.agg #[.int .i64 r0,.int .i64 r1,.int .i64 r2,.int .i64 r3,.slice base n cap]] w fun e w'=>∃v,e= .returned (.tuple #[v,.int .i64 (ZC r0 r1 r2 r3 S)])∧OwnI w.heap.size w' v (if ZC r0 r1 r2 r3 S=0 then Z7M r0 r1 r2 r3 S else[])∧Ext w w':=by
 have hck:=Z0U r0 r1 r2 r3 base n cap S
 simp only[Zh] at hck
 have hb:(w.alloc (.cells #[.int .i64 r0,.int .i64 r1,.int .i64 r2,.int .i64 r3,.slice base n cap] 70)).heap[w.heap.size]? =some (.cells #[.int .i64 r0,.int .i64 r1,.int .i64 r2,.int .i64 r3,.slice base n cap] 70):=by rw[Z3,if_pos rfl]
 have hE1:Ext w _:=(Ext.rfl' w).alloc (.cells #[.int .i64 r0,.int .i64 r1,.int .i64 r2,.int .i64 r3,.slice base n cap] 70)
 have hck2:=hck _ hlen (hS.ext hE1)
 clear hck
 by_cases hc0:ZC r0 r1 r2 r3 S=0
 ·obtain⟨_,h8,hok⟩:=Z0i hc0
  rw[if_pos hc0]
  rw[hc0] at hck2⊢
  clear hc0
  have hlen2:(S.map Ze).length=n:=by rw[List.length_map,hlen]
  have hn8:n≤8:=by omega
  have hsg:=fun w hS=>Z2c r0 r1 r2 r3 base cap w (S.map Ze) n hlen2 hn8 hS
  have hpk:=fun B p w hm hC hd=>Z7K r0 r1 r2 r3 base cap B n p (cvS r0 r1 r2 r3 (S.map Ze)) hn8 true 128 (fun a b=>decide (b<a)) w hm hC hd (fun args w=>by simp[go_sem]) Zc0
  simp only[Zh] at hsg
  go_enter func68,ntmps68
  go_wp2_with (first
   |(go_at_call 62;refine hck2.mono ?_;rintro e w2 ⟨rfl,hE2⟩;have hE3:=hE1.trans hE2;have hb2:=hE2.get hb;have q0:=Z0 hb2 0;have q1:=Z0 hb2 1;have q2:=Z0 hb2 2;have q3:=Z0 hb2 3;have q4:=Z0 hb2 4;simp only[List.getElem?_toArray,List.getElem?_cons_zero,List.getElem?_cons_succ] at q0 q1 q2 q3 q4)
   |(go_at_call 123;refine(hsg _ (Z4J (hS.ext hE3) hok)).mono ?_;rintro e w3 ⟨B,p,rfl,hE4,hC,_,_⟩;have hE5:=hE3.trans hE4)
   |(go_at_call 125;refine(hpk B p _ (hm.ext hE5) hC (hd.ext hE5)).mono ?_;rintro e w4 ⟨v,rfl,hv,hE6⟩))
  go_ret2
  exact⟨v,rfl,by rw[Z7M,hlen];exact hv.le hE5.size,hE5.trans hE6⟩
 ·rw[if_neg hc0]
  have hx:(ZC r0 r1 r2 r3 S !=0)=true:=by simpa using hc0
  clear hc0
  generalize ZC r0 r1 r2 r3 S=x at hx hck2⊢
  go_enter func68,ntmps68
  go_wp2_with (first
   |(go_at_call 62;refine hck2.mono ?_;rintro e w2 ⟨rfl,hE2⟩;have hE3:=hE1.trans hE2))
  go_ret2
  exact⟨_,rfl,World.ownsRow_nil _ _ _ _,hE3⟩
theorem ZhY(r0 r1 r2 r3:Int)(base:Option Addr)(n cap:Nat)(S:List Rs)(w:World)(hlen:S.length=n)(hS:RawS w base S)(hm:Most w):
 Calls prog 64 #[.agg #[.int .i64 r0,.int .i64 r1,.int .i64 r2,.int .i64 r3,.slice base n cap]] w fun e w'=>e= .returned (.tuple #[.bool (ZC r0 r1 r2 r3 S==0&&Zz (cvS r0 r1 r2 r3 (S.map Ze)) (2 ^ n - 1) n),.int .i64 (ZC r0 r1 r2 r3 S)])∧Ext w w':=by
 have hck:=Z0U r0 r1 r2 r3 base n cap S
 simp only[Zh] at hck
 have hb:(w.alloc (.cells #[.int .i64 r0,.int .i64 r1,.int .i64 r2,.int .i64 r3,.slice base n cap] 70)).heap[w.heap.size]? =some (.cells #[.int .i64 r0,.int .i64 r1,.int .i64 r2,.int .i64 r3,.slice base n cap] 70):=by rw[Z3,if_pos rfl]
 have hE1:Ext w _:=(Ext.rfl' w).alloc (.cells #[.int .i64 r0,.int .i64 r1,.int .i64 r2,.int .i64 r3,.slice base n cap] 70)
 have hck2:=hck _ hlen (hS.ext hE1)
 clear hck
 by_cases hc0:ZC r0 r1 r2 r3 S=0
 ·obtain⟨_,h8,hok⟩:=Z0i hc0
  rw[hc0] at hck2⊢
  clear hc0
  have hlen2:(S.map Ze).length=n:=by rw[List.length_map,hlen]
  have hn8:n≤8:=by omega
  have hsg:=fun w hS=>Z2c r0 r1 r2 r3 base cap w (S.map Ze) n hlen2 hn8 hS
  have hpow:=Z2Z hn8
  have hfit:=fun B p w hm hC=>Z7j r0 r1 r2 r3 (.slice base n cap) B n (2 ^ n - 1) p (cvS r0 r1 r2 r3 (S.map Ze)) hn8 hpow w hm hC
  have hev:=fun v w=>Z08 r0 r1 r2 r3 base n cap v hn8 w
  simp only[Zh] at hsg
  go_enter func64,ntmps64
  go_wp2_with (first
   |(go_at_call 62;refine hck2.mono ?_;rintro e w2 ⟨rfl,hE2⟩;have hE3:=hE1.trans hE2;have hb2:=hE2.get hb;have q0:=Z0 hb2 0;have q1:=Z0 hb2 1;have q2:=Z0 hb2 2;have q3:=Z0 hb2 3;have q4:=Z0 hb2 4;simp only[List.getElem?_toArray,List.getElem?_cons_zero,List.getElem?_cons_succ] at q0 q1 q2 q3 q4)
   |(go_at_call 123;refine(hsg _ (Z4J (hS.ext hE3) hok)).mono ?_;rintro e w3 ⟨B,p,rfl,hE4,hC,_,_⟩;have hE5:=hE3.trans hE4))
  have hEA:=hE5.alloc (.cells #[.int .i64 r0,.int .i64 r1,.int .i64 r2,.int .i64 r3,.slice base n cap,.slice (some ⟨B,0,none⟩) n n] 146)
  have hXA:=(Z3 w3 (.cells #[.int .i64 r0,.int .i64 r1,.int .i64 r2,.int .i64 r3,.slice base n cap,.slice (some ⟨B,0,none⟩) n n] 146) _).trans (if_pos rfl)
  have hCA:=hC.ext ((Ext.rfl' w3).alloc (.cells #[.int .i64 r0,.int .i64 r1,.int .i64 r2,.int .i64 r3,.slice base n cap,.slice (some ⟨B,0,none⟩) n n] 146))
  clear hC q0 q1 q2 q3 q4 hb2
  generalize World.alloc w3 _=w4 at hEA hXA hCA⊢
  have hmA:=hm.ext hEA
  have y0:=Z0 hXA 0;have y1:=Z0 hXA 1;have y2:=Z0 hXA 2;have y3:=Z0 hXA 3;have y4:=Z0 hXA 4;have y5:=Z0 hXA 5
  simp only[List.getElem?_toArray,List.getElem?_cons_zero,List.getElem?_cons_succ] at y0 y1 y2 y3 y4 y5
  go_region_with (
   first|(go_at_call 106;refine(hev _ _).mono ?_;rintro e w5 ⟨rfl,hE6⟩;have hE7:=(Ext.rfl' w4).drew.trans hE6;have x0:=hE7.cellS y0;have x1:=hE7.cellS y1;have x2:=hE7.cellS y2;have x3:=hE7.cellS y3;have x4:=hE7.cellS y4;have x5:=hE7.cellS y5)|(go_at_call 124;refine(hfit _ _ _ (hmA.ext hE7) (hCA.ext hE7)).mono ?_;rintro e w6 ⟨rfl,hE8⟩))
  all_goals
   go_wp2
   go_ret2
   exact⟨by rw[show((0:Int)==0)=true from rfl,Bool.true_and];rfl,(hEA.trans hE7).trans hE8⟩
 ·have hx:(ZC r0 r1 r2 r3 S !=0)=true:=by simpa using hc0
  have hx2:(ZC r0 r1 r2 r3 S==0)=false:=by simpa using hc0
  rw[hx2]
  clear hc0 hx2
  generalize ZC r0 r1 r2 r3 S=x at hx hck2⊢
  go_enter func64,ntmps64
  go_wp2_with (first
   |(go_at_call 62;refine hck2.mono ?_;rintro e w2 ⟨rfl,hE2⟩;have hE3:=hE1.trans hE2))
  go_ret2
  exact⟨rfl,hE3⟩
def Z1e(r0 r1 r2 r3:Int)(S:List Rs)(k:Int):Int:=firstV [ZC r0 r1 r2 r3 S,Z6r S.length k]
def Z68(r2 r3:Int)(s:Rs):Int×Int:=(lo s.m s.wi s.li r2 r3,hi s.M s.wi s.li r2 r3)
def Zau(r0 r1 r2 r3:Int)(S:List Rs)(k:Int):Int×Int:=if Z1e r0 r1 r2 r3 S k=0 then(match S[k.toNat]? with|some s=>Z68 r2 r3 s|none=>(0,0)) else(0,0)
theorem Z69(r0 r1 r2 r3:Int)(base:Option Addr)(n cap:Nat)(S:List Rs)(k:Int)(w:World)(hlen:S.length=n)(hn20:n≤20)(hS:RawS w base S):
 Calls prog 49 #[.agg #[.int .i64 r0,.int .i64 r1,.int .i64 r2,.int .i64 r3,.slice base n cap],.int .i64 k] w fun e w'=>e= .returned (.tuple #[.agg #[.int .i64 (Zau r0 r1 r2 r3 S k).1,.int .i64 (Zau r0 r1 r2 r3 S k).2],.int .i64 (Z1e r0 r1 r2 r3 S k)])∧Ext w w':=by
 have hE4:Ext w ((((w.alloc (.cells #[.int .i64 r0,.int .i64 r1,.int .i64 r2,.int .i64 r3,.slice base n cap] 70)).alloc (.cells #[.int .i64 k] 3)).alloc (.cells #[.int .i64 0,.int .i64 0] 48)).alloc (.cells #[.func (.func 107) #[] #[.pointer (some ⟨w.heap.size,0,none⟩)],.func (.func 108) #[] #[.pointer (some ⟨w.heap.size+1,0,none⟩),.pointer (some ⟨w.heap.size,0,none⟩)]] 127)):=((((Ext.rfl' w).alloc _).alloc _).alloc _).alloc _
 have hb:((((w.alloc (.cells #[.int .i64 r0,.int .i64 r1,.int .i64 r2,.int .i64 r3,.slice base n cap] 70)).alloc (.cells #[.int .i64 k] 3)).alloc (.cells #[.int .i64 0,.int .i64 0] 48)).alloc (.cells #[.func (.func 107) #[] #[.pointer (some ⟨w.heap.size,0,none⟩)],.func (.func 108) #[] #[.pointer (some ⟨w.heap.size+1,0,none⟩),.pointer (some ⟨w.heap.size,0,none⟩)]] 127)).heap[w.heap.size]? =some (.cells #[.int .i64 r0,.int .i64 r1,.int .i64 r2,.int .i64 r3,.slice base n cap] 70):=by
  simp only[Z3,Z2];rw[if_neg (by omega),if_neg (by omega),if_neg (by omega),if_pos trivial]
 have hk:((((w.alloc (.cells #[.int .i64 r0,.int .i64 r1,.int .i64 r2,.int .i64 r3,.slice base n cap] 70)).alloc (.cells #[.int .i64 k] 3)).alloc (.cells #[.int .i64 0,.int .i64 0] 48)).alloc (.cells #[.func (.func 107) #[] #[.pointer (some ⟨w.heap.size,0,none⟩)],.func (.func 108) #[] #[.pointer (some ⟨w.heap.size+1,0,none⟩),.pointer (some ⟨w.heap.size,0,none⟩)]] 127)).heap[w.heap.size+1]? =some (.cells #[.int .i64 k] 3):=by
  simp only[Z3,Z2];rw[if_neg (by omega),if_neg (by omega),if_pos trivial]
 have hz:((((w.alloc (.cells #[.int .i64 r0,.int .i64 r1,.int .i64 r2,.int .i64 r3,.slice base n cap] 70)).alloc (.cells #[.int .i64 k] 3)).alloc (.cells #[.int .i64 0,.int .i64 0] 48)).alloc (.cells #[.func (.func 107) #[] #[.pointer (some ⟨w.heap.size,0,none⟩)],.func (.func 108) #[] #[.pointer (some ⟨w.heap.size+1,0,none⟩),.pointer (some ⟨w.heap.size,0,none⟩)]] 127)).heap[w.heap.size+1+1]? =some (.cells #[.int .i64 0,.int .i64 0] 48):=by
  simp only[Z3,Z2];rw[if_neg (by omega),if_pos trivial]
 have hf:((((w.alloc (.cells #[.int .i64 r0,.int .i64 r1,.int .i64 r2,.int .i64 r3,.slice base n cap] 70)).alloc (.cells #[.int .i64 k] 3)).alloc (.cells #[.int .i64 0,.int .i64 0] 48)).alloc (.cells #[.func (.func 107) #[] #[.pointer (some ⟨w.heap.size,0,none⟩)],.func (.func 108) #[] #[.pointer (some ⟨w.heap.size+1,0,none⟩),.pointer (some ⟨w.heap.size,0,none⟩)]] 127)).heap[w.heap.size+1+1+1]? =some (.cells #[.func (.func 107) #[] #[.pointer (some ⟨w.heap.size,0,none⟩)],.func (.func 108) #[] #[.pointer (some ⟨w.heap.size+1,0,none⟩),.pointer (some ⟨w.heap.size,0,none⟩)]] 127):=by
  simp only[Z3,Z2];rw[if_pos trivial]
 have hfirst:=fun w4 (hE4:Ext w w4)(hb:w4.heap[w.heap.size]? =some (.cells #[.int .i64 r0,.int .i64 r1,.int .i64 r2,.int .i64 r3,.slice base n cap] 70))(hk:w4.heap[w.heap.size+1]? =some (.cells #[.int .i64 k] 3))(hf:w4.heap[w.heap.size+1+1+1]? =some (.cells #[.func (.func 107) #[] #[.pointer (some ⟨w.heap.size,0,none⟩)],.func (.func 108) #[] #[.pointer (some ⟨w.heap.size+1,0,none⟩),.pointer (some ⟨w.heap.size,0,none⟩)]] 127))=>
  Z1S (w.heap.size+1+1+1) 2 2 (fun i=>if i=0 then 107 else 108) (fun i=> #[]) (fun i=>if i=0 then #[.pointer (some ⟨w.heap.size,0,none⟩)] else #[.pointer (some ⟨w.heap.size+1,0,none⟩),.pointer (some ⟨w.heap.size,0,none⟩)]) [ZC r0 r1 r2 r3 S,Z6r n k] rfl (by omega) w4 (by
   intro i hi
   rw[Z0 hf]
   obtain rfl|rfl:i=0∨i=1:=by omega
   ·rfl
   ·rfl) (by
   intro i hi args w'
   obtain rfl|rfl:i=0∨i=1:=by omega
   ·simp[go_sem]
   ·simp[go_sem]) (by
   intro i x hx w' hE'
   match i,hx with
   |0,hx=>
    obtain rfl:=Option.some.inj hx
    exact ZcT r0 r1 r2 r3 base n cap S w' hlen (hS.ext (hE4.trans hE')) _ (hE'.get hb)
   |1,hx=>
    obtain rfl:=Option.some.inj hx
    exact ZcV r0 r1 r2 r3 base n cap hn20 w' _ (hE'.get hb) _ k (hE'.cellS (by rw[Z0 hk];rfl)))
 have hfl:firstV [ZC r0 r1 r2 r3 S,Z6r n k]=Z1e r0 r1 r2 r3 S k:=by rw[Z1e,hlen]
 rw[hfl] at hfirst
 clear hfl
 have hw2:w.heap.size≤w.heap.size+1+1:=by omega
 have hf2:=hfirst _ hE4 hb hk hf
 clear hfirst hf
 by_cases hc0:Z1e r0 r1 r2 r3 S k=0
 ·have hin:0≤k∧k<n:=by
   have h2:=firstV_all hc0 (Z6r S.length k) (by simp)
   unfold Z6r at h2
   rw[hlen] at h2
   split at h2
   ·assumption
   ·omega
  obtain⟨sh,hsh⟩:∃sh,S[k.toNat]? =some sh:=⟨_,List.getElem?_eq_getElem (by omega)⟩
  rw[Zau,if_pos hc0,hsh]
  simp only
  rw[hc0] at hf2⊢
  clear hc0
  obtain⟨b,off,rfl,hbl,hat⟩:=hS _ _ hsh
  have hwd:=fun w hbl hat=>Z39 r0 r1 r2 r3 sh.a sh.m sh.M sh.wi sh.li k b off n cap w hin.1 (by omega) hbl hat
  simp only[Zg,Z83] at hwd
  go_enter func49,ntmps49
  go_wp2_with (first
   |(go_at_call 90;refine hf2.mono ?_;rintro e w5 ⟨rfl,hE5⟩;have hE6:=hE4.trans hE5;have hb5:=hE5.get hb;have hk5:=hE5.get hk;have hz5:=hE5.get hz;have q0:=Z0 hb5 0;have q1:=Z0 hb5 1;have q2:=Z0 hb5 2;have q3:=Z0 hb5 3;have q4:=Z0 hb5 4;have q5:=Z0 hk5 0;simp only[List.getElem?_toArray,List.getElem?_cons_zero,List.getElem?_cons_succ] at q0 q1 q2 q3 q4 q5;clear hb hk hz)
   |(go_at_call 111;refine(hwd _ (hE6.lt hbl) ⟨hE6.cellS hat.c0,hE6.cellS hat.c1,hE6.cellS hat.c2,hE6.cellS hat.c3,hE6.cellS hat.c4⟩).mono ?_;rintro e w6 ⟨rfl,hG⟩;have hE7:=hE6.trans hG.ext;have hz6:=hG.ext.get hz5;have p:=Zc hz6;have p0:=p.1;have p1:=p.2.1;have p2:=p.2.2.1;have p3:=p.2.2.2;clear p))
  have hh:=Zc (set_pair hz6 (.int .i64 (lo sh.m sh.wi sh.li r2 r3)) (.int .i64 (hi sh.M sh.wi sh.li r2 r3)))
  have hh0:=hh.1;have hh1:=hh.2.1
  refine bodyPost_ret (v:= .tuple #[.agg #[.int .i64 (lo sh.m sh.wi sh.li r2 r3),.int .i64 (hi sh.M sh.wi sh.li r2 r3)],.int .i64 0]) ((Z01 rfl _ _ _).trans ?_) rfl ⟨rfl,(hE7.setCell _ _ hw2).setCell _ _ hw2⟩
  simp[go_sem,hh0,hh1]
 ·have hx:(Z1e r0 r1 r2 r3 S k !=0)=true:=by simpa using hc0
  rw[Zau,if_neg hc0]
  clear hc0
  generalize Z1e r0 r1 r2 r3 S k=x at hx hf2⊢
  go_enter func49,ntmps49
  go_wp2_with (first
   |(go_at_call 90;refine hf2.mono ?_;rintro e w5 ⟨rfl,hE5⟩;have hE6:=hE4.trans hE5;have hz5:=hE5.get hz;have p:=Zc hz5;have p0:=p.1;have p1:=p.2.1;have p2:=p.2.2.1;have p3:=p.2.2.2;clear p hb hk hz))
  have hh:=Zc (set_pair hz5 (.int .i64 0) (.int .i64 0))
  have hh0:=hh.1;have hh1:=hh.2.1
  refine bodyPost_ret (v:= .tuple #[.agg #[.int .i64 0,.int .i64 0],.int .i64 x]) ((Z01 rfl _ _ _).trans ?_) rfl ⟨rfl,(hE6.setCell _ _ hw2).setCell _ _ hw2⟩
  simp[go_sem,hh0,hh1]
end Go.Proofs.Tryq
