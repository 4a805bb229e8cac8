import Derived.Test.YtedkbdkbbnemlaaGreatDoorNk10
import Derived.LaidMore
import Derived.LaidSub
import Derived.Lib.Hide
import Derived.Test.YtedkbdkbbnemlaaGreatDoorRows
set_option linter.all false
namespace Go.Proofs.Tryq
set_option maxRecDepth 100000
set_option maxHeartbeats 4000000
open Go Go.Nk Go.RowKit
open Go.Maps (Keyed)
structure Sf where
 nm:ByteArray
 a0:Int
 a1:Int
 b0:Int
 b1:Int
 c0:Int
 c1:Int
structure ShaftAt(w:World)(b off:Nat)(x:Sf):Prop where
 k0:w.cell? ⟨b,off,none⟩=some (.string x.nm)
 k1:w.cell? ⟨b,off+1,none⟩=some (.int .i64 x.a0)
 k2:w.cell? ⟨b,off+2,none⟩=some (.int .i64 x.a1)
 k3:w.cell? ⟨b,off+3,none⟩=some (.int .i64 x.b0)
 k4:w.cell? ⟨b,off+4,none⟩=some (.int .i64 x.b1)
 k5:w.cell? ⟨b,off+5,none⟩=some (.int .i64 x.c0)
 k6:w.cell? ⟨b,off+6,none⟩=some (.int .i64 x.c1)
def RawA(w:World)(base:Option Addr)(L:List Sf):Prop:=∀(i:Nat)(x:Sf),L[i]? =some x→∃b off,base=some ⟨b,off,none⟩∧b<w.heap.size∧ShaftAt w b (off+i*7) x∧x.nm.size≤maxLen
theorem ShaftAt.ext{w w':World}{b off:Nat}{x:Sf}(h:ShaftAt w b off x)(e:Ext w w'):ShaftAt w' b off x:=
 ⟨e.cellS h.k0,e.cellS h.k1,e.cellS h.k2,e.cellS h.k3,e.cellS h.k4,e.cellS h.k5,e.cellS h.k6⟩
theorem RawA.ext{w w':World}{base:Option Addr}{L:List Sf}(h:RawA w base L)(e:Ext w w'):RawA w' base L:=by
 intro i x hi
 obtain⟨b,off,h1,h2,h3,h4⟩:=h i x hi
 exact⟨b,off,h1,e.lt h2,h3.ext e,h4⟩
def sfC(x:Sf):Array Value:= #[.string x.nm,.int .i64 x.a0,.int .i64 x.a1,.int .i64 x.b0,.int .i64 x.b1,.int .i64 x.c0,.int .i64 x.c1]
def spA(x:Sf):Nat→Int×Int
 |0=>(x.a0,x.a1)
 |1=>(x.b0,x.b1)
 |_=>(x.c0,x.c1)
def ZF(p:Int×Int):Bool:=decide (0≤p.1∧p.1≤p.2∧p.2≤9999)
def Z8b(x:Sf):Bool:=ZF (spA x 0)&&ZF (spA x 1)&&ZF (spA x 2)
abbrev nmL(x:Sf):List UInt8:=x.nm.data.toList
def shA:List (List UInt8)→List Sf→Int
 |_,[]=>0
 |seen,x::t=>if Z2d x.nm=false then 4 else if nmL x∈seen then 5 else if Z8b x=false then 1 else shA (seen++[nmL x]) t
def Zj(L:List Sf):Int:=if 9<L.length then 2 else shA [] L
def gN(l:List (List UInt8)):Value→Option Value
 | .string s=>if s.data.toList∈l then some (.bool true) else none
 |_=>none
theorem gN_nil:gN []=fun _=>none:=by
 funext v
 cases v<;>simp[gN]
open Classical in
theorem Zd2(l:List (List UInt8))(s:ByteArray):(fun x=>if x=Value.string s then some (Value.bool true) else gN l x)=gN (l++[s.data.toList]):=by
 funext v
 cases v with
 |string t=>
  by_cases h:t=s
  ·subst h;simp[gN]
  ·have h2:¬t.data.toList=s.data.toList:=fun e=>h (by cases t;cases s;simp at e;subst e;rfl)
   simp[gN,h,h2]
 |_=>simp[gN]
theorem u175:prog.underlying 175=some (.map 9 4):=(underlying_eq 175).trans Tryz.underlying175
theorem keyed9:Keyed prog 9:=Go.Maps.string_keyed u9
theorem z4(w:World):(zeroValue 4).run prog w= .ok (.bool false) w:=(run_zeroValue 4 w).trans (Tryz.zeroValue4 w)
theorem Z0G{α:Type}{L:List α}{i:Nat}{x:α}(h:L[i]? =some x):L.take (i+1)=L.take i++[x]:=by
 rw[List.take_add_one,h];rfl
theorem Z0b{α:Type}{L:List α}{i:Nat}{x:α}(h:L[i]? =some x):L.drop i=x::L.drop (i+1):=by
 obtain⟨hi,he⟩:=List.getElem?_eq_some_iff.1 h
 rw[List.drop_eq_getElem_cons hi,he]
theorem Z6w(a b c m:Int)(base:Option Addr)(n cap:Nat)(L:List Sf)(w:World)(hlen:L.length=n)(hM:Meas w)(hS:RawA w base L):Calls prog 92 #[.agg #[.int .i64 a,.int .i64 b,.int .i64 c,.int .i64 m,.slice base n cap]] w fun e w'=>e= .returned (.int .i64 (Zj L))∧Ext w w':=by
 by_cases h9:9<L.length
 ·have H:Zj L=2:=by rw[Zj,if_pos h9]
  rw[H]
  clear H
  have hn9:(9:Int)<(n:Int):=by omega
  clear h9
  go_enter func92,ntmps92
  go_wp2
  go_ret
  exact⟨rfl,(Ext.rfl' w).alloc _⟩
 ·have H:Hid (Zj L=shA ((L.take 0).map nmL) (L.drop 0)):=by show Zj L=_;rw[Zj,if_neg h9];rfl
  have hn9:(n:Int)≤9:=by omega
  clear h9
  have hmm:= @run_makeMap prog
  go_enter func92,ntmps92
  go_wp2
  have hmp:=MapAt.made prog 9 (w.alloc (.cells #[.int .i64 a,.int .i64 b,.int .i64 c,.int .i64 m,.slice base n cap] 120))
  rw[←gN_nil,Z2] at hmp
  have hE0:=((Ext.rfl' w).alloc (.cells #[.int .i64 a,.int .i64 b,.int .i64 c,.int .i64 m,.slice base n cap] 120)).alloc (.map #[] 0)
  go_loopw [18] (fun v wr=>∃i:Nat,i≤n∧v= .int .i64 i∧wr.heap[w.heap.size]? =some (.cells #[.int .i64 a,.int .i64 b,.int .i64 c,.int .i64 m,.slice base n cap] 120)∧Ext w wr∧MapAt prog 9 wr (w.heap.size+1) (gN ((L.take i).map nmL))∧Hid (Zj L=shA ((L.take i).map nmL) (L.drop i))) (fun v _=>n - (intOf v).toNat)
  case atStart=>exact⟨0,Nat.zero_le _,rfl,by simp only[Z3,Z2];rw[if_neg (by omega),if_pos trivial],hE0,by simpa using hmp,H⟩
  case round=>
   obtain⟨i,hi,rfl,hr,hE,hmap,hH⟩:=hrel
   clear hmp hE0 H hmm
   by_cases hin:i=n
   ·subst hin
    have hz:Hid (Zj L=0):=by show Zj L=0;rw[hH.out,←hlen,List.drop_length];rfl
    clear hH
    go_wp2
    go_ret
    exact⟨ZK (a:=0) hz.out.symm,hE⟩
   ·have hlt:i<n:=by omega
    obtain⟨x,hx⟩:∃x,L[i]? =some x:=⟨_,List.getElem?_eq_getElem (by omega)⟩
    have hst:Hid (Zj L=if Z2d x.nm=false then 4 else if nmL x∈(L.take i).map nmL then 5 else if Z8b x=false then 1 else shA ((L.take (i+1)).map nmL) (L.drop (i+1))):=by
     show Zj L=_
     rw[hH.out,Z0b hx,shA,Z0G hx,List.map_append]
     rfl
    obtain⟨b',off,rfl,hb,⟨k0,k1,k2,k3,k4,k5,k6⟩,hnm⟩:=(hS.ext hE) i x hx
    have hM2:=hM.ext hE
    have hnc:=fun w=>Z8a x.nm w hnm
    have hk9:keyOf prog 9 (.string x.nm)=some _:=Go.WideMaps.keyOf_string_mk u9 hnm
    have hxa:∀w2,Ext (wr.alloc (.cells #[.string x.nm,.int .i64 x.a0,.int .i64 x.a1,.int .i64 x.b0,.int .i64 x.b1,.int .i64 x.c0,.int .i64 x.c1] 51)) w2→w2.heap[wr.heap.size]? =some (.cells #[.string x.nm,.int .i64 x.a0,.int .i64 x.a1,.int .i64 x.b0,.int .i64 x.b1,.int .i64 x.c0,.int .i64 x.c1] 51)∧Ext w w2∧w2.heap[w.heap.size]? =some (.cells #[.int .i64 a,.int .i64 b,.int .i64 c,.int .i64 m,.slice (some ⟨b',off,none⟩) n cap] 120)∧MapAt prog 9 w2 (w.heap.size+1) (gN ((L.take i).map nmL)):=fun w2 h=>
     ⟨h.get ((Z3 _ _ _).trans (if_pos rfl)),(hE.alloc _).trans h,h.get (((Ext.rfl' wr).alloc _).get hr),hmap.keep (((Ext.rfl' wr).alloc _ |>.trans h).old _ hmap.lt)⟩
    cases hnb:Z2d x.nm
    ·have hres:Hid (Zj L=4):=by show Zj L=4;rw[hst.out,if_pos hnb]
     rw[hnb] at hnc
     clear hnb hst hH hx
     go_wp2_with (first
      |(go_at_call 138;refine(hnc _).mono ?_;rintro e w2 ⟨rfl,hE2⟩;obtain⟨hx1,hx2,_,_⟩:=hxa _ hE2))
     go_ret
     exact⟨ZK (a:=4) hres.out.symm,hx2⟩
    ·rw[hnb] at hnc
     by_cases hseen:nmL x∈(L.take i).map nmL
     ·have hres:Hid (Zj L=5):=by show Zj L=5;rw[hst.out,if_neg (by rw[hnb];simp),if_pos hseen]
      have hg:gN ((L.take i).map nmL) (.string x.nm)=some (.bool true):=by simp only[gN];rw[if_pos hseen]
      clear hnb hst hH hx hseen
      go_wp2_with (first
       |(go_at_call 138;refine(hnc _).mono ?_;rintro e w2 ⟨rfl,hE2⟩;obtain⟨hx1,hx2,_,hx4⟩:=hxa _ hE2;have hlk:=hx4.lookup keyed9 u175 (z4 w2) hk9 false;rw[hg] at hlk;have y0:=Z0 hx1 0;simp only[List.getElem?_toArray,List.getElem?_cons_zero] at y0;clear hx4 hg))
      go_ret
      exact⟨ZK (a:=5) hres.out.symm,hx2⟩
     ·have hres:Hid (Zj L=if Z8b x=false then 1 else shA ((L.take (i+1)).map nmL) (L.drop (i+1))):=by show Zj L=_;rw[hst.out,if_neg (by rw[hnb];simp),if_neg hseen]
      have hg:gN ((L.take i).map nmL) (.string x.nm)=none:=by simp only[gN];rw[if_neg hseen]
      have hT:Hid ((L.take (i+1)).map nmL=(L.take i).map nmL++[nmL x]):=by show _=_;rw[Z0G hx,List.map_append];rfl
      clear hnb hst hH hx hseen
      go_wp2_with (first
       |(go_at_call 138;refine(hnc _).mono ?_;rintro e w2 ⟨rfl,hE2⟩;obtain⟨hx1,hx2,hx3,hx4⟩:=hxa _ hE2;have hlk:=hx4.lookup keyed9 u175 (z4 w2) hk9 false;rw[hg] at hlk;obtain⟨o,hup,hmp2⟩:=hx4.update keyed9 u175 hk9 (.bool true);rw[Zd2,←hT.out] at hmp2
         have hne:wr.heap.size≠w.heap.size+1:=by have:=hmap.lt;omega
         have hV1:=(Z0O (w:=w2) hne o).trans hx1
         have hV2:Ext w (Go.ChangeMaps.setBlock w2 (w.heap.size+1) o):=hx2.setBlock _ o (by omega)
         have hV3:=(Z0O (w:=w2) (c:=w.heap.size) (b:=w.heap.size+1) (by omega) o).trans hx3
         have y0:=Z0 hx1 0;simp only[List.getElem?_toArray,List.getElem?_cons_zero] at y0
         clear hx4 hg hx1 hx2 hx3 hne
         generalize Go.ChangeMaps.setBlock w2 (w.heap.size+1) o=V at hup hmp2 hV1 hV2 hV3
         have hMV:=hM.ext hV2
         have g0:=hMV 0 (by omega);have g1:=hMV 1 (by omega);have g2:=hMV 2 (by omega);have g3:=hMV 3 (by omega);have g4:=hMV 4 (by omega);have g5:=hMV 5 (by omega)
         simp only[Nat.reduceAdd] at g0 g1 g2 g3 g4 g5))
      have hlV:=Z5 hV1
      clear hup hlk y0 g0 g1 g2 g3 g4 g5 hMV hnc hxa hE2 hE hmap hM2 k0 k1 k2 k3 k4 k5 k6 hr hb
      obtain⟨wo,rfl⟩:∃wo:World,wo=wr:=⟨_,rfl⟩
      go_loopw [34] (fun v wi=>∃j:Nat,j≤3∧v= .int .i64 j∧Ext V wi∧Hid (∀j',j'<j→ZF (spA x j')=true)) (fun v _=>3 - (intOf v).toNat)
      case atStart=>exact⟨0,Nat.zero_le _,rfl,Ext.rfl' V,fun j' hj=>by omega⟩
      case round=>
       obtain⟨j,hj,rfl,hEi,hz⟩:=hrel
       have hBi:=hEi.get hV1
       have hRi:=hEi.get hV3
       have hli:=Z5 hBi
       by_cases hj3:j=3
       ·subst hj3
        have hok:Z8b x=true:=by rw[Z8b,hz.out 0 (by omega),hz.out 1 (by omega),hz.out 2 (by omega)];rfl
        have hres2:Hid (Zj L=shA ((L.take (i+1)).map nmL) (L.drop (i+1))):=by show Zj L=_;rw[hres.out,if_neg (by rw[hok];simp)]
        clear hok hz hres
        have hEW:=hV2.trans hEi
        have hmW:=hmp2.keep (hEi.old _ hmp2.lt)
        go_wp2
        go_roundw
        case rel=>exact⟨i+1,by omega,by push_cast;rfl,hRi,hEW,hmW,hres2⟩
        case measure=>simp[intOf];omega
       ·have hj2:j<3:=by omega
        have y1:=Z0 hBi 1;have y2:=Z0 hBi 2;have y3:=Z0 hBi 3;have y4:=Z0 hBi 4;have y5:=Z0 hBi 5;have y6:=Z0 hBi 6
        simp only[List.getElem?_toArray,List.getElem?_cons_zero,List.getElem?_cons_succ] at y1 y2 y3 y4 y5 y6
        have fin:∀k:Nat,(∀j',j'<k→ZF (spA x j')=true)→ZF (spA x k)=true→∀j',j'<k+1→ZF (spA x j')=true:=by
         intro k h1 h2 j' hj'
         rcases Nat.lt_succ_iff_lt_or_eq.1 hj' with h|rfl
         ·exact h1 j' h
         ·exact h2
        have bad:∀k:Nat,k<3→ZF (spA x k)=false→Zj L=1:=by
         intro k hk hb
         rw[hres.out,if_pos]
         unfold Z8b
         obtain rfl|rfl|rfl:k=0∨k=1∨k=2:=by omega
         all_goals (rw[hb];simp)
        replace fin:=Lib.hid fin
        replace bad:=Lib.hid bad
        obtain rfl|rfl|rfl:j=0∨j=1∨j=2:=by omega
        all_goals
         have hi0:=Z7l;have hi1:=Z7m;have hi2:=Z7n
         have hne1:wr.heap.size≠wo.heap.size:=by omega
         have hpp:∀(o:Obj)(i:Nat),(wr.alloc o).cell? ⟨wo.heap.size,i,none⟩=wr.cell? ⟨wo.heap.size,i,none⟩:=fun o i=>World.cell?_alloc_lt _ _ _ hli
         go_wp2_with (first
          |(go_at_call 211;refine(Z7o _ _ _).mono ?_;rintro e w2 ⟨rfl,hw2⟩;subst hw2)
          |(go_at_call 213;refine(Z7p _ _ _).mono ?_;rintro e w2 ⟨rfl,hw2⟩;subst hw2)
          |(go_at_call 215;refine(Z7q _ _ _).mono ?_;rintro e w2 ⟨rfl,hw2⟩;subst hw2)
          |(go_at_call 129;refine(Z84 _ _ _ _ _).mono ?_;rintro e w3 ⟨rfl,hE3⟩))
         all_goals have hEj:=(hEi.alloc _).trans hE3
         ·rename_i hb
          simp at hb
          go_ret
          have hsh:Zj L=1:=by
           first
            |exact bad.out 0 (by omega) (by simp only[ZF,spA];simp;omega)
            |exact bad.out 1 (by omega) (by simp only[ZF,spA];simp;omega)
            |exact bad.out 2 (by omega) (by simp only[ZF,spA];simp;omega)
          exact⟨ZK (a:=1) hsh.symm,hV2.trans hEj⟩
         ·rename_i hb
          simp at hb
          go_roundw
          case rel=>
           first
            |exact⟨1,by omega,rfl,hEj,fin.out 0 hz.out (by simp only[ZF,spA];simp;omega)⟩
            |exact⟨2,by omega,rfl,hEj,fin.out 1 hz.out (by simp only[ZF,spA];simp;omega)⟩
            |exact⟨3,by omega,rfl,hEj,fin.out 2 hz.out (by simp only[ZF,spA];simp;omega)⟩
          case measure=>simp[intOf]
end Go.Proofs.Tryq
namespace Go.Proofs.Tryq
set_option maxRecDepth 100000
set_option maxHeartbeats 2000000
open Go Go.Nk Go.RowKit
def Zp(a b c m:Int)(L:List Sf):Int:=firstV [Z2J a b c m,Zj L]
theorem Z24(a b c m:Int)(base:Option Addr)(n cap:Nat)(L:List Sf)(w:World)(hlen:L.length=n)(hM:Meas w)(hS:RawA w base L):
 Calls prog 25 #[.agg #[.int .i64 a,.int .i64 b,.int .i64 c,.int .i64 m,.slice base n cap]] w fun e w'=>e= .returned (.int .i64 (Zp a b c m L))∧Ext w w':=by
 go_enter func25,ntmps25
 go_wp2_with (
  go_at_call 90
  have hE:Ext w _:=(((Ext.rfl' w).alloc (.cells #[.int .i64 a,.int .i64 b,.int .i64 c,.int .i64 m,.slice base n cap] 26)).alloc (.cells #[.int .i64 a,.int .i64 b,.int .i64 c,.int .i64 m,.slice base n cap] 120)).alloc (.cells #[.func (.func 91) #[.agg #[.int .i64 a,.int .i64 b,.int .i64 c,.int .i64 m,.slice base n cap]] #[],.func (.func 92) #[.agg #[.int .i64 a,.int .i64 b,.int .i64 c,.int .i64 m,.slice base n cap]] #[]] 127)
  have hb:=Z3 ((w.alloc (.cells #[.int .i64 a,.int .i64 b,.int .i64 c,.int .i64 m,.slice base n cap] 26)).alloc (.cells #[.int .i64 a,.int .i64 b,.int .i64 c,.int .i64 m,.slice base n cap] 120)) (.cells #[.func (.func 91) #[.agg #[.int .i64 a,.int .i64 b,.int .i64 c,.int .i64 m,.slice base n cap]] #[],.func (.func 92) #[.agg #[.int .i64 a,.int .i64 b,.int .i64 c,.int .i64 m,.slice base n cap]] #[]] 127) (w.heap.size+1+1)
  rw[if_pos (by simp only[Z2])] at hb
  generalize World.alloc _ _=w1 at hE hb⊢
  refine(Z1S (w.heap.size+1+1) 2 2 (fun i=>if i=0 then 91 else 92) (fun i=> #[.agg #[.int .i64 a,.int .i64 b,.int .i64 c,.int .i64 m,.slice base n cap]]) (fun i=> #[]) [Z2J a b c m,Zj L] rfl (by omega) w1 ?_ ?_ ?_).mono ?_
  ·intro i hi
   rw[Z0 hb]
   obtain rfl|rfl:i=0∨i=1:=by omega
   ·rfl
   ·rfl
  ·intro i hi args w'
   obtain rfl|rfl:i=0∨i=1:=by omega
   ·simp[go_sem]
   ·simp[go_sem]
  ·intro i x hx w' hE'
   match i,hx with
   |0,hx=>
    obtain rfl:=Option.some.inj hx
    exact Z9w a b c m base n cap w' (hM.ext (hE.trans hE'))
   |1,hx=>
    obtain rfl:=Option.some.inj hx
    exact Z6w a b c m base n cap L w' hlen (hM.ext (hE.trans hE')) (hS.ext (hE.trans hE'))
  rintro e w2 ⟨rfl,hE2⟩)
 go_ret
 exact⟨rfl,hE.trans hE2⟩
def RawI(w:World)(base:Option Addr)(l:List Int):Prop:=∀(i:Nat)(x:Int),l[i]? =some x→∃b off,base=some ⟨b,off,none⟩∧b<w.heap.size∧w.cell? ⟨b,off+i,none⟩=some (.int .i64 x)
theorem RawI.ext{w w':World}{base:Option Addr}{l:List Int}(h:RawI w base l)(e:Ext w w'):RawI w' base l:=by
 intro i x hi
 obtain⟨b,off,h1,h2,h3⟩:=h i x hi
 exact⟨b,off,h1,e.lt h2,e.cellS h3⟩
def Z1k(n:Nat):Option Int→List Int→Int
 |_,[]=>0
 |p,x::t=>if¬(0≤x∧x≤(n:Int) - 1) then 6 else if(match p with|some y=>decide (x≤y)|none=>false) then 7 else Z1k n (some x) t
def Zq(n:Nat)(l:List Int):Int:=Z1k n none l
def Z12(l:List Int)(i:Nat):Option Int:=match i with
 |0=>none
 |i+1=>l[i]?
theorem Z9y(a b c m:Int)(base:Option Addr)(n cap:Nat)(bl:Option Addr)(k cl:Nat)(l:List Int)(w:World)(hn:n≤20)(hk:l.length=k)(hk2:k≤100)(hl:RawI w bl l):
 Calls prog 135 #[.agg #[.int .i64 a,.int .i64 b,.int .i64 c,.int .i64 m,.slice base n cap],.slice bl k cl] w fun e w'=>e= .returned (.int .i64 (Zq n l))∧Ext w w':=by
 have hn1:wrap64 ((n:Int) - 1)=(n:Int) - 1:=by unfold wrap64;omega
 go_enter func135,ntmps135
 go_wp2
 go_loopw [9] (fun v wr=>∃i:Nat,i≤k∧v= .int .i64 i∧wr.heap[w.heap.size]? =some (.cells #[.int .i64 a,.int .i64 b,.int .i64 c,.int .i64 m,.slice base n cap] 120)∧Ext w wr∧Hid (Zq n l=Z1k n (Z12 l i) (l.drop i))) (fun v _=>k - (intOf v).toNat)
 case atStart=>exact⟨0,Nat.zero_le _,rfl,by rw[Z3,if_pos rfl],(Ext.rfl' w).alloc _,rfl⟩
 case round=>
  obtain⟨i,hi,rfl,hr,hE,hH⟩:=hrel
  have q0:=Z0 hr 0;have q1:=Z0 hr 1;have q2:=Z0 hr 2;have q3:=Z0 hr 3;have q4:=Z0 hr 4
  simp only[List.getElem?_toArray,List.getElem?_cons_zero,List.getElem?_cons_succ] at q0 q1 q2 q3 q4
  by_cases hin:i=k
  ·subst hin
   have hz:Hid (Zq n l=0):=by show Zq n l=0;rw[hH.out,←hk,List.drop_length];rfl
   go_wp2
   go_ret
   exact⟨ZK (a:=0) hz.out.symm,hE⟩
  ·have hlt:i<k:=by omega
   obtain⟨x,hx⟩:∃x,l[i]? =some x:=⟨_,List.getElem?_eq_getElem (by omega)⟩
   have hst:Hid (Zq n l=if¬(0≤x∧x≤(n:Int) - 1) then 6 else if(match Z12 l i with|some y=>decide (x≤y)|none=>false) then 7 else Z1k n (Z12 l (i+1)) (l.drop (i+1))):=by
    show Zq n l=_
    rw[hH.out,Z0b hx]
    have e1:Z12 l (i+1)=some x:=hx
    rw[e1]
    conv=>lhs;unfold Z1k
   have hl2:=hl.ext hE
   obtain⟨b',off,rfl,hb,hc⟩:=hl2 i x hx
   have hbt:=fun w=>Z09 x 0 ((n:Int) - 1) w
   cases hbx:decide (0≤x∧x≤(n:Int) - 1)
   ·rw[hbx] at hbt
    have hres:Hid (Zq n l=6):=by show Zq n l=6;rw[hst.out,if_pos (of_decide_eq_false hbx)]
    clear hst hH hx hbx
    go_wp2_with (first|(go_at_call 110;refine(hbt _).mono ?_;rintro e wr ⟨rfl,rfl⟩))
    go_ret
    exact⟨ZK (a:=6) hres.out.symm,hE⟩
   ·rw[hbx] at hbt
    have hres:Hid (Zq n l=if(match Z12 l i with|some y=>decide (x≤y)|none=>false) then 7 else Z1k n (Z12 l (i+1)) (l.drop (i+1))):=by show Zq n l=_;rw[hst.out,if_neg (by simpa using of_decide_eq_true hbx)]
    clear hst hH hbx
    cases i with
    |zero=>
     have hres2:Hid (Zq n l=Z1k n (Z12 l (0+1)) (l.drop (0+1))):=by show Zq n l=_;rw[hres.out];simp[Z12]
     clear hx hres
     replace hc:wr.cell? ⟨b',off,none⟩=some (.int .i64 x):=hc
     go_wp2_with (first|(go_at_call 110;refine(hbt _).mono ?_;rintro e wr ⟨rfl,rfl⟩))
     go_roundw
     case rel=>exact⟨1,by omega,rfl,hr,hE,hres2⟩
     case measure=>simp[intOf];omega
    |succ j=>
     obtain⟨y,hy⟩:∃y,l[j]? =some y:=⟨_,List.getElem?_eq_getElem (by omega)⟩
     obtain⟨b2,off2,he2,hb2,hc2⟩:=hl2 j y hy
     simp only[Option.some.injEq,Addr.mk.injEq,and_true] at he2
     obtain⟨rfl,rfl⟩:=he2
     have hres3:Hid (Zq n l=if decide (x≤y) then 7 else Z1k n (Z12 l (j+1+1)) (l.drop (j+1+1))):=by show Zq n l=_;rw[hres.out];simp only[Z12,hy]
     clear hres hx hy
     have hj0:(0:Int)<(j:Int)+1:=by omega
     by_cases hxy:x≤y
     ·have hres4:Hid (Zq n l=7):=by show Zq n l=7;rw[hres3.out,if_pos (decide_eq_true hxy)]
      clear hres3
      go_wp2_with (first|(go_at_call 110;refine(hbt _).mono ?_;rintro e wr ⟨rfl,rfl⟩))
      go_ret
      exact⟨ZK (a:=7) hres4.out.symm,hE⟩
     ·have hres4:Hid (Zq n l=Z1k n (Z12 l (j+1+1)) (l.drop (j+1+1))):=by show Zq n l=_;rw[hres3.out,if_neg (by simpa using hxy)]
      clear hres3
      go_wp2_with (first|(go_at_call 110;refine(hbt _).mono ?_;rintro e wr ⟨rfl,rfl⟩))
      go_roundw
      case rel=>exact⟨j+1+1,by omega,by push_cast;rfl,hr,hE,hres4⟩
      case measure=>simp[intOf];omega
end Go.Proofs.Tryq
section
namespace Go.Nk
open Go
theorem Z5B{P:Program}{w:World}:∀{l:List (String×DataW Unit)}{ps:List MemPlace},DataW.LaidVars P w l ps→∀{n:String}{d:DataW Unit},(n,d)∈l→
 ∃g t cs fuel p,P.globalNamed n=some g∧(P.globals[g]?).map (·.type)=some t∧w.var? P n=some cs∧DataW.trod (fun _=>()) P w 0 (fun _=>true) false fuel t cs.toList=some (d,p):=by
 intro l
 induction l with
 |nil=>intro ps _ n d h;cases h
 |cons a l ih=>
  obtain⟨n0,d0⟩:=a
  rintro ps ⟨g,t,cs,fuel,p,q,h1,h2,h3,h4,h5,_⟩ n d h
  rcases List.mem_cons.1 h with e|h
  ·cases e;exact⟨g,t,cs,fuel,p,h1,h2,h3,h4⟩
  ·exact ih h5 h
section
variable {H:Type} {enc:TypeId×Value→H} {P:Program} {w:World} {base:Nat} {spare:Nat→Bool} {held:Bool}
def Zd3{H:Type}(o:Nat)(u:TypeId)(k:IntKind)(v:Int)(y:Nat×TypeId×DataW H):Bool:=y.1==o&&y.2.1==u&&(match y.2.2 with| .lit (.int k' m)=>decide (k'=k)&&decide (m=v)|_=>false)
theorem Z3y{n:Nat}{t u:TypeId}{k:IntKind}{o:Nat}{v:Int}{d:DataW H}{cs:List Value}(hcs:cs.length≤P.cellsOf t)(h:∃m p,DataW.trod enc P w base spare held m t cs=some (d,p))(hm:(Z27 P n t 0 d).any (Zd3 o u k v)=true)(hu:P.underlying u=some (.int k)):cs[o]? =some (.int k v):=by
 obtain⟨y,hy,he⟩:=List.any_eq_true.1 hm
 obtain⟨m,p,hx⟩:=Z3W cs n t 0 d (by rw[List.drop_zero,List.take_of_length_le hcs];exact h) y hy
 obtain⟨a,b,c⟩:=y
 simp only[Zd3,Bool.and_eq_true,beq_iff_eq] at he
 obtain⟨⟨rfl,rfl⟩,he⟩:=he
 obtain⟨z,h1,h2,_⟩:=DataW.trod_int hu hx
 simp only[Prod.mk.injEq] at h2
 have h3:=h2.1
 subst h3
 simp only[Bool.and_eq_true,decide_eq_true_eq] at he
 rw[←he.2]
 exact Z1Q h1
def isFn{H:Type}[BEq H](o:Nat)(u:TypeId)(b:H)(y:Nat×TypeId×DataW H):Bool:=y.1==o&&y.2.1==u&&(match y.2.2 with| .held x=>x==b|_=>false)
theorem Z1U{n:Nat}{t u:TypeId}{o:Nat}{b:UInt8}{r:List UInt8}{f0:FuncId}{pt rt:Array TypeId}{va:Bool}{d:DataW (List UInt8)}{cs:List Value}(hcs:cs.length≤P.cellsOf t)(h:∃m p,DataW.trod (funcToken P) P w base spare true m t cs=some (d,p))(hm:(Z27 P n t 0 d).any (isFn o u (b::r))=true)
 (hu:P.underlying u=some (.func pt rt va))(hc:P.cellsOf u=1)(hone:((List.range P.funcs.size).filter fun f=>(P.funcs[f]?).any (·.name.toUTF8.data.toList==b::r))=[f0]):cs[o]? =some (.func (.func f0) #[] #[]):=by
 obtain⟨y,hy,he⟩:=List.any_eq_true.1 hm
 obtain⟨m,p,hx⟩:=Z3W cs n t 0 d (by rw[List.drop_zero,List.take_of_length_le hcs];exact h) y hy
 obtain⟨a,b',c⟩:=y
 simp only[isFn,Bool.and_eq_true,beq_iff_eq] at he
 obtain⟨⟨rfl,rfl⟩,he⟩:=he
 cases c<;>simp only[Bool.false_eq_true] at he
 rename_i x
 have he:=eq_of_beq he
 subst he
 rw[hc] at hx
 simp only at hx
 have hlen:((cs.drop a).take 1).length≤1:=by simp;omega
 match hz:(cs.drop a).take 1,hlen,hx with
 |[],_,hx=>cases m<;>simp[DataW.trod,hu] at hx
 |[v],_,hx=>
  obtain rfl:=func_of_trod hu hone hx
  exact Z1Q hz
end
end Go.Nk
namespace Go.Proofs.Tryq
open Go Go.Nk
open Go.Proofs.YtedkbdkbbnemlaaGreatDoor (Rows.laid_math_bits_deBruijn32tab Rows.laid_math_bits_deBruijn64tab Rows.laid_nock_arrow_most Rows.laid_nock_arrow_measures)
def laidL:List (String×DataW Unit):=[("math/bits.deBruijn32tab",Rows.laid_math_bits_deBruijn32tab),("math/bits.deBruijn64tab",Rows.laid_math_bits_deBruijn64tab),("nock/arrow.most",Rows.laid_nock_arrow_most),("nock/arrow.measures",Rows.laid_nock_arrow_measures)]
theorem under5:Tryz.prog.underlying 5=some (.int .u8):=by kernel_rfl
theorem under3:Tryz.prog.underlying 3=some (.int .i64):=by kernel_rfl
theorem Z6x{P:Program}{W:World}{n:String}{cs:Array Value}{H:Type}{enc:TypeId×Value→H}{d:DataW H}{fuel t:Nat}{p:List MemPlace}{spare:Nat→Bool}{held:Bool}{base:Nat}(h:DataW.trod enc P W base spare held fuel t cs.toList=some (d,p))
 (ht:(∃fs,P.underlying t=some (.struct fs))∨∃n e,P.underlying t=some (.array n e)):cs.toList.length≤P.cellsOf t:=by
 rcases ht with⟨fs,ht⟩|⟨n,e,ht⟩
 ·obtain⟨_,_,_,_,hl,_⟩:=DataW.trod_struct ht h
  exact Nat.le_of_eq hl
 ·obtain⟨_,_,_,_,hl,_⟩:=DataW.trod_array ht h
  exact Nat.le_of_eq hl
def isS(P:Program)(t:TypeId):Bool:=match P.underlying t with|some (.struct _)=>true|_=>false
def isA(P:Program)(t:TypeId):Bool:=match P.underlying t with|some (.array _ _)=>true|_=>false
def isF(P:Program)(t:TypeId):Bool:=match P.underlying t with|some (.func _ _ _)=>true|_=>false
theorem Z9z{P:Program}{t:TypeId}(h:isF P t=true):∃a b c,P.underlying t=some (.func a b c):=by
 unfold isF at h
 split at h
 ·exact⟨_,_,_,by assumption⟩
 ·cases h
theorem Z3z{P:Program}{t:TypeId}(h:isS P t=true):∃fs,P.underlying t=some (.struct fs):=by
 unfold isS at h
 split at h
 ·exact⟨_,by assumption⟩
 ·cases h
theorem Z7v{P:Program}{t:TypeId}(h:isA P t=true):∃n e,P.underlying t=some (.array n e):=by
 unfold isA at h
 split at h
 ·exact⟨_,_,by assumption⟩
 ·cases h
theorem Z2t{W:World}(h:laidMetH Tryz.prog laidL W){n:String}{d:DataW Unit}(hm:(n,d)∈laidL)(hp:d.handleName?.isNone=true):
 ∃g t cs fuel p,Tryz.prog.globalNamed n=some g∧(Tryz.prog.globals[g]?).map (·.type)=some t∧W.var? Tryz.prog n=some cs∧DataW.trod (fun _=>()) Tryz.prog W 0 (fun _=>true) false fuel t cs.toList=some (d,p):=by
 obtain⟨⟨ps,h1,_⟩,_⟩:=laidMetH_iff.1 h
 exact Z5B h1 (List.mem_filter.2 ⟨hm,hp⟩)
theorem Z5C{W:World}(h:laidMetH Tryz.prog laidL W):Most W:=by
 obtain⟨g,t,cs,fuel,p,hg,ht,hv,hd⟩:=Z2t h (n:= "nock/arrow.most") (d:=Rows.laid_nock_arrow_most) (by simp[laidL]) (by kernel_rfl)
 obtain rfl:=Option.some.inj ((show Tryz.prog.globalNamed "nock/arrow.most" =some 1 by kernel_rfl).symm.trans hg)
 obtain rfl:=Option.some.inj ((show(Tryz.prog.globals[1]?).map (·.type)=some 48 by kernel_rfl).symm.trans ht)
 obtain⟨fs,hu⟩:=Z3z (P:=Tryz.prog) (t:=48) (by kernel_rfl)
 have hl:=Z6x (n:= "") hd (.inl ⟨fs,hu⟩)
 have e0:=Z3y (n:=2) (o:=0) (u:=3) (k:= .i64) (v:= -1099511627776) hl ⟨_,_,hd⟩ (by kernel_rfl) under3
 have e1:=Z3y (n:=2) (o:=1) (u:=3) (k:= .i64) (v:=1099511627776) hl ⟨_,_,hd⟩ (by kernel_rfl) under3
 exact⟨by rw[World.var?_cell hg hv 0];simpa using e0,by rw[World.var?_cell hg hv 1];simpa using e1⟩
theorem Z6y{W:World}(h:laidMetH Tryz.prog laidL W):Deb W:=by
 obtain⟨g,t,cs,fuel,p,hg,ht,hv,hd⟩:=Z2t h (n:= "math/bits.deBruijn64tab") (d:=Rows.laid_math_bits_deBruijn64tab) (by simp[laidL]) (by kernel_rfl)
 obtain rfl:=Option.some.inj ((show Tryz.prog.globalNamed "math/bits.deBruijn64tab" =some 3 by kernel_rfl).symm.trans hg)
 obtain rfl:=Option.some.inj ((show(Tryz.prog.globals[3]?).map (·.type)=some 235 by kernel_rfl).symm.trans ht)
 obtain⟨m,e,hu⟩:=Z7v (P:=Tryz.prog) (t:=235) (by kernel_rfl)
 have hl:=Z6x (n:= "") hd (.inr ⟨m,e,hu⟩)
 intro i hi
 have hk:((List.range 8).all fun i=>(Z27 Tryz.prog 2 235 0 (Rows.laid_math_bits_deBruijn64tab (H:=Unit))).any (Zd3 (dbP i) 5 .u8 (i:Int)))=true:=by kernel_rfl
 have e0:=Z3y (n:=2) (o:=dbP i) (u:=5) (k:= .u8) (v:=i) hl ⟨_,_,hd⟩ (List.all_eq_true.1 hk i (List.mem_range.2 hi)) under5
 rw[World.var?_cell hg hv];simpa using e0
theorem Z5D{W:World}(h:laidMetH Tryz.prog laidL W):Meas W:=by
 obtain⟨g,t,cs,fuel,p,hg,ht,hv,hd⟩:=h.funcs (n:= "nock/arrow.measures") (by unfold laidL Rows.laid_nock_arrow_measures;exact List.mem_cons_of_mem _ (List.mem_cons_of_mem _ (List.mem_cons_of_mem _ (List.mem_cons_self ..))))
 obtain rfl:=Option.some.inj ((show Tryz.prog.globalNamed "nock/arrow.measures" =some 0 by kernel_rfl).symm.trans hg)
 obtain rfl:=Option.some.inj ((show(Tryz.prog.globals[0]?).map (·.type)=some 170 by kernel_rfl).symm.trans ht)
 obtain⟨m,e,hu⟩:=Z7v (P:=Tryz.prog) (t:=170) (by kernel_rfl)
 have hl:=Z6x (n:= "") hd (.inr ⟨m,e,hu⟩)
 have cell:∀(i:Nat)(v:Value),cs.toList[i]? =some v→W.cell? ⟨0,i,none⟩=some v:=fun i v e=>by
  rw[World.var?_cell hg hv];simpa using e
 obtain⟨_,_,_,h166⟩:=Z9z (P:=Tryz.prog) (t:=166) (by kernel_rfl)
 obtain⟨_,_,_,h167⟩:=Z9z (P:=Tryz.prog) (t:=167) (by kernel_rfl)
 intro i hi
 apply cell
 obtain rfl|rfl|rfl|rfl|rfl|rfl:i=0∨i=1∨i=2∨i=3∨i=4∨i=5:=by omega
 ·exact Z1U (n:=3) (u:=166) (b:=110) (r:=[111,99,107,47,97,114,114,111,119,46,109,101,97,115,117,114,101,115,36,49]) hl ⟨_,_,hd⟩ (by kernel_rfl) h166 (by kernel_rfl) (by kernel_rfl)
 ·exact Z1U (n:=3) (u:=167) (b:=110) (r:=[111,99,107,47,97,114,114,111,119,46,109,101,97,115,117,114,101,115,36,50]) hl ⟨_,_,hd⟩ (by kernel_rfl) h167 (by kernel_rfl) (by kernel_rfl)
 ·exact Z1U (n:=3) (u:=166) (b:=110) (r:=[111,99,107,47,97,114,114,111,119,46,109,101,97,115,117,114,101,115,36,51]) hl ⟨_,_,hd⟩ (by kernel_rfl) h166 (by kernel_rfl) (by kernel_rfl)
 ·exact Z1U (n:=3) (u:=167) (b:=110) (r:=[111,99,107,47,97,114,114,111,119,46,109,101,97,115,117,114,101,115,36,52]) hl ⟨_,_,hd⟩ (by kernel_rfl) h167 (by kernel_rfl) (by kernel_rfl)
 ·exact Z1U (n:=3) (u:=166) (b:=110) (r:=[111,99,107,47,97,114,114,111,119,46,109,101,97,115,117,114,101,115,36,53]) hl ⟨_,_,hd⟩ (by kernel_rfl) h166 (by kernel_rfl) (by kernel_rfl)
 ·exact Z1U (n:=3) (u:=167) (b:=110) (r:=[111,99,107,47,97,114,114,111,119,46,109,101,97,115,117,114,101,115,36,54]) hl ⟨_,_,hd⟩ (by kernel_rfl) h167 (by kernel_rfl) (by kernel_rfl)
end Go.Proofs.Tryq
end
namespace Go.Nk
open Go Go.Conc
variable [Ban]
def Z5E(Gs:Nat→Bool):Value→Bool
 | .bool _| .int _ _| .string _| .nilFunc| .nilIface| .pointer none| .slice none _ _| .map none| .chan none=>true
 | .pointer (some a)=>Gs a.block
 | .slice (some a) _ _=>Gs a.block
 | .func (.func f) a c=> !Ban.ban f&&a.size==0&&c.size==0
 |_=>false
section
variable {Gs:Nat→Bool}
theorem Z5F{v:Value}(h:Z5E Gs v=true):VRel id (fun b=>Gs b=true) v v:=by
 unfold Z5E at h
 split at h
 ·exact .bool _
 ·exact .int _ _
 ·exact .string _
 ·exact .nilFunc
 ·exact .nilIface
 ·exact .nilPtr
 ·exact .nilSlice _ _
 ·exact .nilMap
 ·exact .nilChan
 ·exact .ptr (ρ:=id) h
 ·exact .slice (ρ:=id) _ _ h
 ·simp only[Bool.and_eq_true,Bool.not_eq_true',beq_iff_eq] at h
  exact .func h.1.1 rfl (fun i hi=>by omega) rfl (fun i hi=>by omega)
 ·cases h
structure Masks(Gs:Nat→Bool)(u v:Value):Prop where
 rel:VRel id (fun b=>Gs b=true) u v
 self:VRel id (fun b=>Gs b=true) u u
 seen:Z5E Gs v=true→u=v
theorem Z8c{v:Value}(h:Z5E Gs v=true):Masks Gs v v:=⟨Z5F h,Z5F h,fun _=>rfl⟩
theorem Z8d(hh:Ban.holes=true){v:Value}(hw:wild v=true)(hs:Z5E Gs v=false):Masks Gs undef v:=⟨.hole hh hw,.undef,fun h=>by rw[hs] at h;cases h⟩
theorem Z8e(hh:Ban.holes=true){n:String}{a c:Array Value}:Masks Gs bomb (.func (.method n) a c):=⟨.meth hh,.meth hh,fun h=>by cases h⟩
theorem Z5G{cs:Array Value}(h:∀v∈cs,∃u,Masks Gs u v):∃us:Array Value,AR id (fun b=>Gs b=true) us cs∧AR id (fun b=>Gs b=true) us us:=by
 have key:∀l:List Value,(∀v∈l,∃u,Masks Gs u v)→∃us:List Value,us.length=l.length∧∀(i:Nat)(u v:Value),us[i]? =some u→l[i]? =some v→Masks Gs u v:=by
  intro l
  induction l with
  |nil=>exact fun _=>⟨[],rfl,fun i u v h=>by simp at h⟩
  |cons a l ih=>
   intro h
   obtain⟨u,hu⟩:=h a List.mem_cons_self
   obtain⟨us,h1,h2⟩:=ih fun v hv=>h v (List.mem_cons_of_mem _ hv)
   refine⟨u::us,by simp[h1],fun i x y hx hy=> ?_⟩
   cases i with
   |zero=>simp only[List.getElem?_cons_zero,Option.some.injEq] at hx hy;subst hx hy;exact hu
   |succ i=>simp only[List.getElem?_cons_succ] at hx hy;exact h2 i x y hx hy
 obtain⟨us,h1,h2⟩:=key cs.toList fun v hv=>h v (Array.mem_toList_iff.1 hv)
 refine⟨us.toArray,AR.mk (by simpa using h1) fun i x y hx hy=>(h2 i x y (by simpa using hx) (by simpa using hy)).rel,AR.mk rfl fun i x y hx hy=> ?_⟩
 rw[hx] at hy;cases hy
 have hi:i<us.length:=by simpa using(Array.getElem?_eq_some_iff.1 hx).1
 exact(h2 i x _ (by simpa using hx) (List.getElem?_eq_getElem (by omega))).self
theorem Zd4(hh:Ban.holes=true):∀(n:Nat)(v:Value),SizeOf.sizeOf v≤n→∃u,Masks Gs u v:=by
 intro n
 induction n with
 |zero=>intro v h;cases v<;>simp at h
 |succ n ih=>
  intro v h
  cases hs:Z5E Gs v with
  |true=>exact⟨v,Z8c hs⟩
  |false=>
   have hole:wild v=true→∃u,Masks Gs u v:=fun hw=>⟨_,Z8d hh hw hs⟩
   cases v with
   |bool _|int _ _|string _|nilFunc|nilIface=>cases hs
   |pointer a=>cases a with|none=>cases hs|some a=>exact hole rfl
   |slice a _ _=>cases a with|none=>cases hs|some a=>exact hole rfl
   |map a=>cases a with|none=>cases hs|some a=>exact hole rfl
   |chan a=>cases a with|none=>cases hs|some a=>exact hole rfl
   |func f a c=>cases f with
    |method m=>exact⟨_,Z8e hh⟩
    |_=>exact hole rfl
   |float _ _|complex _ _ _|iface _ _=>exact hole rfl
   |agg cs=>
    obtain⟨us,h1,h2⟩:=Z5G (Gs:=Gs) (cs:=cs) fun v hv=>ih v (by have:=Array.sizeOf_lt_of_mem hv;simp only[Value.agg.sizeOf_spec] at h;omega)
    exact⟨.agg us,.agg h1.1 h1.2,.agg h2.1 h2.2,fun h=>by cases h⟩
   |tuple cs=>
    obtain⟨us,h1,h2⟩:=Z5G (Gs:=Gs) (cs:=cs) fun v hv=>ih v (by have:=Array.sizeOf_lt_of_mem hv;simp only[Value.tuple.sizeOf_spec] at h;omega)
    exact⟨.tuple us,.tuple h1.1 h1.2,.tuple h2.1 h2.2,fun h=>by cases h⟩
open Classical in
noncomputable def Z4N(Gs:Nat→Bool)(v:Value):Value:=if h:∃u,Masks Gs u v then Classical.choose h else undef
theorem Z4O(hh:Ban.holes=true)(v:Value):Masks Gs (Z4N Gs v) v:=by
 have h:∃u,Masks Gs u v:=Zd4 hh _ v (Nat.le_refl _)
 unfold Z4N
 rw[dif_pos h]
 exact Classical.choose_spec h
theorem Z8f(hh:Ban.holes=true){v:Value}(h:Z5E Gs v=true):Z4N Gs v=v:=(Z4O hh v).seen h
def Z1s(w:World)(b:Nat):Bool:=match w.heap[b]? with|some (.cells ..)=>true|_=>false
noncomputable def Zd5(Gs:Nat→Bool):Obj→Obj
 | .cells c e _=> .cells (c.map (Z4N Gs)) e (0,c.size)
 |_=> .coro none
noncomputable def Zx(w:World):World:={w with heap:=w.heap.map (Zd5 (Z1s w))}
theorem Z9A{w:World}{b:Nat}:Z1s w b=true↔∃c e f,w.heap[b]? =some (.cells c e f):=by
 unfold Z1s
 constructor
 ·intro h
  split at h
  ·exact⟨_,_,_,by assumption⟩
  ·cases h
 ·rintro⟨c,e,f,h⟩;rw[h]
theorem Z5H{w:World}{b:Nat}{c:Array Value}{e:TypeId}{f:Nat×Nat}(h:w.heap[b]? =some (.cells c e f)):(Zx w).heap[b]? =some (.cells (c.map (Z4N (Z1s w))) e (0,c.size)):=by
 simp only[Zx,Array.getElem?_map,h,Option.map_some,Zd5]
theorem Z3a{w:World}{b:Nat}{o:Obj}(h:(Zx w).heap[b]? =some o)(hl:liveO o=true):∃c e f,w.heap[b]? =some (.cells c e f)∧o= .cells (c.map (Z4N (Z1s w))) e (0,c.size):=by
 simp only[Zx,Array.getElem?_map,Option.map_eq_some_iff] at h
 obtain⟨o',h1,h2⟩:=h
 cases o'<;>first|exact⟨_,_,_,h1,h2.symm⟩|(simp only[Zd5] at h2;subst h2;cases hl)
theorem Z8g{w:World}{b:Nat}:Z1s w b=true↔Live (Zx w) b:=by
 rw[Z9A]
 constructor
 ·rintro⟨c,e,f,h⟩;exact⟨_,Z5H h,rfl⟩
 ·rintro⟨o,h1,h2⟩
  obtain⟨c,e,f,h,_⟩:=Z3a h1 h2
  exact⟨c,e,f,h⟩
theorem Z1l(w:World):(Zx w).heap.size=w.heap.size:=by simp[Zx]
theorem Z9B(hh:Ban.holes=true)(w:World)(c:Array Value):AR id (Live (Zx w)) (c.map (Z4N (Z1s w))) c∧AR id (Live (Zx w)) (c.map (Z4N (Z1s w))) (c.map (Z4N (Z1s w))):=by
 have hL:∀b,Z1s w b=true→Live (Zx w) b:=fun b=>Z8g.1
 constructor
 ·refine AR.mk (by simp) fun i x y hx hy=> ?_
  simp only[Array.getElem?_map,hy,Option.map_some,Option.some.injEq] at hx
  subst hx
  exact(Z4O hh y).rel.up hL
 ·refine AR.mk rfl fun i x y hx hy=> ?_
  rw[hx] at hy;cases hy
  simp only[Array.getElem?_map,Option.map_eq_some_iff] at hx
  obtain⟨v,_,rfl⟩:=hx
  exact(Z4O hh v).self.up hL
theorem Z8h(hh:Ban.holes=true){w:World}{G:Nat}(hG:G≤w.heap.size):Start (Z1s w) G (Zx w) w:=by
 refine⟨⟨fun b o hb hl=> ?_,fun _ _ _ _ e=>e,fun b hb=>(Z8g.1 hb).lt,fun _ _=>Iff.rfl,by rw[Z1l];exact hG,hG⟩,{obj:=fun b o hb hl=> ?_,inj:=fun _ _ _ _ e=>e,fz:=fun _ h=>h.elim,low:=fun _ _=>Iff.rfl,gV:=by rw[Z1l];exact hG,gw:=by rw[Z1l];exact hG,tape:=fun _=>rfl,next:=fun _=>rfl},fun b l h=> ?_,fun g=>Z8g⟩
 ·obtain⟨c,e,f,h1,rfl⟩:=Z3a hb hl
  exact⟨_,h1,fun h=>absurd (Z9A.2 ⟨c,e,f,h1⟩) h,fun _=>⟨.cells (Z9B hh w c).1 (fun h=>by cases h),_,_,_,rfl,by simp⟩⟩
 ·obtain⟨c,e,f,h1,rfl⟩:=Z3a hb hl
  exact⟨_,hb,fun _=> .cells (Z9B hh w c).2 (fun _=>rfl),fun h=>h.elim⟩
 ·obtain⟨c,e,f,_,h2⟩:=Z3a h rfl
  cases h2
theorem Z0d(hh:Ban.holes=true){w:World}{a:Addr}{v:Value}(h:w.cell? a=some v)(hs:Z5E (Z1s w) v=true):(Zx w).cell? a=some v:=by
 obtain⟨c,e,f,h1,h2,h3⟩:=Z3h h
 unfold World.cell?
 rw[Z5H h1]
 simp only[h2,Option.isSome_none,Bool.false_eq_true,if_false,Array.getElem?_map,h3,Option.map_some,Z8f hh hs]
end
end Go.Nk
