import Derived.Test.YtedkbdkbbnemlaaGreatDoorNk22
import Derived.Lib.Hide
set_option linter.all false
namespace Go.Proofs.Tryq
open Go Go.Nk Go.RowKit
theorem chooseR_mem:∀(s c:List Int),c∈chooseR s→List.Sublist c s
 |[],c,h=>by cases List.mem_singleton.1 h;exact List.Sublist.refl _
 |x::t,c,h=>by
  rcases List.mem_cons.1 h with rfl|h
  ·exact List.nil_sublist _
  ·rcases List.mem_append.1 h with h|h
   ·obtain⟨y,hy,rfl⟩:=List.mem_map.1 h
    exact(chooseR_mem t y hy).cons_cons x
   ·exact(chooseR_mem t c (List.mem_of_mem_tail h)).cons x
theorem mem_chooseR:∀(s c:List Int),List.Sublist c s→c∈chooseR s
 |[],c,h=>by rw[List.sublist_nil.1 h];simp[chooseR]
 |x::t,c,h=>by
  cases c with
  |nil=>exact List.mem_cons_self
  |cons y c=>
   rw[chooseR]
   refine List.mem_cons_of_mem _ (List.mem_append.2 ?_)
   cases h with
   |cons _ h=>
    right
    have:=mem_chooseR t _ h
    rw[chooseR_head] at this
    rcases List.mem_cons.1 this with h2|h2
    ·cases h2
    ·exact h2
   |cons_cons _ h=>exact .inl (List.mem_map.2 ⟨c,mem_chooseR t c h,rfl⟩)
end Go.Proofs.Tryq
namespace Go.Proofs.Tryq
set_option maxRecDepth 100000
set_option maxHeartbeats 4000000
open Go Go.Nk Go.RowKit
def Zm(f:Nat→Bool)(bt:Int→Int→Bool):Nat→Nat×Bool
 |0=>(0,false)
 |k+1=>if f k&&(!(Zm f bt k).2||bt (bl k).length (bl (Zm f bt k).1).length||((bl k).length==(bl (Zm f bt k).1).length&&Z1g k (Zm f bt k).1)) then(k,true) else Zm f bt k
theorem Z56(f:Nat→Bool)(bt:Int→Int→Bool):∀k,k≤256→(Zm f bt k).1<256
 |0,_=>by simp[Zm]
 |k+1,h=>by
  rw[Zm]
  split
  ·simp;omega
  ·exact Z56 f bt k (by omega)
theorem Z7K(r0 r1 r2 r3:Int)(base:Option Addr)(cap B n:Nat)(p:Nat→Nat)(C:Nat→Nat→Int×Int)(hn:n≤8)(ft:Bool)(g:FuncId)(bt:Int→Int→Bool)(w:World)(hm:Most w)(hC:Cv w B n p C)(hd:Deb w)
 (hge:∀args w,(callFunc g args).run prog w= .ok (.enter g args) w)(hgc:∀a b w,Calls prog g #[.int .i64 a,.int .i64 b] w fun e w'=>e= .returned (.bool (bt a b))∧w'=w):
 Calls prog 125 #[.agg #[.int .i64 r0,.int .i64 r1,.int .i64 r2,.int .i64 r3,.slice base n cap,.slice (some ⟨B,0,none⟩) n n],.bool ft,.func (.func g) #[] #[]] w fun e w'=>
  ∃v,e= .returned (.tuple #[v,.bool (Zm (fun k=>Zz C k n==ft) bt (2 ^ n)).2])∧OwnI w.heap.size w' v ((bl (Zm (fun k=>Zz C k n==ft) bt (2 ^ n)).1).map fun(i:Nat)=>(i:Int))∧Ext w w':=by
 have hpow:=Z2Z hn
 have hev:=fun v w'=>Z08 r0 r1 r2 r3 base n cap v hn w'
 go_enter func125,ntmps125
 have hc:(w.alloc (.cells #[.int .i64 r0,.int .i64 r1,.int .i64 r2,.int .i64 r3,.slice base n cap,.slice (some ⟨B,0,none⟩) n n] 146)).heap[w.heap.size]? =some (.cells #[.int .i64 r0,.int .i64 r1,.int .i64 r2,.int .i64 r3,.slice base n cap,.slice (some ⟨B,0,none⟩) n n] 146):=by rw[Z3,if_pos rfl]
 have hE1:=(Ext.rfl' w).alloc (.cells #[.int .i64 r0,.int .i64 r1,.int .i64 r2,.int .i64 r3,.slice base n cap,.slice (some ⟨B,0,none⟩) n n] 146)
 go_wp2_with (first
  |(go_at_call 106;refine(hev _ _).mono ?_;rintro e w2 ⟨rfl,hE2⟩;have hs2:=hE2.get hc))
 have hE3:=hE1.trans hE2
 have hcast:((2:Int) ^ n)=((2 ^ n:Nat):Int):=by push_cast;rfl
 have hm1:2 ^ n≤256:=by omega
 rw[hcast]
 clear hcast hpow hE2 hc hE1
 obtain⟨m,Hm⟩:∃m,m=2 ^ n:=⟨_,rfl⟩
 rw[←Hm] at hm1⊢
 replace Hm:=Lib.hid Hm
 go_loopw [8,9,16] (fun vb vf vk wr=>∃k:Nat,k≤m∧vk= .int .i64 k∧vb= .int .i64 ((Zm (fun k=>Zz C k n==ft) bt k).1:Nat)∧vf= .bool (Zm (fun k=>Zz C k n==ft) bt k).2∧Ext w wr∧wr.heap[w.heap.size]? =some (.cells #[.int .i64 r0,.int .i64 r1,.int .i64 r2,.int .i64 r3,.slice base n cap,.slice (some ⟨B,0,none⟩) n n] 146)) (fun _ _ vk _=>m - (intOf vk).toNat)
 case atStart=>exact⟨0,Nat.zero_le _,rfl,rfl,rfl,hE3,hs2⟩
 case round=>
  obtain⟨k,hk,rfl,rfl,rfl,hE,hs6⟩:=hrel
  clear hE3 hs2
  have c0:=Z0 hs6 0
  have c1:=Z0 hs6 1
  have c2:=Z0 hs6 2
  have c3:=Z0 hs6 3
  have c4:=Z0 hs6 4
  have c5:=Z0 hs6 5
  simp only[List.getElem?_toArray,List.getElem?_cons_zero,List.getElem?_cons_succ] at c0 c1 c2 c3 c4 c5
  have hbl:=Z56 (fun k=>Zz C k n==ft) bt k (by omega)
  by_cases hkm:k=m
  ·subst hkm
   have hlst:=fun w hd=>ZbS _ hbl w hd
   go_wp2_with (first|(go_at_call 158;refine(hlst _ (hd.ext hE)).mono ?_;rintro e w9 ⟨v,rfl,hv,hE9⟩))
   go_ret2
   rw[←Hm.out]
   exact⟨v,rfl,hv.le hE.size,hE.trans hE9⟩
  ·have hk2:k<256:=by omega
   have hfit:=Z7j r0 r1 r2 r3 (.slice base n cap) B n (k:Int) p C hn (by omega) wr (hm.ext hE) (hC.ext hE)
   have H:Hid (Zm (fun k=>Zz C k n==ft) bt (k+1)=if(Zz C k n==ft)&&(!(Zm (fun k=>Zz C k n==ft) bt k).2||bt (bl k).length (bl (Zm (fun k=>Zz C k n==ft) bt k).1).length||((bl k).length==(bl (Zm (fun k=>Zz C k n==ft) bt k).1).length&&Z1g k (Zm (fun k=>Zz C k n==ft) bt k).1)) then(k,true) else Zm (fun k=>Zz C k n==ft) bt k):=rfl
   generalize Zm (fun k=>Zz C k n==ft) bt k=P at H hbl⊢
   obtain⟨b,f⟩:=P
   have hk0:(0:Int)≤(k:Int):=by omega
   have hk1:(k:Int)<256:=by omega
   have hb0:(0:Int)≤(b:Int):=by omega
   have hb1:(b:Int)<256:=by have:b<256:=hbl;omega
   have ho1:=fun w=>Z7k k hk2 w
   have ho2:=fun w=>Z7k b hbl w
   have hbt:=fun w=>hgc (bl k).length (bl b).length w
   have hls:=fun w=>Z89 (k:Int) (b:Int) ⟨hk0,hk1⟩ ⟨hb0,hb1⟩ w
   simp only at H ho2 hbt hls
   have hkm2:((k:Int)<(m:Int)):=by omega
   generalize (bl k).length=x at H ho1 hbt
   generalize (bl b).length=y at H ho2 hbt
   generalize Z1g (k:Int) (b:Int)=l at H hls
   generalize Zz C (k:Int) n=q at H hfit
   generalize bt (x:Int) (y:Int)=t at H hbt
   by_cases hq:q=ft
   ·subst hq
    cases f
    ·have e':Zm (fun k=>Zz C k n==q) bt (k+1)=(k,true):=by rw[H];simp
     replace e':=Lib.hid e';clear H
     go_wp2_with (first
     |(go_at_call 124;refine hfit.mono ?_;rintro e w2 ⟨rfl,hE2⟩;have hW:=hE.trans hE2;have hW6:=hE2.get hs6;clear c0 c1 c2 c3 c4 c5)
     |(go_at_call 156;refine(ho1 _).mono ?_;rintro e w2 ⟨rfl,rfl⟩)
     |(go_at_call 156;refine(ho2 _).mono ?_;rintro e w2 ⟨rfl,rfl⟩)
     |(go_at_call 157;refine(hls _).mono ?_;rintro e w2 ⟨rfl,rfl⟩)
     |(refine(hbt _).mono ?_;rintro e w2 ⟨rfl,rfl⟩))
     go_roundw
     case rel=>exact⟨k+1,by omega,by push_cast;rfl,by rw[e'.out],by rw[e'.out],hW,hW6⟩
     case measure=>simp[intOf];omega
    ·cases t
     ·by_cases hxy:x=y
      ·subst hxy
       have hxx:(((x:Int)==(x:Int)))=true:=by simp
       cases l
       ·have e':Zm (fun k=>Zz C k n==q) bt (k+1)=(b,true):=by rw[H];simp
        replace e':=Lib.hid e';clear H
        go_wp2_with (first
        |(go_at_call 124;refine hfit.mono ?_;rintro e w2 ⟨rfl,hE2⟩;have hW:=hE.trans hE2;have hW6:=hE2.get hs6;clear c0 c1 c2 c3 c4 c5)
        |(go_at_call 156;refine(ho1 _).mono ?_;rintro e w2 ⟨rfl,rfl⟩)
        |(go_at_call 156;refine(ho2 _).mono ?_;rintro e w2 ⟨rfl,rfl⟩)
        |(go_at_call 157;refine(hls _).mono ?_;rintro e w2 ⟨rfl,rfl⟩)
        |(refine(hbt _).mono ?_;rintro e w2 ⟨rfl,rfl⟩))
        go_roundw
        case rel=>exact⟨k+1,by omega,by push_cast;rfl,by rw[e'.out],by rw[e'.out],hW,hW6⟩
        case measure=>simp[intOf];omega
       ·have e':Zm (fun k=>Zz C k n==q) bt (k+1)=(k,true):=by rw[H];simp
        replace e':=Lib.hid e';clear H
        go_wp2_with (first
        |(go_at_call 124;refine hfit.mono ?_;rintro e w2 ⟨rfl,hE2⟩;have hW:=hE.trans hE2;have hW6:=hE2.get hs6;clear c0 c1 c2 c3 c4 c5)
        |(go_at_call 156;refine(ho1 _).mono ?_;rintro e w2 ⟨rfl,rfl⟩)
        |(go_at_call 156;refine(ho2 _).mono ?_;rintro e w2 ⟨rfl,rfl⟩)
        |(go_at_call 157;refine(hls _).mono ?_;rintro e w2 ⟨rfl,rfl⟩)
        |(refine(hbt _).mono ?_;rintro e w2 ⟨rfl,rfl⟩))
        go_roundw
        case rel=>exact⟨k+1,by omega,by push_cast;rfl,by rw[e'.out],by rw[e'.out],hW,hW6⟩
        case measure=>simp[intOf];omega
      ·have hxx:(((x:Int)==(y:Int)))=false:=by simp;omega
       have e':Zm (fun k=>Zz C k n==q) bt (k+1)=(b,true):=by rw[H];simp[hxy]
       replace e':=Lib.hid e';clear H
       go_wp2_with (first
       |(go_at_call 124;refine hfit.mono ?_;rintro e w2 ⟨rfl,hE2⟩;have hW:=hE.trans hE2;have hW6:=hE2.get hs6;clear c0 c1 c2 c3 c4 c5)
       |(go_at_call 156;refine(ho1 _).mono ?_;rintro e w2 ⟨rfl,rfl⟩)
       |(go_at_call 156;refine(ho2 _).mono ?_;rintro e w2 ⟨rfl,rfl⟩)
       |(go_at_call 157;refine(hls _).mono ?_;rintro e w2 ⟨rfl,rfl⟩)
       |(refine(hbt _).mono ?_;rintro e w2 ⟨rfl,rfl⟩))
       go_roundw
       case rel=>exact⟨k+1,by omega,by push_cast;rfl,by rw[e'.out],by rw[e'.out],hW,hW6⟩
       case measure=>simp[intOf];omega
     ·have e':Zm (fun k=>Zz C k n==q) bt (k+1)=(k,true):=by rw[H];simp
      replace e':=Lib.hid e';clear H
      go_wp2_with (first
      |(go_at_call 124;refine hfit.mono ?_;rintro e w2 ⟨rfl,hE2⟩;have hW:=hE.trans hE2;have hW6:=hE2.get hs6;clear c0 c1 c2 c3 c4 c5)
      |(go_at_call 156;refine(ho1 _).mono ?_;rintro e w2 ⟨rfl,rfl⟩)
      |(go_at_call 156;refine(ho2 _).mono ?_;rintro e w2 ⟨rfl,rfl⟩)
      |(go_at_call 157;refine(hls _).mono ?_;rintro e w2 ⟨rfl,rfl⟩)
      |(refine(hbt _).mono ?_;rintro e w2 ⟨rfl,rfl⟩))
      go_roundw
      case rel=>exact⟨k+1,by omega,by push_cast;rfl,by rw[e'.out],by rw[e'.out],hW,hW6⟩
      case measure=>simp[intOf];omega
   ·cases q<;>cases ft<;>first
     |exact absurd rfl hq
     |(
       have e':=H.trans (if_neg (by simp))
       replace e':=Lib.hid e';clear H
       go_wp2_with (first
       |(go_at_call 124;refine hfit.mono ?_;rintro e w2 ⟨rfl,hE2⟩;have hW:=hE.trans hE2;have hW6:=hE2.get hs6;clear c0 c1 c2 c3 c4 c5)
       |(go_at_call 156;refine(ho1 _).mono ?_;rintro e w2 ⟨rfl,rfl⟩)
       |(go_at_call 156;refine(ho2 _).mono ?_;rintro e w2 ⟨rfl,rfl⟩)
       |(go_at_call 157;refine(hls _).mono ?_;rintro e w2 ⟨rfl,rfl⟩)
       |(refine(hbt _).mono ?_;rintro e w2 ⟨rfl,rfl⟩))
       go_roundw
       case rel=>exact⟨k+1,by omega,by push_cast;rfl,by rw[e'.out],by rw[e'.out],hW,hW6⟩
       case measure=>simp[intOf];omega)
end Go.Proofs.Tryq
namespace Go.Proofs.Tryq
set_option maxRecDepth 100000
set_option maxHeartbeats 1000000
open Go Go.Nk Go.RowKit
theorem ZbZ(a b:Int)(w:World):Calls prog 126 #[.int .i64 a,.int .i64 b] w fun e w'=>e= .returned (.bool (decide (a<b)))∧w'=w:=by
 go_enter func126,ntmps126
 go_wp2
 go_ret
 exact⟨rfl,rfl⟩
theorem Zc0(a b:Int)(w:World):Calls prog 128 #[.int .i64 a,.int .i64 b] w fun e w'=>e= .returned (.bool (decide (b<a)))∧w'=w:=by
 go_enter func128,ntmps128
 go_wp2
 go_ret
 exact⟨rfl,rfl⟩
def Z7L(r0 r1 r2 r3:Int)(S:List Rs):List Int:=(bl (Zm (fun k=>Zz (cvS r0 r1 r2 r3 (S.map Ze)) k S.length==false) (fun a b=>decide (a<b)) (2 ^ S.length)).1).map fun(i:Nat)=>(i:Int)
def Z7M(r0 r1 r2 r3:Int)(S:List Rs):List Int:=(bl (Zm (fun k=>Zz (cvS r0 r1 r2 r3 (S.map Ze)) k S.length==true) (fun a b=>decide (b<a)) (2 ^ S.length)).1).map fun(i:Nat)=>(i:Int)
theorem Zas(r0 r1 r2 r3:Int)(base:Option Addr)(n cap:Nat)(S:List Rs)(w:World)(hlen:S.length=n)(hS:RawS w base S)(hm:Most w)(hd:Deb w):
 Calls prog 66 #[.agg #[.int .i64 r0,.int .i64 r1,.int .i64 r2,.int .i64 r3,.slice base n cap]] w fun e w'=>∃v,e= .returned (.tuple #[v,.int .i64 (ZC r0 r1 r2 r3 S)])∧OwnI w.heap.size w' v (if ZC r0 r1 r2 r3 S=0 then Z7L r0 r1 r2 r3 S else[])∧Ext w w':=by
 have hck:=Z0U r0 r1 r2 r3 base n cap S
 simp only[Zh] at hck
 have hb:(w.alloc (.cells #[.int .i64 r0,.int .i64 r1,.int .i64 r2,.int .i64 r3,.slice base n cap] 70)).heap[w.heap.size]? =some (.cells #[.int .i64 r0,.int .i64 r1,.int .i64 r2,.int .i64 r3,.slice base n cap] 70):=by rw[Z3,if_pos rfl]
 have hE1:Ext w _:=(Ext.rfl' w).alloc (.cells #[.int .i64 r0,.int .i64 r1,.int .i64 r2,.int .i64 r3,.slice base n cap] 70)
 have hck2:=hck _ hlen (hS.ext hE1)
 clear hck
 by_cases hc0:ZC r0 r1 r2 r3 S=0
 ·obtain⟨_,h8,hok⟩:=Z0i hc0
  rw[if_pos hc0]
  rw[hc0] at hck2⊢
  clear hc0
  have hlen2:(S.map Ze).length=n:=by rw[List.length_map,hlen]
  have hn8:n≤8:=by omega
  have hsg:=fun w hS=>Z2c r0 r1 r2 r3 base cap w (S.map Ze) n hlen2 hn8 hS
  have hpk:=fun B p w hm hC hd=>Z7K r0 r1 r2 r3 base cap B n p (cvS r0 r1 r2 r3 (S.map Ze)) hn8 false 126 (fun a b=>decide (a<b)) w hm hC hd (fun args w=>by simp[go_sem]) ZbZ
  simp only[Zh] at hsg
  go_enter func66,ntmps66
  go_wp2_with (first
   |(go_at_call 62;refine hck2.mono ?_;rintro e w2 ⟨rfl,hE2⟩;have hE3:=hE1.trans hE2;have hb2:=hE2.get hb;have q0:=Z0 hb2 0;have q1:=Z0 hb2 1;have q2:=Z0 hb2 2;have q3:=Z0 hb2 3;have q4:=Z0 hb2 4;simp only[List.getElem?_toArray,List.getElem?_cons_zero,List.getElem?_cons_succ] at q0 q1 q2 q3 q4)
   |(go_at_call 123;refine(hsg _ (Z4J (hS.ext hE3) hok)).mono ?_;rintro e w3 ⟨B,p,rfl,hE4,hC,_,_⟩;have hE5:=hE3.trans hE4)
   |(go_at_call 125;refine(hpk B p _ (hm.ext hE5) hC (hd.ext hE5)).mono ?_;rintro e w4 ⟨v,rfl,hv,hE6⟩))
  go_ret2
  exact⟨v,rfl,by rw[Z7L,hlen];exact hv.le hE5.size,hE5.trans hE6⟩
 ·rw[if_neg hc0]
  have hx:(ZC r0 r1 r2 r3 S !=0)=true:=by simpa using hc0
  clear hc0
  generalize ZC r0 r1 r2 r3 S=x at hx hck2⊢
  go_enter func66,ntmps66
  go_wp2_with (first
   |(go_at_call 62;refine hck2.mono ?_;rintro e w2 ⟨rfl,hE2⟩;have hE3:=hE1.trans hE2))
  go_ret2
  exact⟨_,rfl,World.ownsRow_nil _ _ _ _,hE3⟩
theorem Zat(r0 r1 r2 r3:Int)(base:Option Addr)(n cap:Nat)(S:List Rs)(w:World)(hlen:S.length=n)(hS:RawS w base S)(hm:Most w)(hd:Deb w):
 Calls prog 68 #[.agg #[.int .i64 r0,.int .i64 r1,.int .i64 r2,.int .i64 r3,.slice base n cap]] w fun e w'=>∃v,e= .returned (.tuple #[v,.int .i64 (ZC r0 r1 r2 r3 S)])∧OwnI w.heap.size w' v (if ZC r0 r1 r2 r3 S=0 then Z7M r0 r1 r2 r3 S else[])∧Ext w w':=by
 have hck:=Z0U r0 r1 r2 r3 base n cap S
 simp only[Zh] at hck
 have hb:(w.alloc (.cells #[.int .i64 r0,.int .i64 r1,.int .i64 r2,.int .i64 r3,.slice base n cap] 70)).heap[w.heap.size]? =some (.cells #[.int .i64 r0,.int .i64 r1,.int .i64 r2,.int .i64 r3,.slice base n cap] 70):=by rw[Z3,if_pos rfl]
 have hE1:Ext w _:=(Ext.rfl' w).alloc (.cells #[.int .i64 r0,.int .i64 r1,.int .i64 r2,.int .i64 r3,.slice base n cap] 70)
 have hck2:=hck _ hlen (hS.ext hE1)
 clear hck
 by_cases hc0:ZC r0 r1 r2 r3 S=0
 ·obtain⟨_,h8,hok⟩:=Z0i hc0
  rw[if_pos hc0]
  rw[hc0] at hck2⊢
  clear hc0
  have hlen2:(S.map Ze).length=n:=by rw[List.length_map,hlen]
  have hn8:n≤8:=by omega
  have hsg:=fun w hS=>Z2c r0 r1 r2 r3 base cap w (S.map Ze) n hlen2 hn8 hS
  have hpk:=fun B p w hm hC hd=>Z7K r0 r1 r2 r3 base cap B n p (cvS r0 r1 r2 r3 (S.map Ze)) hn8 true 128 (fun a b=>decide (b<a)) w hm hC hd (fun args w=>by simp[go_sem]) Zc0
  simp only[Zh] at hsg
  go_enter func68,ntmps68
  go_wp2_with (first
   |(go_at_call 62;refine hck2.mono ?_;rintro e w2 ⟨rfl,hE2⟩;have hE3:=hE1.trans hE2;have hb2:=hE2.get hb;have q0:=Z0 hb2 0;have q1:=Z0 hb2 1;have q2:=Z0 hb2 2;have q3:=Z0 hb2 3;have q4:=Z0 hb2 4;simp only[List.getElem?_toArray,List.getElem?_cons_zero,List.getElem?_cons_succ] at q0 q1 q2 q3 q4)
   |(go_at_call 123;refine(hsg _ (Z4J (hS.ext hE3) hok)).mono ?_;rintro e w3 ⟨B,p,rfl,hE4,hC,_,_⟩;have hE5:=hE3.trans hE4)
   |(go_at_call 125;refine(hpk B p _ (hm.ext hE5) hC (hd.ext hE5)).mono ?_;rintro e w4 ⟨v,rfl,hv,hE6⟩))
  go_ret2
  exact⟨v,rfl,by rw[Z7M,hlen];exact hv.le hE5.size,hE5.trans hE6⟩
 ·rw[if_neg hc0]
  have hx:(ZC r0 r1 r2 r3 S !=0)=true:=by simpa using hc0
  clear hc0
  generalize ZC r0 r1 r2 r3 S=x at hx hck2⊢
  go_enter func68,ntmps68
  go_wp2_with (first
   |(go_at_call 62;refine hck2.mono ?_;rintro e w2 ⟨rfl,hE2⟩;have hE3:=hE1.trans hE2))
  go_ret2
  exact⟨_,rfl,World.ownsRow_nil _ _ _ _,hE3⟩
theorem ZhY(r0 r1 r2 r3:Int)(base:Option Addr)(n cap:Nat)(S:List Rs)(w:World)(hlen:S.length=n)(hS:RawS w base S)(hm:Most w):
 Calls prog 64 #[.agg #[.int .i64 r0,.int .i64 r1,.int .i64 r2,.int .i64 r3,.slice base n cap]] w fun e w'=>e= .returned (.tuple #[.bool (ZC r0 r1 r2 r3 S==0&&Zz (cvS r0 r1 r2 r3 (S.map Ze)) (2 ^ n - 1) n),.int .i64 (ZC r0 r1 r2 r3 S)])∧Ext w w':=by
 have hck:=Z0U r0 r1 r2 r3 base n cap S
 simp only[Zh] at hck
 have hb:(w.alloc (.cells #[.int .i64 r0,.int .i64 r1,.int .i64 r2,.int .i64 r3,.slice base n cap] 70)).heap[w.heap.size]? =some (.cells #[.int .i64 r0,.int .i64 r1,.int .i64 r2,.int .i64 r3,.slice base n cap] 70):=by rw[Z3,if_pos rfl]
 have hE1:Ext w _:=(Ext.rfl' w).alloc (.cells #[.int .i64 r0,.int .i64 r1,.int .i64 r2,.int .i64 r3,.slice base n cap] 70)
 have hck2:=hck _ hlen (hS.ext hE1)
 clear hck
 by_cases hc0:ZC r0 r1 r2 r3 S=0
 ·obtain⟨_,h8,hok⟩:=Z0i hc0
  rw[hc0] at hck2⊢
  clear hc0
  have hlen2:(S.map Ze).length=n:=by rw[List.length_map,hlen]
  have hn8:n≤8:=by omega
  have hsg:=fun w hS=>Z2c r0 r1 r2 r3 base cap w (S.map Ze) n hlen2 hn8 hS
  have hpow:=Z2Z hn8
  have hfit:=fun B p w hm hC=>Z7j r0 r1 r2 r3 (.slice base n cap) B n (2 ^ n - 1) p (cvS r0 r1 r2 r3 (S.map Ze)) hn8 hpow w hm hC
  have hev:=fun v w=>Z08 r0 r1 r2 r3 base n cap v hn8 w
  simp only[Zh] at hsg
  go_enter func64,ntmps64
  go_wp2_with (first
   |(go_at_call 62;refine hck2.mono ?_;rintro e w2 ⟨rfl,hE2⟩;have hE3:=hE1.trans hE2;have hb2:=hE2.get hb;have q0:=Z0 hb2 0;have q1:=Z0 hb2 1;have q2:=Z0 hb2 2;have q3:=Z0 hb2 3;have q4:=Z0 hb2 4;simp only[List.getElem?_toArray,List.getElem?_cons_zero,List.getElem?_cons_succ] at q0 q1 q2 q3 q4)
   |(go_at_call 123;refine(hsg _ (Z4J (hS.ext hE3) hok)).mono ?_;rintro e w3 ⟨B,p,rfl,hE4,hC,_,_⟩;have hE5:=hE3.trans hE4))
  have hEA:=hE5.alloc (.cells #[.int .i64 r0,.int .i64 r1,.int .i64 r2,.int .i64 r3,.slice base n cap,.slice (some ⟨B,0,none⟩) n n] 146)
  have hXA:=(Z3 w3 (.cells #[.int .i64 r0,.int .i64 r1,.int .i64 r2,.int .i64 r3,.slice base n cap,.slice (some ⟨B,0,none⟩) n n] 146) _).trans (if_pos rfl)
  have hCA:=hC.ext ((Ext.rfl' w3).alloc (.cells #[.int .i64 r0,.int .i64 r1,.int .i64 r2,.int .i64 r3,.slice base n cap,.slice (some ⟨B,0,none⟩) n n] 146))
  clear hC q0 q1 q2 q3 q4 hb2
  generalize World.alloc w3 _=w4 at hEA hXA hCA⊢
  have hmA:=hm.ext hEA
  have y0:=Z0 hXA 0;have y1:=Z0 hXA 1;have y2:=Z0 hXA 2;have y3:=Z0 hXA 3;have y4:=Z0 hXA 4;have y5:=Z0 hXA 5
  simp only[List.getElem?_toArray,List.getElem?_cons_zero,List.getElem?_cons_succ] at y0 y1 y2 y3 y4 y5
  go_region_with (
   first|(go_at_call 106;refine(hev _ _).mono ?_;rintro e w5 ⟨rfl,hE6⟩;have hE7:=(Ext.rfl' w4).drew.trans hE6;have x0:=hE7.cellS y0;have x1:=hE7.cellS y1;have x2:=hE7.cellS y2;have x3:=hE7.cellS y3;have x4:=hE7.cellS y4;have x5:=hE7.cellS y5)|(go_at_call 124;refine(hfit _ _ _ (hmA.ext hE7) (hCA.ext hE7)).mono ?_;rintro e w6 ⟨rfl,hE8⟩))
  all_goals
   go_wp2
   go_ret2
   exact⟨by rw[show((0:Int)==0)=true from rfl,Bool.true_and];rfl,(hEA.trans hE7).trans hE8⟩
 ·have hx:(ZC r0 r1 r2 r3 S !=0)=true:=by simpa using hc0
  have hx2:(ZC r0 r1 r2 r3 S==0)=false:=by simpa using hc0
  rw[hx2]
  clear hc0 hx2
  generalize ZC r0 r1 r2 r3 S=x at hx hck2⊢
  go_enter func64,ntmps64
  go_wp2_with (first
   |(go_at_call 62;refine hck2.mono ?_;rintro e w2 ⟨rfl,hE2⟩;have hE3:=hE1.trans hE2))
  go_ret2
  exact⟨rfl,hE3⟩
def Z1e(r0 r1 r2 r3:Int)(S:List Rs)(k:Int):Int:=firstV [ZC r0 r1 r2 r3 S,Z6r S.length k]
def Z68(r2 r3:Int)(s:Rs):Int×Int:=(lo s.m s.wi s.li r2 r3,hi s.M s.wi s.li r2 r3)
def Zau(r0 r1 r2 r3:Int)(S:List Rs)(k:Int):Int×Int:=if Z1e r0 r1 r2 r3 S k=0 then(match S[k.toNat]? with|some s=>Z68 r2 r3 s|none=>(0,0)) else(0,0)
theorem Z69(r0 r1 r2 r3:Int)(base:Option Addr)(n cap:Nat)(S:List Rs)(k:Int)(w:World)(hlen:S.length=n)(hn20:n≤20)(hS:RawS w base S):
 Calls prog 49 #[.agg #[.int .i64 r0,.int .i64 r1,.int .i64 r2,.int .i64 r3,.slice base n cap],.int .i64 k] w fun e w'=>e= .returned (.tuple #[.agg #[.int .i64 (Zau r0 r1 r2 r3 S k).1,.int .i64 (Zau r0 r1 r2 r3 S k).2],.int .i64 (Z1e r0 r1 r2 r3 S k)])∧Ext w w':=by
 have hE4:Ext w ((((w.alloc (.cells #[.int .i64 r0,.int .i64 r1,.int .i64 r2,.int .i64 r3,.slice base n cap] 70)).alloc (.cells #[.int .i64 k] 3)).alloc (.cells #[.int .i64 0,.int .i64 0] 48)).alloc (.cells #[.func (.func 107) #[] #[.pointer (some ⟨w.heap.size,0,none⟩)],.func (.func 108) #[] #[.pointer (some ⟨w.heap.size+1,0,none⟩),.pointer (some ⟨w.heap.size,0,none⟩)]] 127)):=((((Ext.rfl' w).alloc _).alloc _).alloc _).alloc _
 have hb:((((w.alloc (.cells #[.int .i64 r0,.int .i64 r1,.int .i64 r2,.int .i64 r3,.slice base n cap] 70)).alloc (.cells #[.int .i64 k] 3)).alloc (.cells #[.int .i64 0,.int .i64 0] 48)).alloc (.cells #[.func (.func 107) #[] #[.pointer (some ⟨w.heap.size,0,none⟩)],.func (.func 108) #[] #[.pointer (some ⟨w.heap.size+1,0,none⟩),.pointer (some ⟨w.heap.size,0,none⟩)]] 127)).heap[w.heap.size]? =some (.cells #[.int .i64 r0,.int .i64 r1,.int .i64 r2,.int .i64 r3,.slice base n cap] 70):=by
  simp only[Z3,Z2];rw[if_neg (by omega),if_neg (by omega),if_neg (by omega),if_pos trivial]
 have hk:((((w.alloc (.cells #[.int .i64 r0,.int .i64 r1,.int .i64 r2,.int .i64 r3,.slice base n cap] 70)).alloc (.cells #[.int .i64 k] 3)).alloc (.cells #[.int .i64 0,.int .i64 0] 48)).alloc (.cells #[.func (.func 107) #[] #[.pointer (some ⟨w.heap.size,0,none⟩)],.func (.func 108) #[] #[.pointer (some ⟨w.heap.size+1,0,none⟩),.pointer (some ⟨w.heap.size,0,none⟩)]] 127)).heap[w.heap.size+1]? =some (.cells #[.int .i64 k] 3):=by
  simp only[Z3,Z2];rw[if_neg (by omega),if_neg (by omega),if_pos trivial]
 have hz:((((w.alloc (.cells #[.int .i64 r0,.int .i64 r1,.int .i64 r2,.int .i64 r3,.slice base n cap] 70)).alloc (.cells #[.int .i64 k] 3)).alloc (.cells #[.int .i64 0,.int .i64 0] 48)).alloc (.cells #[.func (.func 107) #[] #[.pointer (some ⟨w.heap.size,0,none⟩)],.func (.func 108) #[] #[.pointer (some ⟨w.heap.size+1,0,none⟩),.pointer (some ⟨w.heap.size,0,none⟩)]] 127)).heap[w.heap.size+1+1]? =some (.cells #[.int .i64 0,.int .i64 0] 48):=by
  simp only[Z3,Z2];rw[if_neg (by omega),if_pos trivial]
 have hf:((((w.alloc (.cells #[.int .i64 r0,.int .i64 r1,.int .i64 r2,.int .i64 r3,.slice base n cap] 70)).alloc (.cells #[.int .i64 k] 3)).alloc (.cells #[.int .i64 0,.int .i64 0] 48)).alloc (.cells #[.func (.func 107) #[] #[.pointer (some ⟨w.heap.size,0,none⟩)],.func (.func 108) #[] #[.pointer (some ⟨w.heap.size+1,0,none⟩),.pointer (some ⟨w.heap.size,0,none⟩)]] 127)).heap[w.heap.size+1+1+1]? =some (.cells #[.func (.func 107) #[] #[.pointer (some ⟨w.heap.size,0,none⟩)],.func (.func 108) #[] #[.pointer (some ⟨w.heap.size+1,0,none⟩),.pointer (some ⟨w.heap.size,0,none⟩)]] 127):=by
  simp only[Z3,Z2];rw[if_pos trivial]
 have hfirst:=fun w4 (hE4:Ext w w4)(hb:w4.heap[w.heap.size]? =some (.cells #[.int .i64 r0,.int .i64 r1,.int .i64 r2,.int .i64 r3,.slice base n cap] 70))(hk:w4.heap[w.heap.size+1]? =some (.cells #[.int .i64 k] 3))(hf:w4.heap[w.heap.size+1+1+1]? =some (.cells #[.func (.func 107) #[] #[.pointer (some ⟨w.heap.size,0,none⟩)],.func (.func 108) #[] #[.pointer (some ⟨w.heap.size+1,0,none⟩),.pointer (some ⟨w.heap.size,0,none⟩)]] 127))=>
  Z1S (w.heap.size+1+1+1) 2 2 (fun i=>if i=0 then 107 else 108) (fun i=> #[]) (fun i=>if i=0 then #[.pointer (some ⟨w.heap.size,0,none⟩)] else #[.pointer (some ⟨w.heap.size+1,0,none⟩),.pointer (some ⟨w.heap.size,0,none⟩)]) [ZC r0 r1 r2 r3 S,Z6r n k] rfl (by omega) w4 (by
   intro i hi
   rw[Z0 hf]
   obtain rfl|rfl:i=0∨i=1:=by omega
   ·rfl
   ·rfl) (by
   intro i hi args w'
   obtain rfl|rfl:i=0∨i=1:=by omega
   ·simp[go_sem]
   ·simp[go_sem]) (by
   intro i x hx w' hE'
   match i,hx with
   |0,hx=>
    obtain rfl:=Option.some.inj hx
    exact ZcT r0 r1 r2 r3 base n cap S w' hlen (hS.ext (hE4.trans hE')) _ (hE'.get hb)
   |1,hx=>
    obtain rfl:=Option.some.inj hx
    exact ZcV r0 r1 r2 r3 base n cap hn20 w' _ (hE'.get hb) _ k (hE'.cellS (by rw[Z0 hk];rfl)))
 have hfl:firstV [ZC r0 r1 r2 r3 S,Z6r n k]=Z1e r0 r1 r2 r3 S k:=by rw[Z1e,hlen]
 rw[hfl] at hfirst
 clear hfl
 have hw2:w.heap.size≤w.heap.size+1+1:=by omega
 have hf2:=hfirst _ hE4 hb hk hf
 clear hfirst hf
 by_cases hc0:Z1e r0 r1 r2 r3 S k=0
 ·have hin:0≤k∧k<n:=by
   have h2:=firstV_all hc0 (Z6r S.length k) (by simp)
   unfold Z6r at h2
   rw[hlen] at h2
   split at h2
   ·assumption
   ·omega
  obtain⟨sh,hsh⟩:∃sh,S[k.toNat]? =some sh:=⟨_,List.getElem?_eq_getElem (by omega)⟩
  rw[Zau,if_pos hc0,hsh]
  simp only
  rw[hc0] at hf2⊢
  clear hc0
  obtain⟨b,off,rfl,hbl,hat⟩:=hS _ _ hsh
  have hwd:=fun w hbl hat=>Z39 r0 r1 r2 r3 sh.a sh.m sh.M sh.wi sh.li k b off n cap w hin.1 (by omega) hbl hat
  simp only[Zg,Z83] at hwd
  go_enter func49,ntmps49
  go_wp2_with (first
   |(go_at_call 90;refine hf2.mono ?_;rintro e w5 ⟨rfl,hE5⟩;have hE6:=hE4.trans hE5;have hb5:=hE5.get hb;have hk5:=hE5.get hk;have hz5:=hE5.get hz;have q0:=Z0 hb5 0;have q1:=Z0 hb5 1;have q2:=Z0 hb5 2;have q3:=Z0 hb5 3;have q4:=Z0 hb5 4;have q5:=Z0 hk5 0;simp only[List.getElem?_toArray,List.getElem?_cons_zero,List.getElem?_cons_succ] at q0 q1 q2 q3 q4 q5;clear hb hk hz)
   |(go_at_call 111;refine(hwd _ (hE6.lt hbl) ⟨hE6.cellS hat.c0,hE6.cellS hat.c1,hE6.cellS hat.c2,hE6.cellS hat.c3,hE6.cellS hat.c4⟩).mono ?_;rintro e w6 ⟨rfl,hG⟩;have hE7:=hE6.trans hG.ext;have hz6:=hG.ext.get hz5;have p:=Zc hz6;have p0:=p.1;have p1:=p.2.1;have p2:=p.2.2.1;have p3:=p.2.2.2;clear p))
  have hh:=Zc (set_pair hz6 (.int .i64 (lo sh.m sh.wi sh.li r2 r3)) (.int .i64 (hi sh.M sh.wi sh.li r2 r3)))
  have hh0:=hh.1;have hh1:=hh.2.1
  refine bodyPost_ret (v:= .tuple #[.agg #[.int .i64 (lo sh.m sh.wi sh.li r2 r3),.int .i64 (hi sh.M sh.wi sh.li r2 r3)],.int .i64 0]) ((Z01 rfl _ _ _).trans ?_) rfl ⟨rfl,(hE7.setCell _ _ hw2).setCell _ _ hw2⟩
  simp[go_sem,hh0,hh1]
 ·have hx:(Z1e r0 r1 r2 r3 S k !=0)=true:=by simpa using hc0
  rw[Zau,if_neg hc0]
  clear hc0
  generalize Z1e r0 r1 r2 r3 S k=x at hx hf2⊢
  go_enter func49,ntmps49
  go_wp2_with (first
   |(go_at_call 90;refine hf2.mono ?_;rintro e w5 ⟨rfl,hE5⟩;have hE6:=hE4.trans hE5;have hz5:=hE5.get hz;have p:=Zc hz5;have p0:=p.1;have p1:=p.2.1;have p2:=p.2.2.1;have p3:=p.2.2.2;clear p hb hk hz))
  have hh:=Zc (set_pair hz5 (.int .i64 0) (.int .i64 0))
  have hh0:=hh.1;have hh1:=hh.2.1
  refine bodyPost_ret (v:= .tuple #[.agg #[.int .i64 0,.int .i64 0],.int .i64 x]) ((Z01 rfl _ _ _).trans ?_) rfl ⟨rfl,(hE6.setCell _ _ hw2).setCell _ _ hw2⟩
  simp[go_sem,hh0,hh1]
end Go.Proofs.Tryq
namespace Go.Proofs.Tryq
open Go Go.Nk Go.RowKit
structure CardOk(r0 r1 r2 r3:Int)(S:List Rs):Prop where
 h0:0≤r0
 h1:r0≤r1∧r1≤999
 h2:0≤r2∧r2≤999
 h3:0≤r3∧r3≤999
 len:S.length≤8
 ok:∀s∈S,(0≤s.a∧s.a≤90)∧(0≤s.m∧s.m≤s.M∧s.M≤99999)∧(0≤s.wi∧s.wi≤9)∧(0≤s.li∧s.li≤9)
theorem Zav{r0 r1 r2 r3:Int}{S:List Rs}(h:ZC r0 r1 r2 r3 S=0):CardOk r0 r1 r2 r3 S:=by
 obtain⟨h1,h2,h3⟩:=Z0i h
 have hr:(okN r0 999&&okN r1 999&&okN r2 999&&okN r3 999&&decide (r0≤r1))=true:=by
  unfold Z5y at h1
  split at h1
  ·assumption
  ·cases h1
 simp only[okN,Bool.and_eq_true,decide_eq_true_eq] at hr
 refine⟨hr.1.1.1.1.1,⟨hr.2,hr.1.1.1.2.2⟩,hr.1.1.2,hr.1.2,h2,fun s hs=> ?_⟩
 have:=h3 s hs
 simp only[okS,okN,Bool.and_eq_true,decide_eq_true_eq] at this
 exact⟨this.1.1.1,this.1.1.2,this.1.2,this.2⟩
def Zcu(r0 r1 l c d:Int):Int:=if c≤d then l+r0*(d - c) else l - r1*(c - d)
def Zc1(r0 r1 h c d:Int):Int:=if c≤d then h+r1*(d - c) else h - r0*(c - d)
def Z5c(r2 r3:Int)(s:Rs):Int:=s.wi*r2+s.li*r3
def spV(r0 r1 r2 r3:Int)(s:Rs)(d:Int):Int×Int:=(Zcu r0 r1 (s.m - Z5c r2 r3 s) s.a d,Zc1 r0 r1 (s.M+Z5c r2 r3 s) s.a d)
def Zdx(r0 r1 r2 r3:Int)(s:Rs)(d:Int):Int×Int:=
 if s.a≤d then(wrap64 ((Z68 r2 r3 s).1+wrap64 (r0*wrap64 (d - s.a))),wrap64 ((Z68 r2 r3 s).2+wrap64 (r1*wrap64 (d - s.a))))
 else(wrap64 ((Z68 r2 r3 s).1 - wrap64 (r1*wrap64 (s.a - d))),wrap64 ((Z68 r2 r3 s).2 - wrap64 (r0*wrap64 (s.a - d))))
theorem Z6a(n:Int)(h: -9223372036854775808≤n∧n≤9223372036854775807):wrap64 n=n:=by unfold wrap64;omega
theorem Z1A{x y a b:Int}(h1:0≤x∧x≤a)(h2:0≤y∧y≤b):0≤x*y∧x*y≤a*b:=
 ⟨Int.mul_nonneg h1.1 h2.1,Int.mul_le_mul h1.2 h2.2 h2.1 (Int.le_trans h1.1 h1.2)⟩
section
variable {r0 r1 r2 r3:Int} {S:List Rs} (hc:CardOk r0 r1 r2 r3 S)
include hc
theorem Z7N{s:Rs}(hs:s∈S):0≤Z5c r2 r3 s∧Z5c r2 r3 s≤17982∧wrap64 (wrap64 (s.wi*r2)+wrap64 (s.li*r3))=Z5c r2 r3 s:=by
 obtain⟨_,_,h3,h4⟩:=hc.ok s hs
 have a1:=Z1A h3 hc.h2
 have a2:=Z1A h4 hc.h3
 unfold Z5c
 rw[Z6a (s.wi*r2) (by omega),Z6a (s.li*r3) (by omega),Z6a _ (by omega)]
 omega
theorem Zaw{s:Rs}(hs:s∈S):Z68 r2 r3 s=(s.m - Z5c r2 r3 s,s.M+Z5c r2 r3 s):=by
 obtain⟨h1,h2,h3⟩:=Z7N hc hs
 have h4:=(hc.ok s hs).2.1
 simp only[Z68,lo,hi,h3]
 rw[Z6a _ (by omega),Z6a _ (by omega)]
theorem Zax{s:Rs}(hs:s∈S){d:Int}(hd:0≤d∧d≤90):Zdx r0 r1 r2 r3 s d=spV r0 r1 r2 r3 s d:=by
 obtain⟨h1,h2,_⟩:=Z7N hc hs
 obtain⟨h5,h4,_⟩:=hc.ok s hs
 have e0:=hc.h0
 have e1:=hc.h1
 simp only[Zdx,spV,Zaw hc hs,Zcu,Zc1]
 by_cases hle:s.a≤d
 ·rw[if_pos hle,if_pos hle,if_pos hle]
  have a1:=Z1A (x:=r0) (y:=d - s.a) (a:=999) (b:=90) (by omega) (by omega)
  have a2:=Z1A (x:=r1) (y:=d - s.a) (a:=999) (b:=90) (by omega) (by omega)
  rw[Z6a (d - s.a) (by omega),Z6a (r0*(d - s.a)) (by omega),Z6a (r1*(d - s.a)) (by omega),Z6a _ (by omega),Z6a _ (by omega)]
 ·rw[if_neg hle,if_neg hle,if_neg hle]
  have a1:=Z1A (x:=r0) (y:=s.a - d) (a:=999) (b:=90) (by omega) (by omega)
  have a2:=Z1A (x:=r1) (y:=s.a - d) (a:=999) (b:=90) (by omega) (by omega)
  rw[Z6a (s.a - d) (by omega),Z6a (r0*(s.a - d)) (by omega),Z6a (r1*(s.a - d)) (by omega),Z6a _ (by omega),Z6a _ (by omega)]
omit hc in
theorem Zay{l r:Int}(hl: -1000000≤l∧l≤1000000)(hr:0≤r∧r≤999):∀n:Nat,n≤90→upI l r n=l+r*n
 |0,_=>by simp[upI]
 |n+1,hn=>by
  have a1:=Z1A (x:=r) (y:=(n:Int)) (a:=999) (b:=90) hr (by omega)
  rw[upI,Zay hl hr n (by omega),Z6a _ (by omega)]
  push_cast
  rw[Int.mul_add]
  omega
omit hc in
theorem Zaz{l r:Int}(hl: -1000000≤l∧l≤1000000)(hr:0≤r∧r≤999):∀n:Nat,n≤90→dnI l r n=l - r*n
 |0,_=>by simp[dnI]
 |n+1,hn=>by
  have a1:=Z1A (x:=r) (y:=(n:Int)) (a:=999) (b:=90) hr (by omega)
  rw[dnI,Zaz hl hr n (by omega),Z6a _ (by omega)]
  push_cast
  rw[Int.mul_add]
  omega
theorem Zeq{i:Nat}{s:Rs}(hs:S[i]? =some s){d:Nat}(hd:d≤90):cvS r0 r1 r2 r3 (S.map Ze) i d=spV r0 r1 r2 r3 s d:=by
 have hm:=List.mem_of_getElem? hs
 obtain⟨h1,h2,_⟩:=Z7N hc hm
 obtain⟨h5,h4,_⟩:=hc.ok s hm
 have e0:=hc.h0
 have e1:=hc.h1
 have hw:=Zaw hc hm
 simp only[Z68,Prod.mk.injEq] at hw
 have ht:((s.a.toNat:Nat):Int)=s.a:=Int.toNat_of_nonneg h5.1
 rw[cvS,List.getElem?_map,hs]
 simp only[Option.map_some,shL,shH,Ze,hw.1,hw.2,atC,spV,Zcu,Zc1]
 by_cases hle:s.a.toNat≤d
 ·rw[if_pos hle,if_pos (by omega),if_pos (by omega),Zay (by omega) (by omega) _ (by omega),Zay (by omega) (by omega) _ (by omega)]
  rw[show((d - s.a.toNat:Nat):Int)=(d:Int) - s.a by omega]
 ·rw[if_neg hle,if_neg (by omega),if_neg (by omega),Zaz (by omega) (by omega) _ (by omega),Zaz (by omega) (by omega) _ (by omega)]
  rw[show((s.a.toNat - d:Nat):Int)=s.a - (d:Int) by omega]
omit hc in
theorem Z7O{r0 r1 h c d e:Int}(h0:0≤r0)(h1:r0≤r1)(hde:d≤e):r0*(e - d)≤Zc1 r0 r1 h c e - Zc1 r0 r1 h c d∧Zc1 r0 r1 h c e - Zc1 r0 r1 h c d≤r1*(e - d):=by
 unfold Zc1
 have k1:=Int.mul_le_mul_of_nonneg_right h1 (show 0≤e - d by omega)
 by_cases a:c≤d
 ·rw[if_pos (by omega),if_pos a]
  rw[Int.mul_sub,Int.mul_sub] at k1
  simp only[Int.mul_sub]
  omega
 ·by_cases b:c≤e
  ·have k2:=Int.mul_le_mul_of_nonneg_right h1 (show 0≤e - c by omega)
   have k3:=Int.mul_le_mul_of_nonneg_right h1 (show 0≤c - d by omega)
   rw[if_pos b,if_neg a]
   simp only[Int.mul_sub] at k1 k2 k3⊢
   omega
  ·rw[if_neg b,if_neg a]
   simp only[Int.mul_sub] at k1⊢
   omega
theorem Zcv(s t:Rs)(d:Int):(spV r0 r1 r2 r3 s d).1 - (spV r0 r1 r2 r3 t d).2≤(spV r0 r1 r2 r3 s s.a).1 - (spV r0 r1 r2 r3 t s.a).2:=by
 simp only[spV]
 have e0:=hc.h0
 have e1:=hc.h1.1
 rcases Int.le_total s.a d with h|h
 ·have a1:=(Z7O (h:=t.M+Z5c r2 r3 t) (c:=t.a) e0 e1 h).1
  have a2:Zcu r0 r1 (s.m - Z5c r2 r3 s) s.a d=s.m - Z5c r2 r3 s+r0*(d - s.a):=if_pos h
  have a3:Zcu r0 r1 (s.m - Z5c r2 r3 s) s.a s.a=s.m - Z5c r2 r3 s+r0*(s.a - s.a):=if_pos (Int.le_refl _)
  rw[Int.sub_self,Int.mul_zero] at a3
  omega
 ·have a1:=(Z7O (h:=t.M+Z5c r2 r3 t) (c:=t.a) e0 e1 h).2
  have a3:Zcu r0 r1 (s.m - Z5c r2 r3 s) s.a s.a=s.m - Z5c r2 r3 s+r0*(s.a - s.a):=if_pos (Int.le_refl _)
  rw[Int.sub_self,Int.mul_zero] at a3
  by_cases hd:s.a≤d
  ·have:s.a=d:=by omega
   subst this
   omega
  ·have a2:Zcu r0 r1 (s.m - Z5c r2 r3 s) s.a d=s.m - Z5c r2 r3 s - r1*(s.a - d):=if_neg hd
   omega
theorem Zdy{s:Rs}(hs:s∈S){d:Int}(hd:0≤d∧d≤90): -1000000≤(spV r0 r1 r2 r3 s d).1∧(spV r0 r1 r2 r3 s d).1≤(spV r0 r1 r2 r3 s d).2∧(spV r0 r1 r2 r3 s d).2≤1000000:=by
 obtain⟨h1,h2,_⟩:=Z7N hc hs
 obtain⟨h5,h4,_⟩:=hc.ok s hs
 have e0:=hc.h0
 have e1:=hc.h1
 simp only[spV,Zcu,Zc1]
 by_cases hle:s.a≤d
 ·have a1:=Z1A (x:=r0) (y:=d - s.a) (a:=999) (b:=90) (by omega) (by omega)
  have a2:=Z1A (x:=r1) (y:=d - s.a) (a:=999) (b:=90) (by omega) (by omega)
  have a3:=Int.mul_le_mul_of_nonneg_right e1.1 (show 0≤d - s.a by omega)
  rw[if_pos hle,if_pos hle]
  omega
 ·have a1:=Z1A (x:=r0) (y:=s.a - d) (a:=999) (b:=90) (by omega) (by omega)
  have a2:=Z1A (x:=r1) (y:=s.a - d) (a:=999) (b:=90) (by omega) (by omega)
  have a3:=Int.mul_le_mul_of_nonneg_right e1.1 (show 0≤s.a - d by omega)
  rw[if_neg hle,if_neg hle]
  omega
end
theorem has_all:(List.range 256).all (fun k=>(List.range 8).all fun i=>has (k:Int) i==k.testBit i)=true:=by kernel_rfl
theorem Z3Q{k i:Nat}(hk:k<256)(hi:i<8):has (k:Int) i=k.testBit i:=by
 have:=List.all_eq_true.1 (List.all_eq_true.1 has_all k (List.mem_range.2 hk)) i (List.mem_range.2 hi)
 simpa using this
theorem Zcw(C:Nat→Nat→Int×Int)(set:Int)(d:Nat)(x:Int):∀n,(atF C set d n).1≤x↔-1099511627776≤x∧∀i,i<n→has set i=true→(C i d).1≤x
 |0=>by simp[atF]
 |n+1=>by
  have ih:=Zcw C set d x n
  rw[atF]
  by_cases h:has set n=true
  ·rw[if_pos h]
   simp only[Int.max_le,ih]
   constructor
   ·rintro⟨⟨h1,h2⟩,h3⟩
    refine⟨h1,fun i hi hh=> ?_⟩
    by_cases e:i=n
    ·subst e;exact h3
    ·exact h2 i (by omega) hh
   ·rintro⟨h1,h2⟩
    exact⟨⟨h1,fun i hi=>h2 i (by omega)⟩,h2 n (by omega) h⟩
  ·rw[if_neg h,ih]
   constructor
   ·rintro⟨h1,h2⟩
    refine⟨h1,fun i hi hh=> ?_⟩
    by_cases e:i=n
    ·subst e;exact absurd hh h
    ·exact h2 i (by omega) hh
   ·rintro⟨h1,h2⟩
    exact⟨h1,fun i hi=>h2 i (by omega)⟩
theorem Zcx(C:Nat→Nat→Int×Int)(set:Int)(d:Nat)(x:Int):∀n,x≤(atF C set d n).2↔x≤1099511627776∧∀i,i<n→has set i=true→x≤(C i d).2
 |0=>by simp[atF]
 |n+1=>by
  have ih:=Zcx C set d x n
  rw[atF]
  by_cases h:has set n=true
  ·rw[if_pos h]
   simp only[Int.le_min,ih]
   constructor
   ·rintro⟨⟨h1,h2⟩,h3⟩
    refine⟨h1,fun i hi hh=> ?_⟩
    by_cases e:i=n
    ·subst e;exact h3
    ·exact h2 i (by omega) hh
   ·rintro⟨h1,h2⟩
    exact⟨⟨h1,fun i hi=>h2 i (by omega)⟩,h2 n (by omega) h⟩
  ·rw[if_neg h,ih]
   constructor
   ·rintro⟨h1,h2⟩
    refine⟨h1,fun i hi hh=> ?_⟩
    by_cases e:i=n
    ·subst e;exact absurd hh h
    ·exact h2 i (by omega) hh
   ·rintro⟨h1,h2⟩
    exact⟨h1,fun i hi=>h2 i (by omega)⟩
def ZaA(x y:Int×Int):Int×Int:=(max x.1 y.1,min x.2 y.2)
def fromS(r0 r1 r2 r3:Int)(S:List Rs)(d:Int)(i:Int):Int×Int:=match S[i.toNat]? with
 |some s=>Zdx r0 r1 r2 r3 s d
 |none=>(0,0)
def Z57(r0 r1 r2 r3:Int)(S:List Rs)(d:Int):List Int→Int×Int
 |[]=>(0,0)
 |i::t=>t.foldl (fun x j=>ZaA x (fromS r0 r1 r2 r3 S d j)) (fromS r0 r1 r2 r3 S d i)
theorem ZaB(f:Int→Int×Int)(x:Int):∀(t:List Int)(y:Int×Int),(t.foldl (fun x j=>ZaA x (f j)) y).1≤x↔y.1≤x∧∀j∈t,(f j).1≤x
 |[],y=>by simp
 |j::t,y=>by
  rw[List.foldl_cons,ZaB f x t]
  simp only[ZaA,Int.max_le,List.forall_mem_cons,and_assoc]
theorem ZaC(f:Int→Int×Int)(x:Int):∀(t:List Int)(y:Int×Int),x≤(t.foldl (fun x j=>ZaA x (f j)) y).2↔x≤y.2∧∀j∈t,x≤(f j).2
 |[],y=>by simp
 |j::t,y=>by
  rw[List.foldl_cons,ZaC f x t]
  simp only[ZaA,Int.le_min,List.forall_mem_cons,and_assoc]
theorem ZaD{r0 r1 r2 r3:Int}{S:List Rs}{d x:Int}{l:List Int}(hl:l≠[]):(Z57 r0 r1 r2 r3 S d l).1≤x↔∀j∈l,(fromS r0 r1 r2 r3 S d j).1≤x:=by
 cases l with
 |nil=>exact absurd rfl hl
 |cons i t=>rw[Z57,ZaB,List.forall_mem_cons]
theorem Z6V{r0 r1 r2 r3:Int}{S:List Rs}{d x:Int}{l:List Int}(hl:l≠[]):x≤(Z57 r0 r1 r2 r3 S d l).2↔∀j∈l,x≤(fromS r0 r1 r2 r3 S d j).2:=by
 cases l with
 |nil=>exact absurd rfl hl
 |cons i t=>rw[Z57,ZaC,List.forall_mem_cons]
theorem Zc2{a b:Int}(h:∀x,a≤x↔b≤x):a=b:=Int.le_antisymm ((h b).2 (Int.le_refl _)) ((h a).1 (Int.le_refl _))
theorem Zc3{a b:Int}(h:∀x,x≤a↔x≤b):a=b:=Int.le_antisymm ((h a).1 (Int.le_refl _)) ((h b).2 (Int.le_refl _))
def ZN(k:Nat):List Int:=(bl k).map fun(i:Nat)=>(i:Int)
theorem Zc4{k:Nat}{p:Int}:p∈ZN k↔∃i:Nat,i<8∧k.testBit i=true∧p=i:=by
 simp only[ZN,bl,List.mem_map,List.mem_filter,List.mem_range]
 constructor
 ·rintro⟨i,⟨h1,h2⟩,rfl⟩;exact⟨i,h1,h2,rfl⟩
 ·rintro⟨i,h1,h2,rfl⟩;exact⟨i,⟨h1,h2⟩,rfl⟩
section
variable {r0 r1 r2 r3:Int} {S:List Rs} (hc:CardOk r0 r1 r2 r3 S)
include hc
omit hc in
theorem Z4l{k n i:Nat}(hk:k<2 ^ n)(h:k.testBit i=true):i<n:=by
 rcases Nat.lt_or_ge i n with h1|h1
 ·exact h1
 ·have:=Nat.testBit_lt_two_pow (Nat.lt_of_lt_of_le hk (Nat.pow_le_pow_right (by omega) h1))
  rw[this] at h
  cases h
theorem ZaE{k:Nat}(hk:k<2 ^ S.length)(h0:ZN k≠[]){d:Nat}(hd:d≤90):atF (cvS r0 r1 r2 r3 (S.map Ze)) k d S.length=Z57 r0 r1 r2 r3 S d (ZN k):=by
 have hk2:k<256:=Nat.lt_of_lt_of_le hk (by have:=Nat.pow_le_pow_right (n:=2) (by omega) hc.len;exact this)
 have key:∀i,i<S.length→k.testBit i=true→∃s,S[i]? =some s∧s∈S∧cvS r0 r1 r2 r3 (S.map Ze) i d=spV r0 r1 r2 r3 s d∧fromS r0 r1 r2 r3 S d i=spV r0 r1 r2 r3 s d:=by
  intro i hi hb
  obtain⟨s,hs⟩:∃s,S[i]? =some s:=⟨_,List.getElem?_eq_getElem hi⟩
  refine⟨s,hs,List.mem_of_getElem? hs,Zeq hc hs hd,?_⟩
  simp only[fromS,Int.toNat_natCast,hs]
  exact Zax hc (List.mem_of_getElem? hs) (by omega)
 have hlen:=hc.len
 obtain⟨p0,hp0⟩:∃p,p∈ZN k:=List.exists_mem_of_ne_nil _ h0
 obtain⟨i0,_,hi0,rfl⟩:=Zc4.1 hp0
 obtain⟨s0,_,hs0,he0,_⟩:=key i0 (Z4l hk hi0) hi0
 have hin:=Zdy hc hs0 (d:=d) (by omega)
 refine Prod.ext (Zc2 fun x=> ?_) (Zc3 fun x=> ?_)
 ·rw[Zcw,ZaD h0]
  constructor
  ·rintro⟨_,h⟩ j hj
   obtain⟨i,hi8,hi,rfl⟩:=Zc4.1 hj
   have hlt:=Z4l hk hi
   obtain⟨s,_,_,e1,e2⟩:=key i hlt hi
   rw[e2,←e1]
   exact h i hlt (by rw[Z3Q hk2 (by omega)];exact hi)
  ·intro h
   constructor
   ·have:=h _ hp0
    obtain⟨s,_,hs,_,e2⟩:=key i0 (Z4l hk hi0) hi0
    rw[e2] at this
    have:=Zdy hc hs (d:=d) (by omega)
    omega
   ·intro i hi hh
    rw[Z3Q hk2 (by omega)] at hh
    obtain⟨s,_,_,e1,e2⟩:=key i hi hh
    rw[e1,←e2]
    exact h i (Zc4.2 ⟨i,by omega,hh,rfl⟩)
 ·rw[Zcx,Z6V h0]
  constructor
  ·rintro⟨_,h⟩ j hj
   obtain⟨i,hi8,hi,rfl⟩:=Zc4.1 hj
   have hlt:=Z4l hk hi
   obtain⟨s,_,_,e1,e2⟩:=key i hlt hi
   rw[e2,←e1]
   exact h i hlt (by rw[Z3Q hk2 (by omega)];exact hi)
  ·intro h
   constructor
   ·have:=h _ hp0
    obtain⟨s,_,hs,_,e2⟩:=key i0 (Z4l hk hi0) hi0
    rw[e2] at this
    have:=Zdy hc hs (d:=d) (by omega)
    omega
   ·intro i hi hh
    rw[Z3Q hk2 (by omega)] at hh
    obtain⟨s,_,_,e1,e2⟩:=key i hi hh
    rw[e1,←e2]
    exact h i (Zc4.2 ⟨i,by omega,hh,rfl⟩)
def Z20(r0 r1 r2 r3:Int)(S:List Rs)(l:List Int):Bool:=l.all fun i=>match S[i.toNat]? with
 |some s=>decide ((Z57 r0 r1 r2 r3 S s.a l).1≤(Z57 r0 r1 r2 r3 S s.a l).2)
 |none=>false
def Z6W(r0 r1 r2 r3:Int)(s t:Rs):Prop:=(spV r0 r1 r2 r3 s s.a).1≤(spV r0 r1 r2 r3 t s.a).2
theorem Z58{l:List Int}(hl:∀p∈l,0≤p∧p<S.length)(h0:l≠[]){d:Int}(hd:0≤d∧d≤90):(Z57 r0 r1 r2 r3 S d l).1≤(Z57 r0 r1 r2 r3 S d l).2↔∀i∈l,∀j∈l,∀s t,S[i.toNat]? =some s→S[j.toNat]? =some t→(spV r0 r1 r2 r3 s d).1≤(spV r0 r1 r2 r3 t d).2:=by
 have key:∀i s,S[i.toNat]? =some s→fromS r0 r1 r2 r3 S d i=spV r0 r1 r2 r3 s d:=by
  intro i s hs
  simp only[fromS,hs]
  exact Zax hc (List.mem_of_getElem? hs) hd
 rw[ZaD h0]
 constructor
 ·intro h i hi j hj s t hs ht
  have:=h i hi
  rw[Z6V h0] at this
  have:=this j hj
  rw[key i s hs,key j t ht] at this
  exact this
 ·intro h i hi
  rw[Z6V h0]
  intro j hj
  have hi2:=hl i hi
  have hj2:=hl j hj
  obtain⟨s,hs⟩:∃s,S[i.toNat]? =some s:=⟨_,List.getElem?_eq_getElem (by omega)⟩
  obtain⟨t,ht⟩:∃s,S[j.toNat]? =some s:=⟨_,List.getElem?_eq_getElem (by omega)⟩
  rw[key i s hs,key j t ht]
  exact h i hi j hj s t hs ht
theorem Z8D{l:List Int}(hl:∀p∈l,0≤p∧p<S.length):Z20 r0 r1 r2 r3 S l=true↔∀i∈l,∀j∈l,∀s t,S[i.toNat]? =some s→S[j.toNat]? =some t→Z6W r0 r1 r2 r3 s t:=by
 unfold Z20 Z6W
 rw[List.all_eq_true]
 constructor
 ·intro h i hi j hj s t hs ht
  have h1:=h i hi
  rw[hs] at h1
  simp only[decide_eq_true_eq] at h1
  rw[Z58 hc hl (List.ne_nil_of_mem hi) ((hc.ok s (List.mem_of_getElem? hs)).1)] at h1
  exact h1 i hi j hj s t hs ht
 ·intro h i hi
  have hi2:=hl i hi
  obtain⟨s,hs⟩:∃s,S[i.toNat]? =some s:=⟨_,List.getElem?_eq_getElem (by omega)⟩
  rw[hs]
  simp only[decide_eq_true_eq]
  rw[Z58 hc hl (List.ne_nil_of_mem hi) ((hc.ok s (List.mem_of_getElem? hs)).1)]
  intro i' hi' j hj s' t hs' ht
  have h1:=h i' hi' j hj s' t hs' ht
  have h2:=Zcv hc s' t s.a
  omega
theorem Z6X{k:Nat}(hk:k<2 ^ S.length):Zz (cvS r0 r1 r2 r3 (S.map Ze)) k S.length=Z20 r0 r1 r2 r3 S (ZN k):=by
 have hlen:=hc.len
 have hl:∀p∈ZN k,0≤p∧p<S.length:=by
  intro p hp
  obtain⟨i,_,hi,rfl⟩:=Zc4.1 hp
  have:=Z4l hk hi
  omega
 by_cases h0:ZN k=[]
 ·rw[h0]
  have hz:∀i,i<8→k.testBit i=false:=by
   intro i hi
   cases hb:k.testBit i with
   |false=>rfl
   |true=>
    have:(i:Int)∈ZN k:=Zc4.2 ⟨i,hi,hb,rfl⟩
    rw[h0] at this
    cases this
  have hk2:k<256:=Nat.lt_of_lt_of_le hk (by have:=Nat.pow_le_pow_right (n:=2) (by omega) hc.len;exact this)
  have hat:∀d n,n≤8→atF (cvS r0 r1 r2 r3 (S.map Ze)) k d n=(-1099511627776,1099511627776):=by
   intro d n
   induction n with
   |zero=>intro _;rfl
   |succ n ih=>
    intro hn
    rw[atF,Z3Q hk2 (by omega),hz n (by omega),if_neg (by decide),ih (by omega)]
  rw[Zz,Z22,show Z20 r0 r1 r2 r3 S []=true from rfl,List.all_eq_true]
  intro d _
  rw[hat d _ hlen]
  decide
 ·rw[Bool.eq_iff_iff,Z8D hc hl,Zz,Z22,List.all_eq_true]
  constructor
  ·intro h i hi j hj s t hs ht
   have hsa:=(hc.ok s (List.mem_of_getElem? hs)).1
   have h1:=h s.a.toNat (List.mem_range.2 (by omega))
   simp only[decide_eq_true_eq] at h1
   rw[ZaE hc hk h0 (by omega),Int.toNat_of_nonneg hsa.1,Z58 hc hl h0 hsa] at h1
   exact h1 i hi j hj s t hs ht
  ·intro h d hd
   have hd90:=List.mem_range.1 hd
   simp only[decide_eq_true_eq]
   rw[ZaE hc hk h0 (by omega),Z58 hc hl h0 (by omega)]
   intro i hi j hj s t hs ht
   have h1:=h i hi j hj s t hs ht
   unfold Z6W at h1
   have h2:=Zcv hc s t d
   omega
end
end Go.Proofs.Tryq
