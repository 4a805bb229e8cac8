import Derived.Test.YtedkbdkbbnemlaaGreatDoorNk22
import Derived.Lib.Hide
set_option linter.all false
namespace Go.Proofs.Tryq
open Go Go.Nk Go.RowKit
theorem chooseR_mem:∀(s c:List Int),c∈chooseR s->List.Sublist c s
 |[],c,h=>by cases List.mem_singleton.1 h;exact List.Sublist.refl _
 |x::t,c,h=>by
  rcases List.mem_cons.1 h with rfl|h
  ·exact List.nil_sublist _
  ·rcases List.mem_append.1 h with h|h
   ·obtain⟨y,hy,rfl⟩:=List.mem_map.1 h;exact(chooseR_mem t y hy).cons_cons x
   ·exact(chooseR_mem t c (List.mem_of_mem_tail h)).cons x
theorem mem_chooseR:∀(s c:List Int),List.Sublist c s->c∈chooseR s
 |[],c,h=>by rw[List.sublist_nil.1 h];simp[chooseR]
 |x::t,c,h=>by
  cases c with
  |nil=>exact List.mem_cons_self
  |cons y c=>
   rw[chooseR];refine List.mem_cons_of_mem _ (List.mem_append.2 ?_);cases h with
   |cons _ h=>
    right
    have:=mem_chooseR t _ h;rw[chooseR_head] at this;rcases List.mem_cons.1 this with h2|h2
    ·cases h2
    ·exact h2
   |cons_cons _ h=>exact .inl (List.mem_map.2 ⟨c,mem_chooseR t c h,rfl⟩)
end Go.Proofs.Tryq
namespace Go.Proofs.Tryq
set_option maxRecDepth 100000
set_option maxHeartbeats 4000000
open Go Go.Nk Go.RowKit
def Zm(f:Nat->Bool)(bt:Int->Int->Bool):Nat->Nat×Bool
 |0=>(0,false)
 |k+1=>if f k&&(!(Zm f bt k).2||bt (bl k).length (bl (Zm f bt k).1).length||((bl k).length==(bl (Zm f bt k).1).length&&Z1g k (Zm f bt k).1)) then(k,true) else Zm f bt k
theorem Z56(f:Nat->Bool)(bt:Int->Int->Bool):∀k,k<=256->(Zm f bt k).1<256
 |0,_=>by simp[Zm]
 |k+1,h=>by
  rw[Zm];split
  ·simp;omega
  ·exact Z56 f bt k (by omega)
theorem Z7K(r0 r1 r2 r3:Int)(base:Option Addr)(cap B n:Nat)(p:Nat->Nat)(C:Nat->Nat->Int×Int)(hn:n<=8)(ft:Bool)(g:FuncId)(bt:Int->Int->Bool)(w:World)(hm:Most w)(hC:Cv w B n p C)(hd:Deb w)
 (F5:∀args w,(callFunc g args).run prog w= .ok (.enter g args) w)(hgc:∀a b w,Calls prog g #[.int .i64 a,.int .i64 b] w fun e w'=>e= .returned (.bool (bt a b))/\w'=w):
 Calls prog 125 #[.agg #[.int .i64 r0,.int .i64 r1,.int .i64 r2,.int .i64 r3,.slice base n cap,.slice (some ⟨B,0,none⟩) n n],.bool ft,.func (.func g) #[] #[]] w fun e w'=>
  ∃v,e= .returned (.tuple #[v,.bool (Zm (fun k=>Zz C k n==ft) bt (2 ^ n)).2])/\OwnI w.heap.size w' v ((bl (Zm (fun k=>Zz C k n==ft) bt (2 ^ n)).1).map fun(i:Nat)=>(i:Int))/\Ext w w':=by
 have Mi:=Z2Z hn;have Be:=fun v w'=>Z08 r0 r1 r2 r3 base n cap v hn w'
 go_enter func125,ntmps125;have hc:(w.alloc (.cells #[.int .i64 r0,.int .i64 r1,.int .i64 r2,.int .i64 r3,.slice base n cap,.slice (some ⟨B,0,none⟩) n n] 146)).heap[w.heap.size]? =some (.cells #[.int .i64 r0,.int .i64 r1,.int .i64 r2,.int .i64 r3,.slice base n cap,.slice (some ⟨B,0,none⟩) n n] 146):=by rw[Z3,if_pos rfl]
 have As:=(Ext.rfl' w).alloc (.cells #[.int .i64 r0,.int .i64 r1,.int .i64 r2,.int .i64 r3,.slice base n cap,.slice (some ⟨B,0,none⟩) n n] 146)
 go_wp2_with (first
  |(go_at_call 106;refine(Be _ _).mono ?_;rintro e w2 ⟨rfl,A7⟩;have Cw:=A7.get hc))
 have Av:=As.trans A7;have Lm:((2:Int) ^ n)=((2 ^ n:Nat):Int):=by push_cast;rfl
 have Dm:2 ^ n<=256:=by omega
 rw[Lm];clear Lm Mi A7 hc As;obtain⟨m,Hm⟩:∃m,m=2 ^ n:=⟨_,rfl⟩;rw[<-Hm] at Dm⊢;replace Hm:=Lib.hid Hm;go_loopw [8,9,16] (fun vb vf vk wr=>∃k:Nat,k<=m/\vk= .int .i64 k/\vb= .int .i64 ((Zm (fun k=>Zz C k n==ft) bt k).1:Nat)/\vf= .bool (Zm (fun k=>Zz C k n==ft) bt k).2/\Ext w wr/\wr.heap[w.heap.size]? =some (.cells #[.int .i64 r0,.int .i64 r1,.int .i64 r2,.int .i64 r3,.slice base n cap,.slice (some ⟨B,0,none⟩) n n] 146)) (fun _ _ vk _=>m - (intOf vk).toNat)
 case atStart=>exact⟨0,Nat.zero_le _,rfl,rfl,rfl,Av,Cw⟩
 case round=>
  obtain⟨k,hk,rfl,rfl,rfl,hE,Cx⟩:=hrel;clear Av Cw;have c0:=Z0 Cx 0;have c1:=Z0 Cx 1;have c2:=Z0 Cx 2;have c3:=Z0 Cx 3;have c4:=Z0 Cx 4;have c5:=Z0 Cx 5;simp only[List.getElem?_toArray,List.getElem?_cons_zero,List.getElem?_cons_succ] at c0 c1 c2 c3 c4 c5;have Bg:=Z56 (fun k=>Zz C k n==ft) bt k (by omega);by_cases Jw:k=m
  ·subst Jw;have Wi:=fun w hd=>ZbS _ Bg w hd
   go_wp2_with (first|(go_at_call 158;refine(Wi _ (hd.ext hE)).mono ?_;rintro e w9 ⟨v,rfl,hv,Dg⟩))
   go_ret2;rw[<-Hm.out];exact⟨v,rfl,hv.le hE.size,hE.trans Dg⟩
  ·have B1:k<256:=by omega
   have Em:=Z7j r0 r1 r2 r3 (.slice base n cap) B n (k:Int) p C hn (by omega) wr (hm.ext hE) (hC.ext hE);have H:Hid (Zm (fun k=>Zz C k n==ft) bt (k+1)=if(Zz C k n==ft)&&(!(Zm (fun k=>Zz C k n==ft) bt k).2||bt (bl k).length (bl (Zm (fun k=>Zz C k n==ft) bt k).1).length||((bl k).length==(bl (Zm (fun k=>Zz C k n==ft) bt k).1).length&&Z1g k (Zm (fun k=>Zz C k n==ft) bt k).1)) then(k,true) else Zm (fun k=>Zz C k n==ft) bt k):=rfl;generalize Zm (fun k=>Zz C k n==ft) bt k=P at H Bg⊢;obtain⟨b,f⟩:=P;have Wj:(0:Int)<=(k:Int):=by omega
   have F4:(k:Int)<256:=by omega
   have Jg:(0:Int)<=(b:Int):=by omega
   have B5:(b:Int)<256:=by have:b<256:=Bg;omega
   have Lh:=fun w=>Z7k k B1 w
   have Hh:=fun w=>Z7k b Bg w
   have C1:=fun w=>hgc (bl k).length (bl b).length w
   have Ka:=fun w=>Z89 (k:Int) (b:Int) ⟨Wj,F4⟩ ⟨Jg,B5⟩ w
   simp only at H Hh C1 Ka;have hkm2:((k:Int)<(m:Int)):=by omega
   generalize (bl k).length=x at H Lh C1;generalize (bl b).length=y at H Hh C1;generalize Z1g (k:Int) (b:Int)=l at H Ka;generalize Zz C (k:Int) n=q at H Em;generalize bt (x:Int) (y:Int)=t at H C1;by_cases hq:q=ft
   ·subst hq;cases f
    ·have e':Zm (fun k=>Zz C k n==q) bt (k+1)=(k,true):=(by rw[H];simp);replace e':=Lib.hid e';clear H
     go_wp2_with (first
     |(go_at_call 124;refine Em.mono ?_;rintro e w2 ⟨rfl,A7⟩;have hW:=hE.trans A7;have Is:=A7.get Cx;clear c0 c1 c2 c3 c4 c5)
     |(go_at_call 156;refine(Lh _).mono ?_;rintro e w2 ⟨rfl,rfl⟩)
     |(go_at_call 156;refine(Hh _).mono ?_;rintro e w2 ⟨rfl,rfl⟩)
     |(go_at_call 157;refine(Ka _).mono ?_;rintro e w2 ⟨rfl,rfl⟩)
     |(refine(C1 _).mono ?_;rintro e w2 ⟨rfl,rfl⟩))
     go_roundw
     case rel=>exact⟨k+1,by omega,by push_cast;rfl,by rw[e'.out],by rw[e'.out],hW,Is⟩
     case measure=>simp[intOf];omega
    ·cases t
     ·by_cases Cl:x=y
      ·subst Cl;have Gf:(((x:Int)==(x:Int)))=true:=(by simp);cases l
       ·have e':Zm (fun k=>Zz C k n==q) bt (k+1)=(b,true):=(by rw[H];simp);replace e':=Lib.hid e';clear H
        go_wp2_with (first
        |(go_at_call 124;refine Em.mono ?_;rintro e w2 ⟨rfl,A7⟩;have hW:=hE.trans A7;have Is:=A7.get Cx;clear c0 c1 c2 c3 c4 c5)
        |(go_at_call 156;refine(Lh _).mono ?_;rintro e w2 ⟨rfl,rfl⟩)
        |(go_at_call 156;refine(Hh _).mono ?_;rintro e w2 ⟨rfl,rfl⟩)
        |(go_at_call 157;refine(Ka _).mono ?_;rintro e w2 ⟨rfl,rfl⟩)
        |(refine(C1 _).mono ?_;rintro e w2 ⟨rfl,rfl⟩))
        go_roundw
        case rel=>exact⟨k+1,by omega,by push_cast;rfl,by rw[e'.out],by rw[e'.out],hW,Is⟩
        case measure=>simp[intOf];omega
       ·have e':Zm (fun k=>Zz C k n==q) bt (k+1)=(k,true):=(by rw[H];simp);replace e':=Lib.hid e';clear H
        go_wp2_with (first
        |(go_at_call 124;refine Em.mono ?_;rintro e w2 ⟨rfl,A7⟩;have hW:=hE.trans A7;have Is:=A7.get Cx;clear c0 c1 c2 c3 c4 c5)
        |(go_at_call 156;refine(Lh _).mono ?_;rintro e w2 ⟨rfl,rfl⟩)
        |(go_at_call 156;refine(Hh _).mono ?_;rintro e w2 ⟨rfl,rfl⟩)
        |(go_at_call 157;refine(Ka _).mono ?_;rintro e w2 ⟨rfl,rfl⟩)
        |(refine(C1 _).mono ?_;rintro e w2 ⟨rfl,rfl⟩))
        go_roundw
        case rel=>exact⟨k+1,by omega,by push_cast;rfl,by rw[e'.out],by rw[e'.out],hW,Is⟩
        case measure=>simp[intOf];omega
      ·have Gf:(((x:Int)==(y:Int)))=false:=(by simp;omega);have e':Zm (fun k=>Zz C k n==q) bt (k+1)=(b,true):=(by rw[H];simp[Cl]);replace e':=Lib.hid e';clear H
       go_wp2_with (first
       |(go_at_call 124;refine Em.mono ?_;rintro e w2 ⟨rfl,A7⟩;have hW:=hE.trans A7;have Is:=A7.get Cx;clear c0 c1 c2 c3 c4 c5)
       |(go_at_call 156;refine(Lh _).mono ?_;rintro e w2 ⟨rfl,rfl⟩)
       |(go_at_call 156;refine(Hh _).mono ?_;rintro e w2 ⟨rfl,rfl⟩)
       |(go_at_call 157;refine(Ka _).mono ?_;rintro e w2 ⟨rfl,rfl⟩)
       |(refine(C1 _).mono ?_;rintro e w2 ⟨rfl,rfl⟩))
       go_roundw
       case rel=>exact⟨k+1,by omega,by push_cast;rfl,by rw[e'.out],by rw[e'.out],hW,Is⟩
       case measure=>simp[intOf];omega
     ·have e':Zm (fun k=>Zz C k n==q) bt (k+1)=(k,true):=(by rw[H];simp);replace e':=Lib.hid e';clear H
      go_wp2_with (first
      |(go_at_call 124;refine Em.mono ?_;rintro e w2 ⟨rfl,A7⟩;have hW:=hE.trans A7;have Is:=A7.get Cx;clear c0 c1 c2 c3 c4 c5)
      |(go_at_call 156;refine(Lh _).mono ?_;rintro e w2 ⟨rfl,rfl⟩)
      |(go_at_call 156;refine(Hh _).mono ?_;rintro e w2 ⟨rfl,rfl⟩)
      |(go_at_call 157;refine(Ka _).mono ?_;rintro e w2 ⟨rfl,rfl⟩)
      |(refine(C1 _).mono ?_;rintro e w2 ⟨rfl,rfl⟩))
      go_roundw
      case rel=>exact⟨k+1,by omega,by push_cast;rfl,by rw[e'.out],by rw[e'.out],hW,Is⟩
      case measure=>simp[intOf];omega
   ·cases q<;>cases ft<;>first
     |exact absurd rfl hq
     |(
       have e':=H.trans (if_neg (by simp));replace e':=Lib.hid e';clear H
       go_wp2_with (first
       |(go_at_call 124;refine Em.mono ?_;rintro e w2 ⟨rfl,A7⟩;have hW:=hE.trans A7;have Is:=A7.get Cx;clear c0 c1 c2 c3 c4 c5)
       |(go_at_call 156;refine(Lh _).mono ?_;rintro e w2 ⟨rfl,rfl⟩)
       |(go_at_call 156;refine(Hh _).mono ?_;rintro e w2 ⟨rfl,rfl⟩)
       |(go_at_call 157;refine(Ka _).mono ?_;rintro e w2 ⟨rfl,rfl⟩)
       |(refine(C1 _).mono ?_;rintro e w2 ⟨rfl,rfl⟩))
       go_roundw
       case rel=>exact⟨k+1,by omega,by push_cast;rfl,by rw[e'.out],by rw[e'.out],hW,Is⟩
       case measure=>simp[intOf];omega)
end Go.Proofs.Tryq
namespace Go.Proofs.Tryq
set_option maxRecDepth 100000
set_option maxHeartbeats 1000000
open Go Go.Nk Go.RowKit
theorem ZbZ(a b:Int)(w:World):Calls prog 126 #[.int .i64 a,.int .i64 b] w fun e w'=>e= .returned (.bool (decide (a<b)))/\w'=w:=by
 go_enter func126,ntmps126;go_wp2;go_ret;exact⟨rfl,rfl⟩
theorem Zc0(a b:Int)(w:World):Calls prog 128 #[.int .i64 a,.int .i64 b] w fun e w'=>e= .returned (.bool (decide (b<a)))/\w'=w:=by
 go_enter func128,ntmps128;go_wp2;go_ret;exact⟨rfl,rfl⟩
def Z7L(r0 r1 r2 r3:Int)(S:List Rs):List Int:=(bl (Zm (fun k=>Zz (cvS r0 r1 r2 r3 (S.map Ze)) k S.length==false) (fun a b=>decide (a<b)) (2 ^ S.length)).1).map fun(i:Nat)=>(i:Int)
def Z7M(r0 r1 r2 r3:Int)(S:List Rs):List Int:=(bl (Zm (fun k=>Zz (cvS r0 r1 r2 r3 (S.map Ze)) k S.length==true) (fun a b=>decide (b<a)) (2 ^ S.length)).1).map fun(i:Nat)=>(i:Int)
theorem Zas(r0 r1 r2 r3:Int)(base:Option Addr)(n cap:Nat)(S:List Rs)(w:World)(A2:S.length=n)(hS:RawS w base S)(hm:Most w)(hd:Deb w):
 Calls prog 66 #[.agg #[.int .i64 r0,.int .i64 r1,.int .i64 r2,.int .i64 r3,.slice base n cap]] w fun e w'=>∃v,e= .returned (.tuple #[v,.int .i64 (ZC r0 r1 r2 r3 S)])/\OwnI w.heap.size w' v (if ZC r0 r1 r2 r3 S=0 then Z7L r0 r1 r2 r3 S else[])/\Ext w w':=by
 have C4:=Z0U r0 r1 r2 r3 base n cap S;simp only[Zh] at C4;have hb:(w.alloc (.cells #[.int .i64 r0,.int .i64 r1,.int .i64 r2,.int .i64 r3,.slice base n cap] 70)).heap[w.heap.size]? =some (.cells #[.int .i64 r0,.int .i64 r1,.int .i64 r2,.int .i64 r3,.slice base n cap] 70):=by rw[Z3,if_pos rfl]
 have As:Ext w _:=(Ext.rfl' w).alloc (.cells #[.int .i64 r0,.int .i64 r1,.int .i64 r2,.int .i64 r3,.slice base n cap] 70);have Ez:=C4 _ A2 (hS.ext As);clear C4;by_cases Cy:ZC r0 r1 r2 r3 S=0
 ·obtain⟨_,h8,Bi⟩:=Z0i Cy;rw[if_pos Cy];rw[Cy] at Ez⊢;clear Cy;have Ct:(S.map Ze).length=n:=by rw[List.length_map,A2]
  have Dx:n<=8:=by omega
  have Jf:=fun w hS=>Z2c r0 r1 r2 r3 base cap w (S.map Ze) n Ct Dx hS
  have Wk:=fun B p w hm hC hd=>Z7K r0 r1 r2 r3 base cap B n p (cvS r0 r1 r2 r3 (S.map Ze)) Dx false 126 (fun a b=>decide (a<b)) w hm hC hd (fun args w=>by simp[go_sem]) ZbZ
  simp only[Zh] at Jf;go_enter func66,ntmps66
  go_wp2_with (first
   |(go_at_call 62;refine Ez.mono ?_;rintro e w2 ⟨rfl,A7⟩;have Av:=As.trans A7;have Ar:=A7.get hb;have q0:=Z0 Ar 0;have q1:=Z0 Ar 1;have q2:=Z0 Ar 2;have q3:=Z0 Ar 3;have q4:=Z0 Ar 4;simp only[List.getElem?_toArray,List.getElem?_cons_zero,List.getElem?_cons_succ] at q0 q1 q2 q3 q4)
   |(go_at_call 123;refine(Jf _ (Z4J (hS.ext Av) Bi)).mono ?_;rintro e w3 ⟨B,p,rfl,An,hC,_,_⟩;have B4:=Av.trans An)
   |(go_at_call 125;refine(Wk B p _ (hm.ext B4) hC (hd.ext B4)).mono ?_;rintro e w4 ⟨v,rfl,hv,Bv⟩))
  go_ret2;exact⟨v,rfl,by rw[Z7L,A2];exact hv.le B4.size,B4.trans Bv⟩
 ·rw[if_neg Cy];have hx:(ZC r0 r1 r2 r3 S !=0)=true:=by simpa using Cy
  clear Cy;generalize ZC r0 r1 r2 r3 S=x at hx Ez⊢;go_enter func66,ntmps66
  go_wp2_with (first
   |(go_at_call 62;refine Ez.mono ?_;rintro e w2 ⟨rfl,A7⟩;have Av:=As.trans A7))
  go_ret2;exact⟨_,rfl,World.ownsRow_nil _ _ _ _,Av⟩
theorem Zat(r0 r1 r2 r3:Int)(base:Option Addr)(n cap:Nat)(S:List Rs)(w:World)(A2:S.length=n)(hS:RawS w base S)(hm:Most w)(hd:Deb w):
 Calls prog 68 #[.agg #[.int .i64 r0,.int .i64 r1,.int .i64 r2,.int .i64 r3,.slice base n cap]] w fun e w'=>∃v,e= .returned (.tuple #[v,.int .i64 (ZC r0 r1 r2 r3 S)])/\OwnI w.heap.size w' v (if ZC r0 r1 r2 r3 S=0 then Z7M r0 r1 r2 r3 S else[])/\Ext w w':=by
 have C4:=Z0U r0 r1 r2 r3 base n cap S;simp only[Zh] at C4;have hb:(w.alloc (.cells #[.int .i64 r0,.int .i64 r1,.int .i64 r2,.int .i64 r3,.slice base n cap] 70)).heap[w.heap.size]? =some (.cells #[.int .i64 r0,.int .i64 r1,.int .i64 r2,.int .i64 r3,.slice base n cap] 70):=by rw[Z3,if_pos rfl]
 have As:Ext w _:=(Ext.rfl' w).alloc (.cells #[.int .i64 r0,.int .i64 r1,.int .i64 r2,.int .i64 r3,.slice base n cap] 70);have Ez:=C4 _ A2 (hS.ext As);clear C4;by_cases Cy:ZC r0 r1 r2 r3 S=0
 ·obtain⟨_,h8,Bi⟩:=Z0i Cy;rw[if_pos Cy];rw[Cy] at Ez⊢;clear Cy;have Ct:(S.map Ze).length=n:=by rw[List.length_map,A2]
  have Dx:n<=8:=by omega
  have Jf:=fun w hS=>Z2c r0 r1 r2 r3 base cap w (S.map Ze) n Ct Dx hS
  have Wk:=fun B p w hm hC hd=>Z7K r0 r1 r2 r3 base cap B n p (cvS r0 r1 r2 r3 (S.map Ze)) Dx true 128 (fun a b=>decide (b<a)) w hm hC hd (fun args w=>by simp[go_sem]) Zc0
  simp only[Zh] at Jf;go_enter func68,ntmps68
  go_wp2_with (first
   |(go_at_call 62;refine Ez.mono ?_;rintro e w2 ⟨rfl,A7⟩;have Av:=As.trans A7;have Ar:=A7.get hb;have q0:=Z0 Ar 0;have q1:=Z0 Ar 1;have q2:=Z0 Ar 2;have q3:=Z0 Ar 3;have q4:=Z0 Ar 4;simp only[List.getElem?_toArray,List.getElem?_cons_zero,List.getElem?_cons_succ] at q0 q1 q2 q3 q4)
   |(go_at_call 123;refine(Jf _ (Z4J (hS.ext Av) Bi)).mono ?_;rintro e w3 ⟨B,p,rfl,An,hC,_,_⟩;have B4:=Av.trans An)
   |(go_at_call 125;refine(Wk B p _ (hm.ext B4) hC (hd.ext B4)).mono ?_;rintro e w4 ⟨v,rfl,hv,Bv⟩))
  go_ret2;exact⟨v,rfl,by rw[Z7M,A2];exact hv.le B4.size,B4.trans Bv⟩
 ·rw[if_neg Cy];have hx:(ZC r0 r1 r2 r3 S !=0)=true:=by simpa using Cy
  clear Cy;generalize ZC r0 r1 r2 r3 S=x at hx Ez⊢;go_enter func68,ntmps68
  go_wp2_with (first
   |(go_at_call 62;refine Ez.mono ?_;rintro e w2 ⟨rfl,A7⟩;have Av:=As.trans A7))
  go_ret2;exact⟨_,rfl,World.ownsRow_nil _ _ _ _,Av⟩
def Z1e(r0 r1 r2 r3:Int)(S:List Rs)(k:Int):Int:=firstV [ZC r0 r1 r2 r3 S,Z6r S.length k]
def Z68(r2 r3:Int)(s:Rs):Int×Int:=(lo s.m s.wi s.li r2 r3,hi s.M s.wi s.li r2 r3)
def Zau(r0 r1 r2 r3:Int)(S:List Rs)(k:Int):Int×Int:=if Z1e r0 r1 r2 r3 S k=0 then(match S[k.toNat]? with|some s=>Z68 r2 r3 s|none=>(0,0)) else(0,0)
theorem Z69(r0 r1 r2 r3:Int)(base:Option Addr)(n cap:Nat)(S:List Rs)(k:Int)(w:World)(A2:S.length=n)(Re:n<=20)(hS:RawS w base S):
 Calls prog 49 #[.agg #[.int .i64 r0,.int .i64 r1,.int .i64 r2,.int .i64 r3,.slice base n cap],.int .i64 k] w fun e w'=>e= .returned (.tuple #[.agg #[.int .i64 (Zau r0 r1 r2 r3 S k).1,.int .i64 (Zau r0 r1 r2 r3 S k).2],.int .i64 (Z1e r0 r1 r2 r3 S k)])/\Ext w w':=by
 have An:Ext w ((((w.alloc (.cells #[.int .i64 r0,.int .i64 r1,.int .i64 r2,.int .i64 r3,.slice base n cap] 70)).alloc (.cells #[.int .i64 k] 3)).alloc (.cells #[.int .i64 0,.int .i64 0] 48)).alloc (.cells #[.func (.func 107) #[] #[.pointer (some ⟨w.heap.size,0,none⟩)],.func (.func 108) #[] #[.pointer (some ⟨w.heap.size+1,0,none⟩),.pointer (some ⟨w.heap.size,0,none⟩)]] 127)):=((((Ext.rfl' w).alloc _).alloc _).alloc _).alloc _;have hb:((((w.alloc (.cells #[.int .i64 r0,.int .i64 r1,.int .i64 r2,.int .i64 r3,.slice base n cap] 70)).alloc (.cells #[.int .i64 k] 3)).alloc (.cells #[.int .i64 0,.int .i64 0] 48)).alloc (.cells #[.func (.func 107) #[] #[.pointer (some ⟨w.heap.size,0,none⟩)],.func (.func 108) #[] #[.pointer (some ⟨w.heap.size+1,0,none⟩),.pointer (some ⟨w.heap.size,0,none⟩)]] 127)).heap[w.heap.size]? =some (.cells #[.int .i64 r0,.int .i64 r1,.int .i64 r2,.int .i64 r3,.slice base n cap] 70):=by
  simp only[Z3,Z2];rw[if_neg (by omega),if_neg (by omega),if_neg (by omega),if_pos trivial]
 have hk:((((w.alloc (.cells #[.int .i64 r0,.int .i64 r1,.int .i64 r2,.int .i64 r3,.slice base n cap] 70)).alloc (.cells #[.int .i64 k] 3)).alloc (.cells #[.int .i64 0,.int .i64 0] 48)).alloc (.cells #[.func (.func 107) #[] #[.pointer (some ⟨w.heap.size,0,none⟩)],.func (.func 108) #[] #[.pointer (some ⟨w.heap.size+1,0,none⟩),.pointer (some ⟨w.heap.size,0,none⟩)]] 127)).heap[w.heap.size+1]? =some (.cells #[.int .i64 k] 3):=by
  simp only[Z3,Z2];rw[if_neg (by omega),if_neg (by omega),if_pos trivial]
 have hz:((((w.alloc (.cells #[.int .i64 r0,.int .i64 r1,.int .i64 r2,.int .i64 r3,.slice base n cap] 70)).alloc (.cells #[.int .i64 k] 3)).alloc (.cells #[.int .i64 0,.int .i64 0] 48)).alloc (.cells #[.func (.func 107) #[] #[.pointer (some ⟨w.heap.size,0,none⟩)],.func (.func 108) #[] #[.pointer (some ⟨w.heap.size+1,0,none⟩),.pointer (some ⟨w.heap.size,0,none⟩)]] 127)).heap[w.heap.size+1+1]? =some (.cells #[.int .i64 0,.int .i64 0] 48):=by
  simp only[Z3,Z2];rw[if_neg (by omega),if_pos trivial]
 have hf:((((w.alloc (.cells #[.int .i64 r0,.int .i64 r1,.int .i64 r2,.int .i64 r3,.slice base n cap] 70)).alloc (.cells #[.int .i64 k] 3)).alloc (.cells #[.int .i64 0,.int .i64 0] 48)).alloc (.cells #[.func (.func 107) #[] #[.pointer (some ⟨w.heap.size,0,none⟩)],.func (.func 108) #[] #[.pointer (some ⟨w.heap.size+1,0,none⟩),.pointer (some ⟨w.heap.size,0,none⟩)]] 127)).heap[w.heap.size+1+1+1]? =some (.cells #[.func (.func 107) #[] #[.pointer (some ⟨w.heap.size,0,none⟩)],.func (.func 108) #[] #[.pointer (some ⟨w.heap.size+1,0,none⟩),.pointer (some ⟨w.heap.size,0,none⟩)]] 127):=by
  simp only[Z3,Z2];rw[if_pos trivial]
 have G8:=fun w4 (An:Ext w w4)(hb:w4.heap[w.heap.size]? =some (.cells #[.int .i64 r0,.int .i64 r1,.int .i64 r2,.int .i64 r3,.slice base n cap] 70))(hk:w4.heap[w.heap.size+1]? =some (.cells #[.int .i64 k] 3))(hf:w4.heap[w.heap.size+1+1+1]? =some (.cells #[.func (.func 107) #[] #[.pointer (some ⟨w.heap.size,0,none⟩)],.func (.func 108) #[] #[.pointer (some ⟨w.heap.size+1,0,none⟩),.pointer (some ⟨w.heap.size,0,none⟩)]] 127))=>
  Z1S (w.heap.size+1+1+1) 2 2 (fun i=>if i=0 then 107 else 108) (fun i=> #[]) (fun i=>if i=0 then #[.pointer (some ⟨w.heap.size,0,none⟩)] else #[.pointer (some ⟨w.heap.size+1,0,none⟩),.pointer (some ⟨w.heap.size,0,none⟩)]) [ZC r0 r1 r2 r3 S,Z6r n k] rfl (by omega) w4 (by
   intro i hi;rw[Z0 hf];obtain rfl|rfl:i=0\/i=1:=by omega
   ·rfl
   ·rfl) (by
   intro i hi args w';obtain rfl|rfl:i=0\/i=1:=by omega
   ·simp[go_sem]
   ·simp[go_sem]) (by
   intro i x hx w' hE'
   match i,hx with
   |0,hx=>
    obtain rfl:=Option.some.inj hx;exact ZcT r0 r1 r2 r3 base n cap S w' A2 (hS.ext (An.trans hE')) _ (hE'.get hb)
   |1,hx=>
    obtain rfl:=Option.some.inj hx;exact ZcV r0 r1 r2 r3 base n cap Re w' _ (hE'.get hb) _ k (hE'.cellS (by rw[Z0 hk];rfl)))
 have Ho:firstV [ZC r0 r1 r2 r3 S,Z6r n k]=Z1e r0 r1 r2 r3 S k:=by rw[Z1e,A2]
 rw[Ho] at G8;clear Ho;have Ep:w.heap.size<=w.heap.size+1+1:=by omega
 have Js:=G8 _ An hb hk hf;clear G8 hf;by_cases Cy:Z1e r0 r1 r2 r3 S k=0
 ·have Aq:0<=k/\k<n:=by
   have h2:=firstV_all Cy (Z6r S.length k) (by simp);unfold Z6r at h2;rw[A2] at h2;split at h2
   ·assumption
   ·omega
  obtain⟨sh,Bf⟩:∃sh,S[k.toNat]? =some sh:=⟨_,List.getElem?_eq_getElem (by omega)⟩;rw[Zau,if_pos Cy,Bf];simp only;rw[Cy] at Js⊢;clear Cy;obtain⟨b,off,rfl,Bg,hat⟩:=hS _ _ Bf;have hwd:=fun w Bg hat=>Z39 r0 r1 r2 r3 sh.a sh.m sh.M sh.wi sh.li k b off n cap w Aq.1 (by omega) Bg hat
  simp only[Zg,Z83] at hwd;go_enter func49,ntmps49
  go_wp2_with (first
   |(go_at_call 90;refine Js.mono ?_;rintro e w5 ⟨rfl,B4⟩;have Bv:=An.trans B4;have M7:=B4.get hb;have hk5:=B4.get hk;have Ln:=B4.get hz;have q0:=Z0 M7 0;have q1:=Z0 M7 1;have q2:=Z0 M7 2;have q3:=Z0 M7 3;have q4:=Z0 M7 4;have q5:=Z0 hk5 0;simp only[List.getElem?_toArray,List.getElem?_cons_zero,List.getElem?_cons_succ] at q0 q1 q2 q3 q4 q5;clear hb hk hz)
   |(go_at_call 111;refine(hwd _ (Bv.lt Bg) ⟨Bv.cellS hat.c0,Bv.cellS hat.c1,Bv.cellS hat.c2,Bv.cellS hat.c3,Bv.cellS hat.c4⟩).mono ?_;rintro e w6 ⟨rfl,hG⟩;have Hz:=Bv.trans hG.ext;have Rf:=hG.ext.get Ln;have p:=Zc Rf;have p0:=p.1;have p1:=p.2.1;have p2:=p.2.2.1;have p3:=p.2.2.2;clear p))
  have hh:=Zc (set_pair Rf (.int .i64 (lo sh.m sh.wi sh.li r2 r3)) (.int .i64 (hi sh.M sh.wi sh.li r2 r3)));have Rg:=hh.1;have Rh:=hh.2.1;refine bodyPost_ret (v:= .tuple #[.agg #[.int .i64 (lo sh.m sh.wi sh.li r2 r3),.int .i64 (hi sh.M sh.wi sh.li r2 r3)],.int .i64 0]) ((Z01 rfl _ _ _).trans ?_) rfl ⟨rfl,(Hz.setCell _ _ Ep).setCell _ _ Ep⟩;simp[go_sem,Rg,Rh]
 ·have hx:(Z1e r0 r1 r2 r3 S k !=0)=true:=by simpa using Cy
  rw[Zau,if_neg Cy];clear Cy;generalize Z1e r0 r1 r2 r3 S k=x at hx Js⊢;go_enter func49,ntmps49
  go_wp2_with (first
   |(go_at_call 90;refine Js.mono ?_;rintro e w5 ⟨rfl,B4⟩;have Bv:=An.trans B4;have Ln:=B4.get hz;have p:=Zc Ln;have p0:=p.1;have p1:=p.2.1;have p2:=p.2.2.1;have p3:=p.2.2.2;clear p hb hk hz))
  have hh:=Zc (set_pair Ln (.int .i64 0) (.int .i64 0));have Rg:=hh.1;have Rh:=hh.2.1;refine bodyPost_ret (v:= .tuple #[.agg #[.int .i64 0,.int .i64 0],.int .i64 x]) ((Z01 rfl _ _ _).trans ?_) rfl ⟨rfl,(Bv.setCell _ _ Ep).setCell _ _ Ep⟩;simp[go_sem,Rg,Rh]
end Go.Proofs.Tryq
namespace Go.Proofs.Tryq
open Go Go.Nk Go.RowKit
structure CardOk(r0 r1 r2 r3:Int)(S:List Rs):Prop where
 h0:0<=r0
 h1:r0<=r1/\r1<=999
 h2:0<=r2/\r2<=999
 h3:0<=r3/\r3<=999
 len:S.length<=8
 ok:∀s∈S,(0<=s.a/\s.a<=90)/\(0<=s.m/\s.m<=s.M/\s.M<=99999)/\(0<=s.wi/\s.wi<=9)/\(0<=s.li/\s.li<=9)
theorem Zav{r0 r1 r2 r3:Int}{S:List Rs}(h:ZC r0 r1 r2 r3 S=0):CardOk r0 r1 r2 r3 S:=by
 obtain⟨h1,h2,h3⟩:=Z0i h;have hr:(okN r0 999&&okN r1 999&&okN r2 999&&okN r3 999&&decide (r0<=r1))=true:=by
  unfold Z5y at h1;split at h1
  ·assumption
  ·cases h1
 simp only[okN,Bool.and_eq_true,decide_eq_true_eq] at hr;refine⟨hr.1.1.1.1.1,⟨hr.2,hr.1.1.1.2.2⟩,hr.1.1.2,hr.1.2,h2,fun s hs=> ?_⟩;have:=h3 s hs;simp only[okS,okN,Bool.and_eq_true,decide_eq_true_eq] at this;exact⟨this.1.1.1,this.1.1.2,this.1.2,this.2⟩
def Zcu(r0 r1 l c d:Int):Int:=if c<=d then l+r0*(d - c) else l - r1*(c - d)
def Zc1(r0 r1 h c d:Int):Int:=if c<=d then h+r1*(d - c) else h - r0*(c - d)
def Z5c(r2 r3:Int)(s:Rs):Int:=s.wi*r2+s.li*r3
def spV(r0 r1 r2 r3:Int)(s:Rs)(d:Int):Int×Int:=(Zcu r0 r1 (s.m - Z5c r2 r3 s) s.a d,Zc1 r0 r1 (s.M+Z5c r2 r3 s) s.a d)
def Zdx(r0 r1 r2 r3:Int)(s:Rs)(d:Int):Int×Int:=
 if s.a<=d then(wrap64 ((Z68 r2 r3 s).1+wrap64 (r0*wrap64 (d - s.a))),wrap64 ((Z68 r2 r3 s).2+wrap64 (r1*wrap64 (d - s.a))))
 else(wrap64 ((Z68 r2 r3 s).1 - wrap64 (r1*wrap64 (s.a - d))),wrap64 ((Z68 r2 r3 s).2 - wrap64 (r0*wrap64 (s.a - d))))
theorem Z6a(n:Int)(h: -9223372036854775808<=n/\n<=9223372036854775807):wrap64 n=n:=by unfold wrap64;omega
theorem Z1A{x y a b:Int}(h1:0<=x/\x<=a)(h2:0<=y/\y<=b):0<=x*y/\x*y<=a*b:=
 ⟨Int.mul_nonneg h1.1 h2.1,Int.mul_le_mul h1.2 h2.2 h2.1 (Int.le_trans h1.1 h1.2)⟩
section
variable {r0 r1 r2 r3:Int} {S:List Rs} (hc:CardOk r0 r1 r2 r3 S)
include hc
theorem Z7N{s:Rs}(hs:s∈S):0<=Z5c r2 r3 s/\Z5c r2 r3 s<=17982/\wrap64 (wrap64 (s.wi*r2)+wrap64 (s.li*r3))=Z5c r2 r3 s:=by
 obtain⟨_,_,h3,h4⟩:=hc.ok s hs;have a1:=Z1A h3 hc.h2;have a2:=Z1A h4 hc.h3;unfold Z5c;rw[Z6a (s.wi*r2) (by omega),Z6a (s.li*r3) (by omega),Z6a _ (by omega)];omega
theorem Zaw{s:Rs}(hs:s∈S):Z68 r2 r3 s=(s.m - Z5c r2 r3 s,s.M+Z5c r2 r3 s):=by
 obtain⟨h1,h2,h3⟩:=Z7N hc hs;have h4:=(hc.ok s hs).2.1;simp only[Z68,lo,hi,h3];rw[Z6a _ (by omega),Z6a _ (by omega)]
theorem Zax{s:Rs}(hs:s∈S){d:Int}(hd:0<=d/\d<=90):Zdx r0 r1 r2 r3 s d=spV r0 r1 r2 r3 s d:=by
 obtain⟨h1,h2,_⟩:=Z7N hc hs;obtain⟨h5,h4,_⟩:=hc.ok s hs;have e0:=hc.h0;have e1:=hc.h1;simp only[Zdx,spV,Zaw hc hs,Zcu,Zc1];by_cases B8:s.a<=d
 ·rw[if_pos B8,if_pos B8,if_pos B8];have a1:=Z1A (x:=r0) (y:=d - s.a) (a:=999) (b:=90) (by omega) (by omega);have a2:=Z1A (x:=r1) (y:=d - s.a) (a:=999) (b:=90) (by omega) (by omega);rw[Z6a (d - s.a) (by omega),Z6a (r0*(d - s.a)) (by omega),Z6a (r1*(d - s.a)) (by omega),Z6a _ (by omega),Z6a _ (by omega)]
 ·rw[if_neg B8,if_neg B8,if_neg B8];have a1:=Z1A (x:=r0) (y:=s.a - d) (a:=999) (b:=90) (by omega) (by omega);have a2:=Z1A (x:=r1) (y:=s.a - d) (a:=999) (b:=90) (by omega) (by omega);rw[Z6a (s.a - d) (by omega),Z6a (r0*(s.a - d)) (by omega),Z6a (r1*(s.a - d)) (by omega),Z6a _ (by omega),Z6a _ (by omega)]
omit hc in
theorem Zay{l r:Int}(hl: -1000000<=l/\l<=1000000)(hr:0<=r/\r<=999):∀n:Nat,n<=90->upI l r n=l+r*n
 |0,_=>by simp[upI]
 |n+1,hn=>by
  have a1:=Z1A (x:=r) (y:=(n:Int)) (a:=999) (b:=90) hr (by omega);rw[upI,Zay hl hr n (by omega),Z6a _ (by omega)];push_cast;rw[Int.mul_add];omega
omit hc in
theorem Zaz{l r:Int}(hl: -1000000<=l/\l<=1000000)(hr:0<=r/\r<=999):∀n:Nat,n<=90->dnI l r n=l - r*n
 |0,_=>by simp[dnI]
 |n+1,hn=>by
  have a1:=Z1A (x:=r) (y:=(n:Int)) (a:=999) (b:=90) hr (by omega);rw[dnI,Zaz hl hr n (by omega),Z6a _ (by omega)];push_cast;rw[Int.mul_add];omega
theorem Zeq{i:Nat}{s:Rs}(hs:S[i]? =some s){d:Nat}(hd:d<=90):cvS r0 r1 r2 r3 (S.map Ze) i d=spV r0 r1 r2 r3 s d:=by
 have hm:=List.mem_of_getElem? hs;obtain⟨h1,h2,_⟩:=Z7N hc hm;obtain⟨h5,h4,_⟩:=hc.ok s hm;have e0:=hc.h0;have e1:=hc.h1;have hw:=Zaw hc hm;simp only[Z68,Prod.mk.injEq] at hw;have ht:((s.a.toNat:Nat):Int)=s.a:=Int.toNat_of_nonneg h5.1;rw[cvS,List.getElem?_map,hs];simp only[Option.map_some,shL,shH,Ze,hw.1,hw.2,atC,spV,Zcu,Zc1];by_cases B8:s.a.toNat<=d
 ·rw[if_pos B8,if_pos (by omega),if_pos (by omega),Zay (by omega) (by omega) _ (by omega),Zay (by omega) (by omega) _ (by omega)];rw[show((d - s.a.toNat:Nat):Int)=(d:Int) - s.a by omega]
 ·rw[if_neg B8,if_neg (by omega),if_neg (by omega),Zaz (by omega) (by omega) _ (by omega),Zaz (by omega) (by omega) _ (by omega)];rw[show((s.a.toNat - d:Nat):Int)=s.a - (d:Int) by omega]
omit hc in
theorem Z7O{r0 r1 h c d e:Int}(h0:0<=r0)(h1:r0<=r1)(Qe:d<=e):r0*(e - d)<=Zc1 r0 r1 h c e - Zc1 r0 r1 h c d/\Zc1 r0 r1 h c e - Zc1 r0 r1 h c d<=r1*(e - d):=by
 unfold Zc1;have k1:=Int.mul_le_mul_of_nonneg_right h1 (show 0<=e - d by omega);by_cases a:c<=d
 ·rw[if_pos (by omega),if_pos a];rw[Int.mul_sub,Int.mul_sub] at k1;simp only[Int.mul_sub];omega
 ·by_cases b:c<=e
  ·have k2:=Int.mul_le_mul_of_nonneg_right h1 (show 0<=e - c by omega);have k3:=Int.mul_le_mul_of_nonneg_right h1 (show 0<=c - d by omega);rw[if_pos b,if_neg a];simp only[Int.mul_sub] at k1 k2 k3⊢;omega
  ·rw[if_neg b,if_neg a];simp only[Int.mul_sub] at k1⊢;omega
theorem Zcv(s t:Rs)(d:Int):(spV r0 r1 r2 r3 s d).1 - (spV r0 r1 r2 r3 t d).2<=(spV r0 r1 r2 r3 s s.a).1 - (spV r0 r1 r2 r3 t s.a).2:=by
 simp only[spV];have e0:=hc.h0;have e1:=hc.h1.1;rcases Int.le_total s.a d with h|h
 ·have a1:=(Z7O (h:=t.M+Z5c r2 r3 t) (c:=t.a) e0 e1 h).1;have a2:Zcu r0 r1 (s.m - Z5c r2 r3 s) s.a d=s.m - Z5c r2 r3 s+r0*(d - s.a):=if_pos h;have a3:Zcu r0 r1 (s.m - Z5c r2 r3 s) s.a s.a=s.m - Z5c r2 r3 s+r0*(s.a - s.a):=if_pos (Int.le_refl _);rw[Int.sub_self,Int.mul_zero] at a3;omega
 ·have a1:=(Z7O (h:=t.M+Z5c r2 r3 t) (c:=t.a) e0 e1 h).2;have a3:Zcu r0 r1 (s.m - Z5c r2 r3 s) s.a s.a=s.m - Z5c r2 r3 s+r0*(s.a - s.a):=if_pos (Int.le_refl _);rw[Int.sub_self,Int.mul_zero] at a3;by_cases hd:s.a<=d
  ·have:s.a=d:=by omega
   subst this;omega
  ·have a2:Zcu r0 r1 (s.m - Z5c r2 r3 s) s.a d=s.m - Z5c r2 r3 s - r1*(s.a - d):=if_neg hd;omega
theorem Zdy{s:Rs}(hs:s∈S){d:Int}(hd:0<=d/\d<=90): -1000000<=(spV r0 r1 r2 r3 s d).1/\(spV r0 r1 r2 r3 s d).1<=(spV r0 r1 r2 r3 s d).2/\(spV r0 r1 r2 r3 s d).2<=1000000:=by
 obtain⟨h1,h2,_⟩:=Z7N hc hs;obtain⟨h5,h4,_⟩:=hc.ok s hs;have e0:=hc.h0;have e1:=hc.h1;simp only[spV,Zcu,Zc1];by_cases B8:s.a<=d
 ·have a1:=Z1A (x:=r0) (y:=d - s.a) (a:=999) (b:=90) (by omega) (by omega);have a2:=Z1A (x:=r1) (y:=d - s.a) (a:=999) (b:=90) (by omega) (by omega);have a3:=Int.mul_le_mul_of_nonneg_right e1.1 (show 0<=d - s.a by omega);rw[if_pos B8,if_pos B8];omega
 ·have a1:=Z1A (x:=r0) (y:=s.a - d) (a:=999) (b:=90) (by omega) (by omega);have a2:=Z1A (x:=r1) (y:=s.a - d) (a:=999) (b:=90) (by omega) (by omega);have a3:=Int.mul_le_mul_of_nonneg_right e1.1 (show 0<=s.a - d by omega);rw[if_neg B8,if_neg B8];omega
end
theorem has_all:(List.range 256).all (fun k=>(List.range 8).all fun i=>has (k:Int) i==k.testBit i)=true:=by kernel_rfl
theorem Z3Q{k i:Nat}(hk:k<256)(hi:i<8):has (k:Int) i=k.testBit i:=by
 have:=List.all_eq_true.1 (List.all_eq_true.1 has_all k (List.mem_range.2 hk)) i (List.mem_range.2 hi);simpa using this
theorem Zcw(C:Nat->Nat->Int×Int)(set:Int)(d:Nat)(x:Int):∀n,(atF C set d n).1<=x↔-1099511627776<=x/\∀i,i<n->has set i=true->(C i d).1<=x
 |0=>by simp[atF]
 |n+1=>by
  have ih:=Zcw C set d x n;rw[atF];by_cases h:has set n=true
  ·rw[if_pos h];simp only[Int.max_le,ih];constructor
   ·rintro⟨⟨h1,h2⟩,h3⟩;refine⟨h1,fun i hi hh=> ?_⟩;by_cases e:i=n
    ·subst e;exact h3
    ·exact h2 i (by omega) hh
   ·rintro⟨h1,h2⟩;exact⟨⟨h1,fun i hi=>h2 i (by omega)⟩,h2 n (by omega) h⟩
  ·rw[if_neg h,ih];constructor
   ·rintro⟨h1,h2⟩;refine⟨h1,fun i hi hh=> ?_⟩;by_cases e:i=n
    ·subst e;exact absurd hh h
    ·exact h2 i (by omega) hh
   ·rintro⟨h1,h2⟩;exact⟨h1,fun i hi=>h2 i (by omega)⟩
theorem Zcx(C:Nat->Nat->Int×Int)(set:Int)(d:Nat)(x:Int):∀n,x<=(atF C set d n).2↔x<=1099511627776/\∀i,i<n->has set i=true->x<=(C i d).2
 |0=>by simp[atF]
 |n+1=>by
  have ih:=Zcx C set d x n;rw[atF];by_cases h:has set n=true
  ·rw[if_pos h];simp only[Int.le_min,ih];constructor
   ·rintro⟨⟨h1,h2⟩,h3⟩;refine⟨h1,fun i hi hh=> ?_⟩;by_cases e:i=n
    ·subst e;exact h3
    ·exact h2 i (by omega) hh
   ·rintro⟨h1,h2⟩;exact⟨⟨h1,fun i hi=>h2 i (by omega)⟩,h2 n (by omega) h⟩
  ·rw[if_neg h,ih];constructor
   ·rintro⟨h1,h2⟩;refine⟨h1,fun i hi hh=> ?_⟩;by_cases e:i=n
    ·subst e;exact absurd hh h
    ·exact h2 i (by omega) hh
   ·rintro⟨h1,h2⟩;exact⟨h1,fun i hi=>h2 i (by omega)⟩
def ZaA(x y:Int×Int):Int×Int:=(max x.1 y.1,min x.2 y.2)
def Z6b(r0 r1 r2 r3:Int)(S:List Rs)(d:Int)(i:Int):Int×Int:=match S[i.toNat]? with
 |some s=>Zdx r0 r1 r2 r3 s d
 |none=>(0,0)
def Z57(r0 r1 r2 r3:Int)(S:List Rs)(d:Int):List Int->Int×Int
 |[]=>(0,0)
 |i::t=>t.foldl (fun x j=>ZaA x (Z6b r0 r1 r2 r3 S d j)) (Z6b r0 r1 r2 r3 S d i)
theorem ZaB(f:Int->Int×Int)(x:Int):∀(t:List Int)(y:Int×Int),(t.foldl (fun x j=>ZaA x (f j)) y).1<=x↔y.1<=x/\∀j∈t,(f j).1<=x
 |[],y=>by simp
 |j::t,y=>by
  rw[List.foldl_cons,ZaB f x t];simp only[ZaA,Int.max_le,List.forall_mem_cons,and_assoc]
theorem ZaC(f:Int->Int×Int)(x:Int):∀(t:List Int)(y:Int×Int),x<=(t.foldl (fun x j=>ZaA x (f j)) y).2↔x<=y.2/\∀j∈t,x<=(f j).2
 |[],y=>by simp
 |j::t,y=>by
  rw[List.foldl_cons,ZaC f x t];simp only[ZaA,Int.le_min,List.forall_mem_cons,and_assoc]
theorem ZaD{r0 r1 r2 r3:Int}{S:List Rs}{d x:Int}{l:List Int}(hl:l≠[]):(Z57 r0 r1 r2 r3 S d l).1<=x↔∀j∈l,(Z6b r0 r1 r2 r3 S d j).1<=x:=by
 cases l with
 |nil=>exact absurd rfl hl
 |cons i t=>rw[Z57,ZaB,List.forall_mem_cons]
theorem Z6V{r0 r1 r2 r3:Int}{S:List Rs}{d x:Int}{l:List Int}(hl:l≠[]):x<=(Z57 r0 r1 r2 r3 S d l).2↔∀j∈l,x<=(Z6b r0 r1 r2 r3 S d j).2:=by
 cases l with
 |nil=>exact absurd rfl hl
 |cons i t=>rw[Z57,ZaC,List.forall_mem_cons]
theorem Zc2{a b:Int}(h:∀x,a<=x↔b<=x):a=b:=Int.le_antisymm ((h b).2 (Int.le_refl _)) ((h a).1 (Int.le_refl _))
theorem Zc3{a b:Int}(h:∀x,x<=a↔x<=b):a=b:=Int.le_antisymm ((h a).1 (Int.le_refl _)) ((h b).2 (Int.le_refl _))
def ZN(k:Nat):List Int:=(bl k).map fun(i:Nat)=>(i:Int)
theorem Zc4{k:Nat}{p:Int}:p∈ZN k↔∃i:Nat,i<8/\k.testBit i=true/\p=i:=by
 simp only[ZN,bl,List.mem_map,List.mem_filter,List.mem_range];constructor
 ·rintro⟨i,⟨h1,h2⟩,rfl⟩;exact⟨i,h1,h2,rfl⟩
 ·rintro⟨i,h1,h2,rfl⟩;exact⟨i,⟨h1,h2⟩,rfl⟩
section
variable {r0 r1 r2 r3:Int} {S:List Rs} (hc:CardOk r0 r1 r2 r3 S)
include hc
omit hc in
theorem Z4l{k n i:Nat}(hk:k<2 ^ n)(h:k.testBit i=true):i<n:=by
 rcases Nat.lt_or_ge i n with h1|h1
 ·exact h1
 ·have:=Nat.testBit_lt_two_pow (Nat.lt_of_lt_of_le hk (Nat.pow_le_pow_right (by omega) h1));rw[this] at h;cases h
theorem ZaE{k:Nat}(hk:k<2 ^ S.length)(h0:ZN k≠[]){d:Nat}(hd:d<=90):atF (cvS r0 r1 r2 r3 (S.map Ze)) k d S.length=Z57 r0 r1 r2 r3 S d (ZN k):=by
 have B1:k<256:=Nat.lt_of_lt_of_le hk (by have:=Nat.pow_le_pow_right (n:=2) (by omega) hc.len;exact this);have key:∀i,i<S.length->k.testBit i=true->∃s,S[i]? =some s/\s∈S/\cvS r0 r1 r2 r3 (S.map Ze) i d=spV r0 r1 r2 r3 s d/\Z6b r0 r1 r2 r3 S d i=spV r0 r1 r2 r3 s d:=by
  intro i hi hb;obtain⟨s,hs⟩:∃s,S[i]? =some s:=⟨_,List.getElem?_eq_getElem hi⟩;refine⟨s,hs,List.mem_of_getElem? hs,Zeq hc hs hd,?_⟩;simp only[Z6b,Int.toNat_natCast,hs];exact Zax hc (List.mem_of_getElem? hs) (by omega)
 have A2:=hc.len;obtain⟨p0,Bj⟩:∃p,p∈ZN k:=List.exists_mem_of_ne_nil _ h0;obtain⟨i0,_,C8,rfl⟩:=Zc4.1 Bj;obtain⟨s0,_,Qn,he0,_⟩:=key i0 (Z4l hk C8) C8;have Aq:=Zdy hc Qn (d:=d) (by omega);refine Prod.ext (Zc2 fun x=> ?_) (Zc3 fun x=> ?_)
 ·rw[Zcw,ZaD h0];constructor
  ·rintro⟨_,h⟩ j hj;obtain⟨i,hi8,hi,rfl⟩:=Zc4.1 hj;have A3:=Z4l hk hi;obtain⟨s,_,_,e1,e2⟩:=key i A3 hi;rw[e2,<-e1];exact h i A3 (by rw[Z3Q B1 (by omega)];exact hi)
  ·intro h;constructor
   ·have:=h _ Bj;obtain⟨s,_,hs,_,e2⟩:=key i0 (Z4l hk C8) C8;rw[e2] at this;have:=Zdy hc hs (d:=d) (by omega);omega
   ·intro i hi hh;rw[Z3Q B1 (by omega)] at hh;obtain⟨s,_,_,e1,e2⟩:=key i hi hh;rw[e1,<-e2];exact h i (Zc4.2 ⟨i,by omega,hh,rfl⟩)
 ·rw[Zcx,Z6V h0];constructor
  ·rintro⟨_,h⟩ j hj;obtain⟨i,hi8,hi,rfl⟩:=Zc4.1 hj;have A3:=Z4l hk hi;obtain⟨s,_,_,e1,e2⟩:=key i A3 hi;rw[e2,<-e1];exact h i A3 (by rw[Z3Q B1 (by omega)];exact hi)
  ·intro h;constructor
   ·have:=h _ Bj;obtain⟨s,_,hs,_,e2⟩:=key i0 (Z4l hk C8) C8;rw[e2] at this;have:=Zdy hc hs (d:=d) (by omega);omega
   ·intro i hi hh;rw[Z3Q B1 (by omega)] at hh;obtain⟨s,_,_,e1,e2⟩:=key i hi hh;rw[e1,<-e2];exact h i (Zc4.2 ⟨i,by omega,hh,rfl⟩)
def Z20(r0 r1 r2 r3:Int)(S:List Rs)(l:List Int):Bool:=l.all fun i=>match S[i.toNat]? with
 |some s=>decide ((Z57 r0 r1 r2 r3 S s.a l).1<=(Z57 r0 r1 r2 r3 S s.a l).2)
 |none=>false
def Z6W(r0 r1 r2 r3:Int)(s t:Rs):Prop:=(spV r0 r1 r2 r3 s s.a).1<=(spV r0 r1 r2 r3 t s.a).2
theorem Z58{l:List Int}(hl:∀p∈l,0<=p/\p<S.length)(h0:l≠[]){d:Int}(hd:0<=d/\d<=90):(Z57 r0 r1 r2 r3 S d l).1<=(Z57 r0 r1 r2 r3 S d l).2↔∀i∈l,∀j∈l,∀s t,S[i.toNat]? =some s->S[j.toNat]? =some t->(spV r0 r1 r2 r3 s d).1<=(spV r0 r1 r2 r3 t d).2:=by
 have key:∀i s,S[i.toNat]? =some s->Z6b r0 r1 r2 r3 S d i=spV r0 r1 r2 r3 s d:=by
  intro i s hs;simp only[Z6b,hs];exact Zax hc (List.mem_of_getElem? hs) hd
 rw[ZaD h0];constructor
 ·intro h i hi j hj s t hs ht;have:=h i hi;rw[Z6V h0] at this;have:=this j hj;rw[key i s hs,key j t ht] at this;exact this
 ·intro h i hi;rw[Z6V h0];intro j hj;have Dy:=hl i hi;have K2:=hl j hj;obtain⟨s,hs⟩:∃s,S[i.toNat]? =some s:=⟨_,List.getElem?_eq_getElem (by omega)⟩;obtain⟨t,ht⟩:∃s,S[j.toNat]? =some s:=⟨_,List.getElem?_eq_getElem (by omega)⟩;rw[key i s hs,key j t ht];exact h i hi j hj s t hs ht
theorem Z8D{l:List Int}(hl:∀p∈l,0<=p/\p<S.length):Z20 r0 r1 r2 r3 S l=true↔∀i∈l,∀j∈l,∀s t,S[i.toNat]? =some s->S[j.toNat]? =some t->Z6W r0 r1 r2 r3 s t:=by
 unfold Z20 Z6W;rw[List.all_eq_true];constructor
 ·intro h i hi j hj s t hs ht;have h1:=h i hi;rw[hs] at h1;simp only[decide_eq_true_eq] at h1;rw[Z58 hc hl (List.ne_nil_of_mem hi) ((hc.ok s (List.mem_of_getElem? hs)).1)] at h1;exact h1 i hi j hj s t hs ht
 ·intro h i hi;have Dy:=hl i hi;obtain⟨s,hs⟩:∃s,S[i.toNat]? =some s:=⟨_,List.getElem?_eq_getElem (by omega)⟩;rw[hs];simp only[decide_eq_true_eq];rw[Z58 hc hl (List.ne_nil_of_mem hi) ((hc.ok s (List.mem_of_getElem? hs)).1)];intro i' hi' j hj s' t hs' ht;have h1:=h i' hi' j hj s' t hs' ht;have h2:=Zcv hc s' t s.a;omega
theorem Z6X{k:Nat}(hk:k<2 ^ S.length):Zz (cvS r0 r1 r2 r3 (S.map Ze)) k S.length=Z20 r0 r1 r2 r3 S (ZN k):=by
 have A2:=hc.len;have hl:∀p∈ZN k,0<=p/\p<S.length:=by
  intro p hp;obtain⟨i,_,hi,rfl⟩:=Zc4.1 hp;have:=Z4l hk hi;omega
 by_cases h0:ZN k=[]
 ·rw[h0];have hz:∀i,i<8->k.testBit i=false:=by
   intro i hi;cases hb:k.testBit i with
   |false=>rfl
   |true=>
    have:(i:Int)∈ZN k:=Zc4.2 ⟨i,hi,hb,rfl⟩;rw[h0] at this;cases this
  have B1:k<256:=Nat.lt_of_lt_of_le hk (by have:=Nat.pow_le_pow_right (n:=2) (by omega) hc.len;exact this);have hat:∀d n,n<=8->atF (cvS r0 r1 r2 r3 (S.map Ze)) k d n=(-1099511627776,1099511627776):=by
   intro d n
   induction n with
   |zero=>intro _;rfl
   |succ n ih=>
    intro hn;rw[atF,Z3Q B1 (by omega),hz n (by omega),if_neg (by decide),ih (by omega)]
  rw[Zz,Z22,show Z20 r0 r1 r2 r3 S []=true from rfl,List.all_eq_true];intro d _;rw[hat d _ A2];decide
 ·rw[Bool.eq_iff_iff,Z8D hc hl,Zz,Z22,List.all_eq_true];constructor
  ·intro h i hi j hj s t hs ht;have hsa:=(hc.ok s (List.mem_of_getElem? hs)).1;have h1:=h s.a.toNat (List.mem_range.2 (by omega));simp only[decide_eq_true_eq] at h1;rw[ZaE hc hk h0 (by omega),Int.toNat_of_nonneg hsa.1,Z58 hc hl h0 hsa] at h1;exact h1 i hi j hj s t hs ht
  ·intro h d hd;have E3:=List.mem_range.1 hd;simp only[decide_eq_true_eq];rw[ZaE hc hk h0 (by omega),Z58 hc hl h0 (by omega)];intro i hi j hj s t hs ht;have h1:=h i hi j hj s t hs ht;unfold Z6W at h1;have h2:=Zcv hc s t d;omega
end
def LB(a b:Nat):Prop:=∃x,x<8/\a.testBit x=true/\b.testBit x=false/\∀j,j<x->a.testBit j=b.testBit j
theorem LB.trans{a b c:Nat}:LB a b->LB b c->LB a c:=by
 rintro⟨x,hx,h1,h2,h3⟩ ⟨y,hy,k1,k2,k3⟩;rcases Nat.lt_trichotomy x y with h|h|h
 ·exact⟨x,hx,h1,by rw[<-k3 x h];exact h2,fun j hj=>(h3 j hj).trans (k3 j (by omega))⟩
 ·subst h;rw[h2] at k1;cases k1
 ·exact⟨y,hy,by rw[h3 y h];exact k1,k2,fun j hj=>(h3 j (by omega)).trans (k3 j hj)⟩
theorem LB.irrefl{a:Nat}(h:LB a a):False:=by
 obtain⟨x,_,h1,h2,_⟩:=h;rw[h1] at h2;cases h2
theorem low_all:(List.range 256).all (fun x=>x==0||(decide (tz x<8)&&bits .and .i64 (x:Int) (wrap64 (-(x:Int)))==((2 ^ tz x:Nat):Int)&&x.testBit (tz x)&&(List.range (tz x)).all fun j=> !x.testBit j))=true:=by kernel_rfl
theorem and_all:(List.range 256).all (fun a=>(List.range 8).all fun i=>(bits .and .i64 (a:Int) ((2 ^ i:Nat):Int) !=0)==a.testBit i)=true:=by kernel_rfl
theorem ZaF{a b:Nat}(ha:a<256)(hb:b<256):bits .xor .i64 (a:Int) (b:Int)=((a ^^^ b:Nat):Int):=by
 have hx:a ^^^ b<2 ^ 8:=Nat.xor_lt_two_pow (by omega) (by omega);have h1:(BitVec.ofInt 64 (a:Int)).toNat=a:=by
  rw[BitVec.ofInt_natCast,BitVec.toNat_ofNat];exact Nat.mod_eq_of_lt (by omega)
 have h2:(BitVec.ofInt 64 (b:Int)).toNat=b:=by
  rw[BitVec.ofInt_natCast,BitVec.toNat_ofNat];exact Nat.mod_eq_of_lt (by omega)
 show IntKind.i64.wrap ((BitVec.ofInt 64 (a:Int) ^^^ BitVec.ofInt 64 (b:Int)).toNat:Int)=_;rw[BitVec.toNat_xor,h1,h2,IntKind.wrap_i64];omega
theorem Z4m{a b:Nat}(ha:a<256)(hb:b<256)(A8:a≠b):∃i,i<8/\a.testBit i≠b.testBit i/\(∀j,j<i->a.testBit j=b.testBit j)/\Z1g a b=a.testBit i:=by
 have hx:a ^^^ b<2 ^ 8:=Nat.xor_lt_two_pow (by omega) (by omega);have h0:a ^^^ b≠0:=fun h=>A8 (Nat.eq_of_testBit_eq fun i=>by have h9:=congrArg (fun x=>x.testBit i) h;simp[Nat.testBit_xor] at h9;exact h9)
 have h1:=List.all_eq_true.1 low_all _ (List.mem_range.2 hx);simp only[Bool.or_eq_true,Bool.and_eq_true,beq_iff_eq,decide_eq_true_eq,h0,false_or,List.all_eq_true,List.mem_range] at h1;obtain⟨⟨⟨h2,h3⟩,h4⟩,h5⟩:=h1;have h6:=List.all_eq_true.1 (List.all_eq_true.1 and_all a (List.mem_range.2 ha)) _ (List.mem_range.2 h2);rw[beq_iff_eq] at h6;refine⟨tz (a ^^^ b),h2,?_,?_,?_⟩
 ·rw[Nat.testBit_xor] at h4;intro e;rw[e] at h4;simp at h4
 ·intro j hj;have:=h5 j hj;rw[Nat.testBit_xor] at this;cases h:a.testBit j<;>cases h':b.testBit j<;>simp[h,h'] at this⊢
 ·unfold Z1g;rw[ZaF ha hb,h3,h6];have:((((a ^^^ b:Nat):Int)) !=0)=true:=by simp[h0]
  rw[this,Bool.true_and]
theorem Z4n{a b:Nat}(ha:a<256)(hb:b<256):Z1g a b=true↔LB a b:=by
 by_cases A8:a=b
 ·subst A8;constructor
  ·intro h;unfold Z1g at h;rw[ZaF ha ha] at h;simp at h
  ·exact fun h=>h.irrefl.elim
 ·obtain⟨i,h1,h2,h3,h4⟩:=Z4m ha hb A8;rw[h4];constructor
  ·intro h;refine⟨i,h1,h,?_,h3⟩;cases hb:b.testBit i with
   |false=>rfl
   |true=>rw[h,hb] at h2;exact absurd rfl h2
  ·rintro⟨x,hx,k1,k2,k3⟩;rcases Nat.lt_trichotomy x i with h|h|h
   ·rw[h3 x h,k2] at k1;cases k1
   ·subst h;exact k1
   ·exact absurd (k3 i h) h2
theorem LB.total{a b:Nat}(ha:a<256)(hb:b<256)(A8:a≠b):LB a b\/LB b a:=by
 obtain⟨i,h1,h2,h3,_⟩:=Z4m ha hb A8;cases h:a.testBit i with
 |true=>exact .inl ⟨i,h1,h,by cases hb:b.testBit i with|false=>rfl|true=>rw[h,hb] at h2;exact absurd rfl h2,h3⟩
 |false=>exact .inr ⟨i,h1,by cases hb:b.testBit i with|true=>rfl|false=>rw[h,hb] at h2;exact absurd rfl h2,h,fun j hj=>(h3 j hj).symm⟩
def Lx:List Int->List Int->Prop
 |_,[]=>False
 |[],_::_=>True
 |x::t,y::u=>x<y\/(x=y/\Lx t u)
theorem chooseR_lx:∀(s:List Int),s.Pairwise (·<·)->(chooseR s).Pairwise Lx
 |[],_=>by simp[chooseR]
 |x::t,hs=>by
  have ih:=chooseR_lx t (List.Pairwise.of_cons hs);have Lo:∀c∈(chooseR t).tail,∃y u,c=y::u/\y∈t:=by
   intro c hc;have A8:=chooseR_ne t c hc;have Gt:=chooseR_mem t c (List.mem_of_mem_tail hc);cases c with
   |nil=>exact absurd rfl A8
   |cons y c=>exact⟨y,c,rfl,Gt.subset List.mem_cons_self⟩
  rw[chooseR,List.pairwise_cons];constructor
  ·intro c hc;rcases List.mem_append.1 hc with h|h
   ·obtain⟨y,_,rfl⟩:=List.mem_map.1 h;trivial
   ·obtain⟨y,u,rfl,_⟩:=Lo c h;trivial
  ·rw[List.pairwise_append];refine⟨?_,?_,?_⟩
   ·rw[List.pairwise_map];exact ih.imp fun h=> .inr ⟨rfl,h⟩
   ·rw[chooseR_head t] at ih;exact List.Pairwise.of_cons ih
   ·intro a ha b hb;obtain⟨y,_,rfl⟩:=List.mem_map.1 ha;obtain⟨z,u,rfl,hz⟩:=Lo b hb;exact .inl (List.rel_of_pairwise_cons hs hz)
theorem lx_first:∀{la lb:List Int},la.Pairwise (·<·)->lb.Pairwise (·<·)->Lx la lb->la.length=lb.length->∃x,x∈la/\x∉lb/\∀j,j<x->(j∈la↔j∈lb)
 |la,[],_,_,h,_=>by cases la<;>exact h.elim
 |[],_::_,_,_,_,h=>by simp at h
 |x::t,y::u,ha,hb,h,hl=>by
  rcases h with h|⟨rfl,h⟩
  ·have hyu:∀q∈y::u,y<=q:=by
    intro q hq;rcases List.mem_cons.1 hq with rfl|hq
    ·exact Int.le_refl _
    ·exact Int.le_of_lt (List.rel_of_pairwise_cons hb hq)
   refine⟨x,List.mem_cons_self,fun hx=>by have:=hyu x hx;omega,fun j hj=>⟨fun hm=> ?_,fun hm=> ?_⟩⟩
   ·rcases List.mem_cons.1 hm with rfl|hm
    ·omega
    ·have:=List.rel_of_pairwise_cons ha hm;omega
   ·have:=hyu j hm;omega
  ·obtain⟨z,h1,h2,h3⟩:=lx_first (List.Pairwise.of_cons ha) (List.Pairwise.of_cons hb) h (by simpa using hl);have hz:=List.rel_of_pairwise_cons ha h1;refine⟨z,List.mem_cons_of_mem _ h1,fun hm=> ?_,fun j hj=> ?_⟩
   ·rcases List.mem_cons.1 hm with rfl|hm
    ·omega
    ·exact h2 hm
   ·rw[List.mem_cons,List.mem_cons,h3 j hj]
def upL(n:Nat):List Int:=(List.range n).map fun(i:Nat)=>(i:Int)
def Zer(l:List Int):Nat:=l.foldl (fun m i=>m+2 ^ i.toNat) 0
theorem choose_all:(List.range 9).all (fun n=>(chooseR (upL n)).all fun l=>decide (Zer l<2 ^ n)&&ZN (Zer l)==l)=true:=by kernel_rfl
theorem set_all:(List.range 9).all (fun n=>(List.range (2 ^ n)).all fun k=>(ZN k).isSublist (upL n))=true:=by kernel_rfl
theorem Z8E{n:Nat}(hn:n<=8){l:List Int}(h:l∈chooseR (upL n)):∃k,k<2 ^ n/\l=ZN k:=by
 have:=List.all_eq_true.1 (List.all_eq_true.1 choose_all n (List.mem_range.2 (by omega))) l h;simp only[Bool.and_eq_true,decide_eq_true_eq,beq_iff_eq] at this;exact⟨_,this.1,this.2.symm⟩
theorem Z4o{n k:Nat}(hn:n<=8)(hk:k<2 ^ n):ZN k∈chooseR (upL n):=by
 have:=List.all_eq_true.1 (List.all_eq_true.1 set_all n (List.mem_range.2 (by omega))) k (List.mem_range.2 hk);exact mem_chooseR _ _ (List.isSublist_iff_sublist.1 this)
theorem Z7P(k:Nat):(ZN k).Pairwise (·<·):=by
 rw[ZN,List.pairwise_map,bl];exact(List.Pairwise.filter _ List.pairwise_lt_range).imp fun h=>by omega
theorem lx_LB{a b:Nat}(h:Lx (ZN a) (ZN b))(hl:(ZN a).length=(ZN b).length):LB a b:=by
 obtain⟨x,h1,h2,h3⟩:=lx_first (Z7P a) (Z7P b) h hl;obtain⟨i,hi,hb,rfl⟩:=Zc4.1 h1;refine⟨i,hi,hb,?_,fun j hj=> ?_⟩
 ·cases Qm:b.testBit i with
  |false=>rfl
  |true=>exact absurd (Zc4.2 ⟨i,hi,Qm,rfl⟩) h2
 ·have h4:=h3 (j:Int) (by omega);have h5:∀c:Nat,(j:Int)∈ZN c↔c.testBit j=true:=by
   intro c;rw[Zc4];constructor
   ·rintro⟨i',_,h,e⟩;have:i'=j:=(by omega);subst this;exact h
   ·exact fun h=>⟨j,by omega,h,rfl⟩
  rw[h5,h5] at h4;exact Bool.eq_iff_iff.2 h4
structure Bt(bt:Int->Int->Bool):Prop where
 asym:∀a b,bt a b=true->bt b a=true->False
 trans:∀a b c,bt a b=true->bt b c=true->bt a c=true
 total:∀a b,a≠b->bt a b=true\/bt b a=true
theorem bt_lt:Bt fun a b=>decide (a<b):=⟨fun a b h h'=>by simp at h h';omega,fun a b c h h'=>by simp at h h'⊢;omega,fun a b h=>by simp;omega⟩
theorem bt_gt:Bt fun a b=>decide (b<a):=⟨fun a b h h'=>by simp at h h';omega,fun a b c h h'=>by simp at h h'⊢;omega,fun a b h=>by simp;omega⟩
def BetS(bt:Int->Int->Bool)(a b:Nat):Prop:=bt (bl a).length (bl b).length=true\/((bl a).length=(bl b).length/\LB a b)
theorem BetS.trans{bt:Int->Int->Bool}(hb:Bt bt){a b c:Nat}:BetS bt a b->BetS bt b c->BetS bt a c:=by
 rintro(h|⟨h,h'⟩) (k|⟨k,k'⟩)
 ·exact .inl (hb.trans _ _ _ h k)
 ·exact .inl (by rw[<-k];exact h)
 ·exact .inl (by rw[h];exact k)
 ·exact .inr ⟨h.trans k,h'.trans k'⟩
theorem Z4p{f:Nat->Bool}{bt:Int->Int->Bool}(hb:Bt bt):∀n,n<=256->((Zm f bt n).2=false->(Zm f bt n).1=0/\∀k,k<n->f k=false)/\((Zm f bt n).2=true->f (Zm f bt n).1=true/\(Zm f bt n).1<n/\∀k,k<n->f k=true->k=(Zm f bt n).1\/BetS bt (Zm f bt n).1 k)
 |0,_=>by simp[Zm]
 |n+1,hn=>by
  obtain⟨ih1,ih2⟩:=Z4p (f:=f) hb n (by omega);have A3:=Z56 f bt n (by omega);rw[Zm];cases hf:f n with
  |false=>
   rw[Bool.false_and,if_neg (by decide)];refine⟨fun h=>⟨(ih1 h).1,fun k hk=> ?_⟩,fun h=>⟨(ih2 h).1,by have:=(ih2 h).2.1;omega,fun k hk Kc=> ?_⟩⟩
   ·by_cases e:k=n
    ·subst e;exact hf
    ·exact(ih1 h).2 k (by omega)
   ·by_cases e:k=n
    ·subst e;rw[hf] at Kc;cases Kc
    ·exact(ih2 h).2.2 k (by omega) Kc
  |true=>
   rw[Bool.true_and];by_cases hc:(!(Zm f bt n).2||bt (bl n).length (bl (Zm f bt n).1).length||((bl n).length==(bl (Zm f bt n).1).length&&Z1g n (Zm f bt n).1))=true
   ·rw[if_pos hc];refine⟨fun h=>(by cases h),fun _=>⟨hf,by omega,fun k hk Kc=> ?_⟩⟩;by_cases e:k=n
    ·exact .inl e
    ·right
     show BetS bt n k;cases Jh:(Zm f bt n).2 with
     |false=>rw[(ih1 Jh).2 k (by omega)] at Kc;cases Kc
     |true=>
      rw[Jh] at hc;simp only[Bool.not_true,Bool.false_or,Bool.or_eq_true,Bool.and_eq_true,beq_iff_eq] at hc;have h1:BetS bt n (Zm f bt n).1:=by
       rcases hc with hc|⟨hc,hl⟩
       ·exact .inl hc
       ·exact .inr ⟨hc,(Z4n (by omega) A3).1 hl⟩
      rcases(ih2 Jh).2.2 k (by omega) Kc with rfl|h2
      ·exact h1
      ·exact h1.trans hb h2
   ·rw[if_neg hc];cases Jh:(Zm f bt n).2 with
    |false=>rw[Jh] at hc;simp at hc
    |true=>
     rw[Jh] at hc;simp only[Bool.not_true,Bool.false_or,Bool.or_eq_true,Bool.and_eq_true,beq_iff_eq,not_or,not_and] at hc;refine⟨fun h=>(by cases h),fun _=>⟨(ih2 Jh).1,by have:=(ih2 Jh).2.1;omega,fun k hk Kc=> ?_⟩⟩;by_cases e:k=n
     ·subst e;right;by_cases hl:(bl k).length=(bl (Zm f bt k).1).length
      ·have Jp:=hc.2 hl;rw[Z4n (by omega) A3] at Jp;have A8:k≠(Zm f bt k).1:=(by have:=(ih2 Jh).2.1;omega);exact .inr ⟨hl.symm,(LB.total (by omega) A3 A8).resolve_left Jp⟩
      ·exact .inl ((hb.total _ _ (fun h=>hl (by omega))).resolve_left hc.1)
     ·exact(ih2 Jh).2.2 k (by omega) Kc
def ZaG(f:List Int->Bool)(bt:Int->Int->Bool)(b:List Int×Bool)(cs:List (List Int)):List Int×Bool:=cs.foldl (fun b l=>if(!b.2||bt l.length b.1.length)&&f l then(l,true) else b) b
def Zdz(f:List Int->Bool)(bt:Int->Int->Bool)(cs:List (List Int))(b:List Int×Bool):Prop:=
 (b.2=false->b.1=[]/\∀l∈cs,f l=false)/\(b.2=true->f b.1=true/\b.1∈cs/\∀l∈cs,f l=true->l=b.1\/bt b.1.length l.length=true\/(b.1.length=l.length/\Lx b.1 l))
theorem Z4q{f:List Int->Bool}{bt:Int->Int->Bool}(hb:Bt bt):∀(cs done:List (List Int))(b:List Int×Bool),(done++cs).Pairwise Lx->Zdz f bt done b->Zdz f bt (done++cs) (ZaG f bt b cs)
 |[],done,b,_,h=>by rw[List.append_nil];exact h
 |l::cs,done,b,hp,h=>by
  have e:done++l::cs=(done++[l])++cs:=by simp
  rw[e] at hp⊢;refine Z4q hb cs (done++[l]) _ hp ?_;show Zdz f bt (done++[l]) (if((!b.2||bt l.length b.1.length)&&f l)=true then(l,true) else b);have Yt:∀l'∈done,Lx l' l:=by
   intro l' hl';have h1:=(List.pairwise_append.1 hp).1;exact(List.pairwise_append.1 h1).2.2 l' hl' l (by simp)
  obtain⟨h1,h2⟩:=h;cases hf:f l with
  |false=>
   rw[Bool.and_false,if_neg (by decide)];refine⟨fun Ar=>⟨(h1 Ar).1,fun l' hl'=> ?_⟩,fun Ar=>⟨(h2 Ar).1,List.mem_append_left _ (h2 Ar).2.1,fun l' hl' Ho=> ?_⟩⟩
   ·rcases List.mem_append.1 hl' with hm|hm
    ·exact(h1 Ar).2 l' hm
    ·rw[List.mem_singleton.1 hm];exact hf
   ·rcases List.mem_append.1 hl' with hm|hm
    ·exact(h2 Ar).2.2 l' hm Ho
    ·rw[List.mem_singleton.1 hm,hf] at Ho;cases Ho
  |true=>
   rw[Bool.and_true];by_cases hc:(!b.2||bt l.length b.1.length)=true
   ·rw[if_pos hc];refine⟨fun h=>(by cases h),fun _=>⟨hf,by simp,fun l' hl' Ho=> ?_⟩⟩;rcases List.mem_append.1 hl' with hm|hm
    ·right
     show bt l.length l'.length=true\/_;cases Ar:b.2 with
     |false=>rw[(h1 Ar).2 l' hm] at Ho;cases Ho
     |true=>
      rw[Ar] at hc;simp only[Bool.not_true,Bool.false_or] at hc;left;rcases(h2 Ar).2.2 l' hm Ho with rfl|h3|⟨h3,_⟩
      ·exact hc
      ·exact hb.trans _ _ _ hc h3
      ·rw[<-h3];exact hc
    ·exact .inl (List.mem_singleton.1 hm)
   ·rw[if_neg hc];have Ar:b.2=true:=by
     cases Ar:b.2 with
     |true=>rfl
     |false=>rw[Ar] at hc;simp at hc
    rw[Ar] at hc;simp only[Bool.not_true,Bool.false_or] at hc;refine⟨fun h=>(by rw[Ar] at h;cases h),fun _=>⟨(h2 Ar).1,List.mem_append_left _ (h2 Ar).2.1,fun l' hl' Ho=> ?_⟩⟩;rcases List.mem_append.1 hl' with hm|hm
    ·exact(h2 Ar).2.2 l' hm Ho
    ·rw[List.mem_singleton.1 hm];right;by_cases hl:b.1.length=l.length
     ·exact .inr ⟨hl,Yt _ (h2 Ar).2.1⟩
     ·exact .inl ((hb.total _ _ (fun h=>hl (by omega))).resolve_right hc)
theorem ZaH{n:Nat}(hn:n<=8){f:Nat->Bool}{g:List Int->Bool}{bt:Int->Int->Bool}(hb:Bt bt)(Tx:∀k,k<2 ^ n->f k=g (ZN k)):ZN (Zm f bt (2 ^ n)).1=(ZaG g bt ([],false) (chooseR (upL n))).1:=by
 have Wl:2 ^ n<=256:=by have:=Nat.pow_le_pow_right (n:=2) (by omega) hn;exact this
 obtain⟨h1,h2⟩:=Z4p (f:=f) hb (2 ^ n) Wl;have Ri:(upL n).Pairwise (·<·):=by
  rw[upL,List.pairwise_map];exact List.pairwise_lt_range.imp fun h=>by omega
 obtain⟨k1,k2⟩:=Z4q (f:=g) hb (chooseR (upL n)) [] ([],false) (by rw[List.nil_append];exact chooseR_lx _ Ri) ⟨fun _=>⟨rfl,fun l hl=>by cases hl⟩,fun h=>by cases h⟩;rw[List.nil_append] at k1 k2;cases hp:(ZaG g bt ([],false) (chooseR (upL n))).2 with
 |false=>
  have hz:=(k1 hp).2;have:(Zm f bt (2 ^ n)).2=false:=by
   cases hf:(Zm f bt (2 ^ n)).2 with
   |false=>rfl
   |true=>
    have h3:=h2 hf;have h4:=hz _ (Z4o hn h3.2.1);rw[<-Tx _ h3.2.1,h3.1] at h4;cases h4
  rw[(h1 this).1,(k1 hp).1];rfl
 |true=>
  obtain⟨k3,k4,k5⟩:=k2 hp;obtain⟨m,hm,em⟩:=Z8E hn k4;have hf:(Zm f bt (2 ^ n)).2=true:=by
   cases hf:(Zm f bt (2 ^ n)).2 with
   |true=>rfl
   |false=>
    have:=(h1 hf).2 m hm;rw[Tx m hm,<-em,k3] at this;cases this
  obtain⟨h3,h4,h5⟩:=h2 hf;rcases k5 _ (Z4o hn h4) (by rw[<-Tx _ h4];exact h3) with k6|k6
  ·exact k6
  ·rcases h5 m hm (by rw[Tx m hm,<-em];exact k3) with rfl|h6
   ·exact em.symm
   ·exfalso;rw[em] at k6;have A2:∀k,(ZN k).length=(bl k).length:=fun k=>by simp[ZN]
    rw[A2,A2] at k6;rcases h6 with h6|⟨h6,h7⟩<;>rcases k6 with k6|⟨k6,k7⟩
    ·exact hb.asym _ _ h6 k6
    ·rw[k6] at h6;exact hb.asym _ _ h6 h6
    ·rw[h6] at k6;exact hb.asym _ _ k6 k6
    ·exact(h7.trans (lx_LB k7 (by rw[A2,A2];exact k6))).irrefl
def Zes(r0 r1 r2 r3:Int)(S:List Rs):List Int:=(ZaG (fun l=> !Z20 r0 r1 r2 r3 S l) (fun a b=>decide (a<b)) ([],false) (chooseR (upL S.length))).1
def Zcy(r0 r1 r2 r3:Int)(S:List Rs):List Int:=(chooseR (upL S.length)).foldl (fun b l=>if decide (b.length<l.length)&&Z20 r0 r1 r2 r3 S l then l else b) []
theorem Zc5{r0 r1 r2 r3:Int}{S:List Rs}(hc:CardOk r0 r1 r2 r3 S):Z7L r0 r1 r2 r3 S=Zes r0 r1 r2 r3 S:=
 ZaH hc.len bt_lt fun k hk=>by
  rw[Z6X hc hk];cases Z20 r0 r1 r2 r3 S (ZN k)<;>rfl
theorem Zc6{r0 r1 r2 r3:Int}{S:List Rs}(hc:CardOk r0 r1 r2 r3 S):Z7M r0 r1 r2 r3 S=Zcy r0 r1 r2 r3 S:=by
 have h:=ZaH (n:=S.length) hc.len bt_gt (f:=fun k=>Zz (cvS r0 r1 r2 r3 (S.map Ze)) k S.length==true) (g:=Z20 r0 r1 r2 r3 S) fun k hk=>by
  rw[Z6X hc hk];cases Z20 r0 r1 r2 r3 S (ZN k)<;>rfl
 refine Eq.trans h ?_;rw[Zcy,chooseR_head,ZaG,List.foldl_cons,List.foldl_cons];have e:Z20 r0 r1 r2 r3 S []=true:=rfl;simp only[e,Bool.not_false,Bool.true_or,Bool.and_self,if_true,List.length_nil,Nat.lt_irrefl,decide_false,Bool.false_and,Bool.false_eq_true,if_false];generalize (chooseR (upL S.length)).tail=cs;have key:∀(cs:List (List Int))(b:List Int),(cs.foldl (fun(b:List Int×Bool) l=>if(!b.2||decide ((b.1.length:Int)<(l.length:Int)))&&Z20 r0 r1 r2 r3 S l then(l,true) else b) (b,true)).1=cs.foldl (fun b l=>if decide (b.length<l.length)&&Z20 r0 r1 r2 r3 S l then l else b) b:=by
  intro cs
  induction cs with
  |nil=>intro b;rfl
  |cons l cs ih=>
   intro b;rw[List.foldl_cons,List.foldl_cons];have e:((!true||decide ((b.length:Int)<(l.length:Int)))&&Z20 r0 r1 r2 r3 S l)=(decide (b.length<l.length)&&Z20 r0 r1 r2 r3 S l):=by simp
   show(cs.foldl _ (if((!true||decide ((b.length:Int)<(l.length:Int)))&&Z20 r0 r1 r2 r3 S l)=true then(l,true) else(b,true))).1=_;rw[e];by_cases hh:(decide (b.length<l.length)&&Z20 r0 r1 r2 r3 S l)=true
   ·rw[if_pos hh,if_pos hh];exact ih l
   ·rw[if_neg hh,if_neg hh];exact ih b
 exact key cs []
end Go.Proofs.Tryq
