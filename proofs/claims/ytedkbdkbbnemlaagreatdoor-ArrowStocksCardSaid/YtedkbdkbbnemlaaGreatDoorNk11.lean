import Derived.Test.YtedkbdkbbnemlaaGreatDoorNkA
import Derived.Test.YtedkbdkbbnemlaaGreatDoorNk10
import Derived.LaidMore
import Derived.LaidSub
import Derived.Laws.EntriesVeiled
import Derived.Lib.ConvBytes
import Derived.Lib.Hide
import Derived.Maps.Own
import Derived.Test.YtedkbdkbbnemlaaGreatDoorRows
set_option linter.all false
namespace Go.Proofs.Tryq
open Go Go.Nk Go.RowKit
def bl(x:Nat):List Nat:=(List.range 8).filter fun i=>x.testBit i
def e1(x:Int):Int:=IntKind.u64.wrap (bits .and .u64 (x / 2) 6148914691236517205+bits .and .u64 x 6148914691236517205)
def e2(x:Int):Int:=IntKind.u64.wrap (bits .and .u64 (x / 4) 3689348814741910323+bits .and .u64 x 3689348814741910323)
def e3(x:Int):Int:=bits .and .u64 (IntKind.u64.wrap (x / 16+x)) 1085102592571150095
def e4(d x:Int):Int:=IntKind.u64.wrap (x+x / d)
def e7(x:Int):Int:=bits .and .i64 (wrap64 x) 127
def Zd0(x:Int):Int:=e7 (e4 4294967296 (e4 65536 (e4 256 (e3 (e2 (e1 x))))))
theorem onesE_all:(List.range 256).all (fun k=>Zd0 (k:Int)==((bl k).length:Int))=true:=by kernel_rfl
theorem Zbj{k:Nat}(hk:k<256):Zd0 (k:Int)=((bl k).length:Int):=by
 have:=YL.1 onesE_all k (YU.2 hk);simpa using this
theorem Z88(k:Nat)(hk:k<256)(w:World):Calls prog 167 #[.int .u64 k] w fun e w'=>e= .returned (.int .i64 (bl k).length)/\w'=w:=by
 have B3:(0:Int)<=(k:Int):=by omega
 have hE:=Zbj hk;generalize (bl k).length=m at hE⊢;generalize (k:Int)=x at B3 hE⊢;have H:Hid (Zd0 x=m):=hE;clear hE;go_enter func167,ntmps167;go_wp2;go_ret;exact⟨Z10 H,rfl⟩
def dbP:Nat->Nat
 |0=>0
 |1=>1
 |2=>3
 |3=>7
 |4=>15
 |5=>31
 |6=>63
 |_=>62
def Deb(w:World):Prop:=∀i,i<8->w.cell? ⟨3,dbP i,none⟩=some (.int .u8 i)
theorem Deb.ext{w w':World}(h:Deb w)(e:Ext w w'):Deb w':=fun i hi=>e.cellS (h i hi)
def tz(k:Nat):Nat:=(bl k).headD 0
theorem tz_all:(List.range 256).all (fun k=>k==0||(decide (tz k<8)&&IntKind.u64.wrap (bits .and .u64 (k:Int) (IntKind.u64.wrap (-(k:Int)))*285870213051353865) / 288230376151711744==(dbP (tz k):Int)))=true:=by kernel_rfl
theorem tz_ok{k:Nat}(hk:k<256)(h0:0<k):tz k<8/\IntKind.u64.wrap (bits .and .u64 (k:Int) (IntKind.u64.wrap (-(k:Int)))*285870213051353865) / 288230376151711744=(dbP (tz k):Int):=by
 have:=YL.1 tz_all k (YU.2 hk);simp only[Bool.or_eq_true,YG,beq_iff_eq,decide_eq_true_eq] at this;rcases this with h|h
 ·omega
 ·exact h
theorem dbP_lt:∀i,i<8->dbP i<64:=by decide
theorem ZdY(x q t:Int)(w:World)(hx:0<=x)(h5:(x==0)=false)(h3:w.cell? ⟨3,q.toNat,none⟩=some (.int .u8 t))(Un:0<=t)(H8:t<8)
 (h2:IntKind.u64.wrap (bits .and .u64 x (IntKind.u64.wrap (-x))*285870213051353865) / 288230376151711744=q)(R9:0<=q)(Kq:q<64):Calls prog 189 #[.int .u64 x] w fun e w'=>e= .returned (.int .i64 t)/\w'=w:=by
 go_enter func189,ntmps189;go_wp2;go_ret;exact⟨rfl,rfl⟩
theorem Zbk(k:Nat)(hk:k<256)(h0:0<k)(w:World)(hg:Deb w):Calls prog 189 #[.int .u64 k] w fun e w'=>e= .returned (.int .i64 (tz k))/\w'=w:=by
 obtain⟨h1,h2⟩:=tz_ok hk h0;have h3:=hg _ h1;have h4:=dbP_lt _ h1;generalize dbP (tz k)=q at h2 h3 h4;generalize tz k=t at h1 h3⊢;exact ZdY k q t w (by omega) (by simp;omega) h3 (by omega) (by omega) h2 (by omega) (by omega)
theorem Z7k(k:Nat)(hk:k<256)(w:World):Calls prog 156 #[.int .u64 k] w fun e w'=>e= .returned (.int .i64 (bl k).length)/\w'=w:=by
 go_enter func156,ntmps156;go_wp2_with (first|(go_at_call 167;refine(Z88 k hk _).mono ?_;rintro e w2 ⟨rfl,rfl⟩));go_ret;exact⟨rfl,rfl⟩
theorem ZdZ(k:Nat)(hk:k<256)(h0:0<k)(w:World)(hg:Deb w):Calls prog 168 #[.int .u64 k] w fun e w'=>e= .returned (.int .i64 (tz k))/\w'=w:=by
 go_enter func168,ntmps168;go_wp2_with (first|(go_at_call 189;refine(Zbk k hk h0 _ hg).mono ?_;rintro e w2 ⟨rfl,rfl⟩));go_ret;exact⟨rfl,rfl⟩
def Z1g(x y:Int):Bool:=(bits .xor .i64 x y !=0)&&(bits .and .i64 x (bits .and .i64 (bits .xor .i64 x y) (wrap64 (-bits .xor .i64 x y))) !=0)
theorem Z89(x y:Int)(hx:0<=x/\x<256)(hy:0<=y/\y<256)(w:World):Calls prog 157 #[.int .i64 x,.int .i64 y] w fun e w'=>e= .returned (.bool (Z1g x y))/\w'=w:=by
 go_enter func157,ntmps157;go_wp2;all_goals go_ret
 all_goals
  refine⟨?_,rfl⟩;rename_i h;rw[show∀x y:Value,Ending.returned x=Ending.returned y↔x=y from fun x y=>by simp];simp[Z1g,h]
end Go.Proofs.Tryq
namespace Go.Proofs.Tryq
set_option maxRecDepth 100000
set_option maxHeartbeats 2000000
open Go Go.Nk Go.RowKit
def Meas(w:World):Prop:=∀i,i<6->w.cell? ⟨0,i,none⟩=some (.func (.func (211+i)) #[] #[])
theorem Meas.ext{w w':World}(h:Meas w)(e:Ext w w'):Meas w':=fun i hi=>e.cellS (h i hi)
theorem Z7l(w:World):(Instr.index 170 (.agg #[.func (.func 211) #[] #[],.func (.func 212) #[] #[],.func (.func 213) #[] #[],.func (.func 214) #[] #[],.func (.func 215) #[] #[],.func (.func 216) #[] #[]]) (.int .i64 0)).run prog w= .ok (.agg #[.func (.func 211) #[] #[],.func (.func 212) #[] #[]]) w:=by
 unfold Instr.index Go.part;simp[go_sem,run_asAgg,asIntOf]
theorem Z7m(w:World):(Instr.index 170 (.agg #[.func (.func 211) #[] #[],.func (.func 212) #[] #[],.func (.func 213) #[] #[],.func (.func 214) #[] #[],.func (.func 215) #[] #[],.func (.func 216) #[] #[]]) (.int .i64 1)).run prog w= .ok (.agg #[.func (.func 213) #[] #[],.func (.func 214) #[] #[]]) w:=by
 unfold Instr.index Go.part;simp[go_sem,run_asAgg,asIntOf]
theorem Z7n(w:World):(Instr.index 170 (.agg #[.func (.func 211) #[] #[],.func (.func 212) #[] #[],.func (.func 213) #[] #[],.func (.func 214) #[] #[],.func (.func 215) #[] #[],.func (.func 216) #[] #[]]) (.int .i64 2)).run prog w= .ok (.agg #[.func (.func 215) #[] #[],.func (.func 216) #[] #[]]) w:=by
 unfold Instr.index Go.part;simp[go_sem,run_asAgg,asIntOf]
theorem Z7o(b off:Nat)(w:World):Calls prog 211 #[.pointer (some ⟨b,off,none⟩)] w fun e w'=>e= .returned (.pointer (some ⟨b,off+1,none⟩))/\w'=w:=by
 go_enter func211,ntmps211;go_wp2;go_ret;exact⟨rfl,rfl⟩
theorem Z7p(b off:Nat)(w:World):Calls prog 213 #[.pointer (some ⟨b,off,none⟩)] w fun e w'=>e= .returned (.pointer (some ⟨b,off+3,none⟩))/\w'=w:=by
 go_enter func213,ntmps213;go_wp2;go_ret;exact⟨rfl,rfl⟩
theorem Z7q(b off:Nat)(w:World):Calls prog 215 #[.pointer (some ⟨b,off,none⟩)] w fun e w'=>e= .returned (.pointer (some ⟨b,off+5,none⟩))/\w'=w:=by
 go_enter func215,ntmps215;go_wp2;go_ret;exact⟨rfl,rfl⟩
theorem Z7r(a b c m:Int)(w:World):Calls prog 212 #[.agg #[.int .i64 a,.int .i64 b,.int .i64 c,.int .i64 m]] w fun e w'=>e= .returned (.int .i64 a)/\Ext w w':=by
 go_enter func212,ntmps212;go_wp2;go_ret;exact⟨rfl,(Ext.rfl' w).alloc _⟩
theorem Z7s(a b c m:Int)(w:World):Calls prog 214 #[.agg #[.int .i64 a,.int .i64 b,.int .i64 c,.int .i64 m]] w fun e w'=>e= .returned (.int .i64 b)/\Ext w w':=by
 go_enter func214,ntmps214;go_wp2;go_ret;exact⟨rfl,(Ext.rfl' w).alloc _⟩
theorem Z7t(a b c m:Int)(w:World):Calls prog 216 #[.agg #[.int .i64 a,.int .i64 b,.int .i64 c,.int .i64 m]] w fun e w'=>e= .returned (.int .i64 c)/\Ext w w':=by
 go_enter func216,ntmps216;go_wp2;go_ret;exact⟨rfl,(Ext.rfl' w).alloc _⟩
def okA(n hi:Int):Bool:=decide (0<=n/\n<=hi)
def Z2J(a b c m:Int):Int:=if okA a 9999&&okA b 9999&&okA c 9999&&decide (2<=m/\m<=4) then 0 else 1
def alw(a b c:Int):Nat->Int
 |0=>a
 |1=>b
 |_=>c
theorem ZK{a b:Int}(h:a=b):Ending.returned (.int .i64 a)=Ending.returned (.int .i64 b):=by rw[h]
theorem Z9w(a b c m:Int)(base:Option Addr)(n cap:Nat)(w:World)(hM:Meas w):Calls prog 91 #[.agg #[.int .i64 a,.int .i64 b,.int .i64 c,.int .i64 m,.slice base n cap]] w fun e w'=>e= .returned (.int .i64 (Z2J a b c m))/\Ext w w':=by
 have g0:=hM 0 (by omega);have g1:=hM 1 (by omega);have g2:=hM 2 (by omega);have g3:=hM 3 (by omega);have g4:=hM 4 (by omega);have g5:=hM 5 (by omega);simp only[Nat.reduceAdd] at g0 g1 g2 g3 g4 g5;have hl:0<w.heap.size:=by
  unfold World.cell? at g0;split at g0
  ·rename_i hh;exact Z5 hh
  ·cases g0
 go_enter func91,ntmps91;go_wp2;go_loopw [6] (fun v wr=>∃i:Nat,i<=3/\v= .int .i64 i/\wr.heap[w.heap.size]? =some (.cells #[.int .i64 a,.int .i64 b,.int .i64 c,.int .i64 m,.slice base n cap] 120)/\Ext w wr/\∀j,j<i->okA (alw a b c j) 9999=true) (fun v _=>3 - (intOf v).toNat)
 case atStart=>exact⟨0,Nat.zero_le _,rfl,by rw[Z3,if_pos rfl],(Ext.rfl' w).alloc _,fun j hj=>by omega⟩
 case round=>
  obtain⟨i,hi,rfl,hr,hE,hz⟩:=hrel;clear g0 g1 g2 g3 g4 g5 hM;have q0:=Z0 hr 0;have q1:=Z0 hr 1;have q2:=Z0 hr 2;have q3:=Z0 hr 3;have q4:=Z0 hr 4;simp only[YC,YA,YB] at q0 q1 q2 q3 q4;by_cases Aw:i=3
  ·subst Aw;have h0:=hz 0 (by omega);have h1:=hz 1 (by omega);have h2:=hz 2 (by omega);clear hz;simp only[alw] at h0 h1 h2;have H:Hid (Z2J a b c m=if decide (2<=m/\m<=4) then 0 else 1):=by show Z2J a b c m=_;simp only[Z2J,h0,h1,h2,Bool.true_and]
   clear h0 h1 h2;go_wp2_with (first|(go_at_call 110;refine(Z09 _ _ _ _).mono ?_;rintro e w2 ⟨rfl,rfl⟩)|(go_at_call 109;refine(Z1a _ _ _).mono ?_;rintro e w2 ⟨rfl,rfl⟩))
   all_goals
    go_ret;refine⟨?_,hE⟩;rw[H];simp
    try omega
  ·have A4:i<3:=by omega
   have Fo:w.heap.size<wr.heap.size:=Z5 hr;obtain rfl|rfl|rfl:i=0\/i=1\/i=2:=by omega
   all_goals
    have Cd:=Z7l;have G7:=Z7m;have D9:=Z7n
    go_wp2_with (first
     |(go_at_call 212;refine(Z7r _ _ _ _ _).mono ?_;rintro e w2 ⟨rfl,A8⟩)
     |(go_at_call 214;refine(Z7s _ _ _ _ _).mono ?_;rintro e w2 ⟨rfl,A8⟩)
     |(go_at_call 216;refine(Z7t _ _ _ _ _).mono ?_;rintro e w2 ⟨rfl,A8⟩)
     |(go_at_call 110;refine(Z09 _ _ _ _).mono ?_;rintro e w2 ⟨rfl,rfl⟩))
    all_goals have Av:=(hE.alloc _).trans A8
    all_goals have Ga:=A8.get (((Ext.rfl' wr).alloc _).get hr)
    ·rename_i hb;go_ret;refine⟨ZK (a:=1) ?_,Av⟩;simp at hb;rw[Z2J,if_neg];simp[okA];omega
    ·rename_i hb;simp at hb;have step:∀k:Nat,(∀j,j<k->okA (alw a b c j) 9999=true)->okA (alw a b c k) 9999=true->∀j,j<k+1->okA (alw a b c j) 9999=true:=by
      intro k h1 h2 j hj;rcases Nat.lt_succ_iff_lt_or_eq.1 hj with h|rfl
      ·exact h1 j h
      ·exact h2
     first
      |exact⟨⟨1,by omega,rfl,Ga,Av,step 0 hz (by simp only[okA,alw];simp;omega)⟩,by simp[intOf]⟩
      |exact⟨⟨2,by omega,rfl,Ga,Av,step 1 hz (by simp only[okA,alw];simp;omega)⟩,by simp[intOf]⟩
      |exact⟨⟨3,by omega,rfl,Ga,Av,step 2 hz (by simp only[okA,alw];simp;omega)⟩,by simp[intOf]⟩
end Go.Proofs.Tryq
namespace Go.Proofs.Tryq
set_option maxRecDepth 100000
set_option maxHeartbeats 1000000
open Go Go.Nk Go.RowKit
def Z8N(c:Int):Bool:=decide (97<=c/\c<=122)
def Ze0(c:Int):Bool:=decide (48<=c/\c<=57)
def ZM(c:UInt8):Bool:= !Z8N (c.toNat:Int)&& !Ze0 (c.toNat:Int)
theorem Z7u(c:UInt8)(w:World):Calls prog 160 #[.int .u8 c.toNat] w fun e w'=>e= .returned (.bool (ZM c))/\w'=w:=by
 have h0:(0:Int)<=(c.toNat:Int):=by omega
 have h1:(c.toNat:Int)<256:=by have:=c.toNat_lt;omega
 unfold ZM Z8N Ze0;generalize (c.toNat:Int)=x at h0 h1⊢;by_cases hl:97<=x/\x<=122
 ·have hd:decide (97<=x/\x<=122)=true:=decide_eq_true hl;rw[hd];go_enter func160,ntmps160;go_wp2_with (first|(go_at_call 110;refine(Z09 _ _ _ _).mono ?_;rintro e w2 ⟨rfl,rfl⟩));go_ret;exact⟨rfl,rfl⟩
 ·have hd:decide (97<=x/\x<=122)=false:=decide_eq_false hl;rw[hd];go_enter func160,ntmps160;go_wp2_with (first|(go_at_call 110;refine(Z09 _ _ _ _).mono ?_;rintro e w2 ⟨rfl,rfl⟩));go_ret;exact⟨by simp,rfl⟩
def ZdH(l:List UInt8):Int:=match l.findIdx? ZM with
 |some i=>(i:Int)
 |none=> -1
theorem Zd1(b n cap:Nat)(l:List UInt8)(w:World)(A3:l.length=n)(hn:n<=12)(hc:∀i x,l[i]? =some x->w.cell? ⟨b,i,none⟩=some (.int .u8 x.toNat)):
 Calls prog 169 #[.slice (some ⟨b,0,none⟩) n cap,.func (.func 160) #[] #[]] w fun e w'=>e= .returned (.int .i64 (ZdH l))/\w'=w:=by
 go_enter func169,ntmps169;go_wp2
 go_loop [8] (fun v=>∃i:Nat,i<=n/\v= .int .i64 i/\∀j x,j<i->l[j]? =some x->ZM x=false) (fun v=>n - (intOf v).toNat)
 case atStart=>exact⟨0,Nat.zero_le _,rfl,fun j x hj=>by omega⟩
 case round=>
  obtain⟨i,hi,rfl,hz⟩:=hrel;by_cases Aw:i=n
  ·subst Aw;go_wp2;go_ret;refine⟨ZK ?_,rfl⟩;have:l.findIdx? ZM=none:=by
    rw[List.findIdx?_eq_none_iff];intro x hx;obtain⟨j,hj,he⟩:=List.mem_iff_getElem.1 hx;exact hz j x (by omega) (by rw[<-he];exact YH hj)
   rw[ZdH,this]
  ·obtain⟨x,hx⟩:∃x,l[i]? =some x:=⟨_,YH (by omega)⟩;have Us:=hc i x hx;have A4:(i:Int)<(n:Int):=by omega
   have H:Hid (l[i]? =some x):=hx;clear hx hc;cases hb:ZM x
   ·have Im:=fun w=>Z7u x w
    rw[hb] at Im;go_wp2_with (first|(go_at_call 160;refine(Im _).mono ?_;rintro e w2 ⟨rfl,rfl⟩))
    go_round
    case rel=>
     refine⟨i+1,by omega,by push_cast;rfl,fun j y hj hy=> ?_⟩;rcases Nat.lt_succ_iff_lt_or_eq.1 hj with h|rfl
     ·exact hz j y h hy
     ·have:=H.out.symm.trans hy;simp at this;rw[<-this];exact hb
    case measure=>simp[intOf];omega
   ·have Im:=fun w=>Z7u x w
    rw[hb] at Im;go_wp2_with (first|(go_at_call 160;refine(Im _).mono ?_;rintro e w2 ⟨rfl,rfl⟩));go_ret;refine⟨ZK ?_,rfl⟩;have:l.findIdx? ZM=some i:=by
     rw[List.findIdx?_eq_some_iff_getElem];obtain⟨Ev,he⟩:=YI.1 H.out;refine⟨Ev,by rw[he];exact hb,fun j hj=> ?_⟩;rw[hz j l[j] hj (YH _)];simp
    rw[ZdH,this]
theorem Zbl(b n cap:Nat)(l:List UInt8)(w:World)(A3:l.length=n)(hn:n<=12)(hc:∀i x,l[i]? =some x->w.cell? ⟨b,i,none⟩=some (.int .u8 x.toNat)):
 Calls prog 159 #[.slice (some ⟨b,0,none⟩) n cap,.func (.func 160) #[] #[]] w fun e w'=>e= .returned (.bool (l.any ZM))/\w'=w:=by
 have h1:=Zd1 b n cap l w A3 hn hc;have h2:l.any ZM=decide (0<=ZdH l):=by
  unfold ZdH;cases h:l.findIdx? ZM with
  |none=>
   rw[List.findIdx?_eq_none_iff] at h;simp;exact h
  |some i=>
   rw[List.findIdx?_eq_some_iff_getElem] at h;obtain⟨h1,h2,_⟩:=h;simp;exact⟨_,List.getElem_mem h1,h2⟩
 rw[h2];generalize ZdH l=y at h1⊢;go_enter func159,ntmps159;go_wp2_with (first|(go_at_call 169;refine h1.mono ?_;rintro e w2 ⟨rfl,rfl⟩));go_ret;exact⟨rfl,rfl⟩
def Z2d(s:ByteArray):Bool:=decide (1<=s.size/\s.size<=12)&&(match s.data.toList with|[]=>false|c::_=>Z8N (c.toNat:Int))&& !s.data.toList.any ZM
theorem Z5A(s:ByteArray)(h:0<s.size):(match s.data.toList with|[]=>false|c::_=>Z8N (c.toNat:Int))=Z8N ((s[0]).toNat:Int):=by
 have e:s.data.toList[0]? =some s[0]:=by
  rw[Array.getElem?_toList];exact YN h
 cases hl:s.data.toList with
 |nil=>rw[hl] at e;cases e
 |cons c t=>rw[hl] at e;simp at e;rw[e]
theorem u9:prog.underlying 9=some .string:=(underlying_eq 9).trans Tryz.underlying9
theorem u195:prog.underlying 195=some (.slice 5):=(underlying_eq 195).trans Tryz.underlying195
theorem u5:prog.underlying 5=some (.int .u8):=(underlying_eq 5).trans Tryz.underlying5
theorem Z9x(w:World)(e:TypeId)(s:ByteArray):Ext w (Lib.bytesWorld w e s):=
 ⟨by rw[Lib.bytesWorld_size];omega,fun b hb=>Lib.bytesWorld_at_old w e s b hb,by simp[Lib.bytesWorld,World.freeze,World.alloc,World.drew,-World.alloc_eq,-World.drew_eq],by simp[Lib.bytesWorld,World.freeze,World.alloc,World.drew,-World.alloc_eq,-World.drew_eq],by simp[Lib.bytesWorld,World.freeze,World.alloc,World.drew,-World.alloc_eq,-World.drew_eq]⟩
theorem Z8a(s:ByteArray)(w:World)(hs:s.size<=maxLen):Calls prog 138 #[.string s] w fun e w'=>e= .returned (.bool (Z2d s))/\Ext w w':=by
 unfold maxLen at hs;by_cases Az:1<=s.size/\s.size<=12
 ·have Cn:0<s.size:=by omega
  have hN:Z2d s=(Z8N (s[0].toNat:Int)&& !s.data.toList.any ZM):=by
   rw[Z2d,Z5A s Cn,decide_eq_true Az,Bool.true_and]
  rw[hN];clear hN;have K2:(0:Int)<=(s[0].toNat:Int):=by omega
  have B6:(s[0].toNat:Int)<256:=by have:=s[0].toNat_lt;omega
  have Cc:(1:Int)<=(s.size:Int):=by omega
  have Cw:(s.size:Int)<=12:=by omega
  have hcv:=fun w=>Lib.run_convert_string_bytes (P:=prog) w 9 195 5 s u9 u195 u5
  have hct:=fun(w:World) cap=>Zbl w.heap.size s.size cap s.data.toList (Lib.bytesWorld w 5 s) (by rw[Array.length_toList];rfl) Az.2 (by
   intro i x hx;have hi:=(YI.1 hx).1;rw[Array.length_toList] at hi;rw[Lib.bytesWorld_cell w 5 s i hi,List.getD_eq_getElem?_getD,hx];rfl)
  clear Az;generalize s.data.toList.any ZM=q at hct⊢;have D5:=fun w=>Z09 (s.size:Int) 1 12 w
  rw[decide_eq_true (show(1:Int)<=s.size/\(s.size:Int)<=12 from⟨Cc,Cw⟩)] at D5;have Bj:=fun w=>Z09 (s[0].toNat:Int) 97 122 w
  unfold Z8N;cases hl:decide ((97:Int)<=(s[0].toNat:Int)/\(s[0].toNat:Int)<=122)
  all_goals
   rw[hl] at Bj;clear hl Cc Cw;go_enter func138,ntmps138
   go_wp2_with (first
    |(go_at_call 110;(with_reducible refine(D5 _).mono ?_);rintro e w ⟨rfl,rfl⟩)
    |(go_at_call 110;(with_reducible refine(Bj _).mono ?_);rintro e w ⟨rfl,rfl⟩)
    |(go_at_call 159;refine(hct _ _).mono ?_;rintro e w2 ⟨rfl,rfl⟩))
   go_ret
   first
    |exact⟨rfl,Ext.rfl' _⟩
    |exact⟨by simp,Z9x _ _ _⟩
 ·have hN:Z2d s=false:=by rw[Z2d,decide_eq_false Az];rfl
  rw[hN];have hd:decide (1<=(s.size:Int)/\(s.size:Int)<=12)=false:=decide_eq_false (by omega);have C0:=fun w=>Z09 (s.size:Int) 1 12 w
  rw[hd] at C0;clear hN hd;go_enter func138,ntmps138
  go_wp2_with (first
   |(go_at_call 110;refine(C0 _).mono ?_;rintro e w ⟨rfl,rfl⟩))
  go_ret;exact⟨rfl,Ext.rfl' _⟩
end Go.Proofs.Tryq
section
namespace Go.Nk
open Go Go.MapKept
open Go.Maps (Keyed)
open Go.ChangeMaps (setBlock)
def MapAt(P:Program)(k:TypeId)(w:World)(b:Nat)(G:Value->Option Value):Prop:=
 ∃es clock,w.heap[b]? =some (.map es clock)/\(∀e∈es.toList,∃l,keyOf P k e.key=some l)/\es.toList.Pairwise (fun x y=>x.key≠y.key)/\(∀key v,G key=some v->∃e∈es.toList,e.key=key/\e.val=v)/\∀e∈es.toList,G e.key=some e.val
variable {P:Program} {k t e:TypeId} {w:World} {b:Nat} {G:Value->Option Value}
theorem MapAt.made(P:Program)(k:TypeId)(w:World):MapAt P k (w.alloc (.map #[] 0)) w.heap.size (fun _=>none):=
 ⟨#[],0,by have e:(w.alloc (.map #[] 0)).heap=w.heap.push (.map #[] 0):=rfl
           rw[e];simp,by simp,by simp,by simp,by simp⟩
theorem MapAt.lookup(h:MapAt P k w b G)(K:Keyed P k)(ht:P.underlying t=some (.map k e)){z:Value}(hz:(zeroValue e).run P w= .ok z w){key:Value}{kl:Lit}(Da:keyOf P k key=some kl)(c:Bool):
 (Instr.lookup t (.map (some b)) key c).run P w= .ok (if c then .tuple #[(G key).getD z,.bool (G key).isSome] else(G key).getD z) w:=by
 obtain⟨es,clock,hb,hk,_,h1,h2⟩:=h;rcases K.find w Da es.toList hk with⟨hf,A9⟩|⟨j,e0,hf,hj,he⟩
 ·have hG:G key=none:=by
   cases hg:G key with
   |none=>rfl
   |some v=>
    obtain⟨x,hx,Wh,_⟩:=h1 key v hg;exact absurd Wh (A9 x hx)
  rw[hG];simp[Instr.lookup,run_underlying ht,MapKept.run_getObj_map hb,K.check w _ Da,hf,hz,Result.andThen]
 ·have hG:G key=some e0.val:=by rw[<-he];exact h2 e0 (YQ hj)
  rw[hG];simp[Instr.lookup,run_underlying ht,MapKept.run_getObj_map hb,K.check w _ Da,hf,Result.andThen]
open Classical in
theorem MapAt.update(h:MapAt P k w b G)(K:Keyed P k)(ht:P.underlying t=some (.map k e)){key:Value}{kl:Lit}(Da:keyOf P k key=some kl)(val:Value):
 ∃o,(Instr.mapUpdate t (.map (some b)) key val).run P w= .ok () (setBlock w b o)/\MapAt P k (setBlock w b o) b (fun x=>if x=key then some val else G x):=by
 obtain⟨es,clock,hb,hk,hp,h1,h2⟩:=h;have A4:b<w.heap.size:=(YF.1 hb).1;have In:∀o:Obj,(setBlock w b o).heap[b]? =some o:=fun o=>by simp[setBlock,Array.getElem?_setIfInBounds,A4]
 rcases K.find w Da es.toList hk with⟨hf,A9⟩|⟨j,e0,hf,hj,he⟩
 ·refine⟨.map (es.push ⟨key,val,clock⟩) (clock+1),?_,es.push ⟨key,val,clock⟩,clock+1,In _,?_,?_,?_,?_⟩
  ·simp[Instr.mapUpdate,run_underlying ht,MapKept.run_getObj_map hb,K.check w false Da,hf,MapKept.run_setObj_map _ hb,Result.andThen,setBlock]
  ·intro x hx;simp only[Array.toList_push,List.mem_append,List.mem_singleton] at hx;rcases hx with hx|rfl
   ·exact hk x hx
   ·exact⟨_,Da⟩
  ·rw[Array.toList_push,List.pairwise_append];exact⟨hp,by simp,fun x hx y hy=>by simp at hy;subst hy;exact A9 x hx⟩
  ·intro key' v hg;dsimp only at hg;split at hg
   ·rename_i hk';cases hg;exact⟨⟨key,val,clock⟩,by simp,hk'.symm,rfl⟩
   ·obtain⟨x,hx,Dh,Bv⟩:=h1 key' v hg;exact⟨x,by simp;exact .inl (by simpa using hx),Dh,Bv⟩
  ·intro x hx;simp only[Array.toList_push,List.mem_append,List.mem_singleton] at hx;rcases hx with hx|rfl
   ·dsimp only;rw[if_neg (A9 x hx)];exact h2 x hx
   ·dsimp only;rw[if_pos rfl]
 ·have hj':es[j]? =some e0:=by rw[<-Array.getElem?_toList];exact hj
  have Io:j<es.size:=(YF.1 hj').1;have hl:(es.modify j fun x=>{x with key:=key,val:=val}).toList=es.toList.set j {e0 with key:=key,val:=val}:=by
   apply List.ext_getElem?;intro i;rw[Array.getElem?_toList,Array.getElem?_modify,List.getElem?_set];by_cases Ec:j=i
   ·subst Ec;rw[if_pos rfl,if_pos rfl,hj',if_pos (by simpa using Io)];rfl
   ·rw[if_neg Ec,if_neg Ec,Array.getElem?_toList]
  have B8:∀x∈es.toList.set j {e0 with key:=key,val:=val},x={e0 with key:=key,val:=val}\/(x∈es.toList/\x.key≠key):=by
   intro x hx;obtain⟨i,hi,Pp⟩:=List.mem_iff_getElem.1 hx;rw[List.getElem_set] at Pp;split at Pp
   ·exact .inl Pp.symm
   ·rename_i Ec;simp only[List.length_set] at hi;refine .inr ⟨by rw[<-Pp];exact List.getElem_mem _,fun hk'=> ?_⟩;have Ip:j<es.toList.length:=(by simpa using Io);have Ra:es.toList[j]=e0:=by
     have:=YH Ip;rw[hj] at this;exact(YT this).symm
    rcases Nat.lt_or_ge i j with Fh|Fa
    ·exact(List.pairwise_iff_getElem.1 hp i j hi Ip Fh) (by rw[Pp,hk',Ra,he])
    ·exact(List.pairwise_iff_getElem.1 hp j i Ip hi (by omega)) (by rw[Pp,hk',Ra,he])
  refine⟨.map (es.modify j fun x=>{x with key:=key,val:=val}) clock,?_,_,clock,In _,?_,?_,?_,?_⟩
  ·simp[Instr.mapUpdate,run_underlying ht,MapKept.run_getObj_map hb,K.check w false Da,hf,MapKept.run_setObj_map _ hb,Result.andThen,setBlock,hj',he,K.stays w Da]
  ·rw[hl];intro x hx;rcases B8 x hx with rfl|⟨hx,_⟩
   ·exact⟨_,Da⟩
   ·exact hk x hx
  ·rw[hl,List.pairwise_iff_getElem];intro i1 i2 G7 D9 Fh;simp only[List.length_set] at G7 D9;have Ip:j<es.toList.length:=by simpa using Io
   have Ra:es.toList[j]=e0:=by
    have:=YH Ip;rw[hj] at this;exact(YT this).symm
   rw[List.getElem_set,List.getElem_set];have Ly:=List.pairwise_iff_getElem.1 hp i1 i2 G7 D9 Fh;split
   ·rename_i h1';subst h1';rw[if_neg (by omega)];rw[Ra,he] at Ly;exact Ly
   ·split
    ·rename_i h2';subst h2';rw[Ra,he] at Ly;exact Ly
    ·exact Ly
  ·rw[hl];intro key' v hg;dsimp only at hg;split at hg
   ·rename_i hk';cases hg;exact⟨{e0 with key:=key,val:=val},List.mem_iff_getElem?.2 ⟨j,by rw[List.getElem?_set];simp[Io]⟩,hk'.symm,rfl⟩
   ·rename_i hk';obtain⟨x,hx,Dh,Bv⟩:=h1 key' v hg;obtain⟨i,hi⟩:=List.mem_iff_getElem?.1 hx;refine⟨x,List.mem_iff_getElem?.2 ⟨i,?_⟩,Dh,Bv⟩;rw[List.getElem?_set,if_neg ?_]
    ·exact hi
    ·rintro rfl;rw[hj] at hi;cases hi;exact hk' (Dh.symm.trans he)
  ·rw[hl];intro x hx;rcases B8 x hx with rfl|⟨hx,A9⟩
   ·dsimp only;rw[if_pos rfl]
   ·dsimp only;rw[if_neg A9];exact h2 x hx
theorem MapAt.keep{w':World}(h:MapAt P k w b G)(e:w'.heap[b]? =w.heap[b]?):MapAt P k w' b G:=by
 obtain⟨es,clock,hb,h⟩:=h;exact⟨es,clock,e.trans hb,h⟩
theorem MapAt.lt(h:MapAt P k w b G):b<w.heap.size:=by
 obtain⟨es,clock,hb,_⟩:=h;exact(YF.1 hb).1
end Go.Nk
namespace Go.Proofs.Tryq
open Go Go.Nk
theorem Ext.setBlock{w w':World}(h:Ext w w')(b:Nat)(o:Obj)(hb:w.heap.size<=b):Ext w (Go.ChangeMaps.setBlock w' b o):=
 ⟨by simp[Go.ChangeMaps.setBlock];exact h.size,fun c hc=>by simp only[Go.ChangeMaps.setBlock];rw[YO (by omega)];exact h.old c hc,h.tape,h.os,h.output⟩
theorem Z0O{w:World}{b c:Nat}(h:c≠b)(o:Obj):(Go.ChangeMaps.setBlock w b o).heap[c]? =w.heap[c]? :=by
 simp only[Go.ChangeMaps.setBlock];exact YO (fun e=>h e.symm)
theorem Z2s(w:World)(b:Nat)(o:Obj):(Go.ChangeMaps.setBlock w b o).heap.size=w.heap.size:=by simp[Go.ChangeMaps.setBlock]
end Go.Proofs.Tryq
end
namespace Go.Proofs.Tryq
set_option maxRecDepth 100000
set_option maxHeartbeats 4000000
open Go Go.Nk Go.RowKit
open Go.Maps (Keyed)
structure Sf where
 nm:ByteArray
 a0:Int
 a1:Int
 b0:Int
 b1:Int
 c0:Int
 c1:Int
structure ShaftAt(w:World)(b off:Nat)(x:Sf):Prop where
 k0:w.cell? ⟨b,off,none⟩=some (.string x.nm)
 k1:w.cell? ⟨b,off+1,none⟩=some (.int .i64 x.a0)
 k2:w.cell? ⟨b,off+2,none⟩=some (.int .i64 x.a1)
 k3:w.cell? ⟨b,off+3,none⟩=some (.int .i64 x.b0)
 k4:w.cell? ⟨b,off+4,none⟩=some (.int .i64 x.b1)
 k5:w.cell? ⟨b,off+5,none⟩=some (.int .i64 x.c0)
 k6:w.cell? ⟨b,off+6,none⟩=some (.int .i64 x.c1)
def RawA(w:World)(base:Option Addr)(L:List Sf):Prop:=∀(i:Nat)(x:Sf),L[i]? =some x->∃b off,base=some ⟨b,off,none⟩/\b<w.heap.size/\ShaftAt w b (off+i*7) x/\x.nm.size<=maxLen
theorem ShaftAt.ext{w w':World}{b off:Nat}{x:Sf}(h:ShaftAt w b off x)(e:Ext w w'):ShaftAt w' b off x:=
 ⟨e.cellS h.k0,e.cellS h.k1,e.cellS h.k2,e.cellS h.k3,e.cellS h.k4,e.cellS h.k5,e.cellS h.k6⟩
theorem RawA.ext{w w':World}{base:Option Addr}{L:List Sf}(h:RawA w base L)(e:Ext w w'):RawA w' base L:=by
 intro i x hi;obtain⟨b,off,h1,h2,h3,h4⟩:=h i x hi;exact⟨b,off,h1,e.lt h2,h3.ext e,h4⟩
def sfC(x:Sf):Array Value:= #[.string x.nm,.int .i64 x.a0,.int .i64 x.a1,.int .i64 x.b0,.int .i64 x.b1,.int .i64 x.c0,.int .i64 x.c1]
def spA(x:Sf):Nat->Int×Int
 |0=>(x.a0,x.a1)
 |1=>(x.b0,x.b1)
 |_=>(x.c0,x.c1)
def ZF(p:Int×Int):Bool:=decide (0<=p.1/\p.1<=p.2/\p.2<=9999)
def Z8b(x:Sf):Bool:=ZF (spA x 0)&&ZF (spA x 1)&&ZF (spA x 2)
abbrev nmL(x:Sf):List UInt8:=x.nm.data.toList
def shA:List (List UInt8)->List Sf->Int
 |_,[]=>0
 |seen,x::t=>if Z2d x.nm=false then 4 else if nmL x∈seen then 5 else if Z8b x=false then 1 else shA (seen++[nmL x]) t
def Zj(L:List Sf):Int:=if 9<L.length then 2 else shA [] L
def gN(l:List (List UInt8)):Value->Option Value
 | .string s=>if s.data.toList∈l then some (.bool true) else none
 |_=>none
theorem gN_nil:gN []=fun _=>none:=by
 funext v;cases v<;>simp[gN]
open Classical in
theorem Zd2(l:List (List UInt8))(s:ByteArray):(fun x=>if x=Value.string s then some (Value.bool true) else gN l x)=gN (l++[s.data.toList]):=by
 funext v;cases v with
 |string t=>
  by_cases h:t=s
  ·subst h;simp[gN]
  ·have h2:¬t.data.toList=s.data.toList:=fun e=>h (by cases t;cases s;simp at e;subst e;rfl)
   simp[gN,h,h2]
 |_=>simp[gN]
theorem u175:prog.underlying 175=some (.map 9 4):=(underlying_eq 175).trans Tryz.underlying175
theorem keyed9:Keyed prog 9:=Go.Maps.string_keyed u9
theorem z4(w:World):(zeroValue 4).run prog w= .ok (.bool false) w:=(run_zeroValue 4 w).trans (Tryz.zeroValue4 w)
theorem Z0G{α:Type}{L:List α}{i:Nat}{x:α}(h:L[i]? =some x):L.take (i+1)=L.take i++[x]:=by
 rw[List.take_add_one,h];rfl
theorem Z0b{α:Type}{L:List α}{i:Nat}{x:α}(h:L[i]? =some x):L.drop i=x::L.drop (i+1):=by
 obtain⟨hi,he⟩:=YI.1 h;rw[List.drop_eq_getElem_cons hi,he]
theorem Z6w(a b c m:Int)(base:Option Addr)(n cap:Nat)(L:List Sf)(w:World)(A3:L.length=n)(hM:Meas w)(hS:RawA w base L):Calls prog 92 #[.agg #[.int .i64 a,.int .i64 b,.int .i64 c,.int .i64 m,.slice base n cap]] w fun e w'=>e= .returned (.int .i64 (Zj L))/\Ext w w':=by
 by_cases h9:9<L.length
 ·have H:Zj L=2:=by rw[Zj,if_pos h9]
  rw[H];clear H;have Lz:(9:Int)<(n:Int):=by omega
  clear h9;go_enter func92,ntmps92;go_wp2;go_ret;exact⟨rfl,(Ext.rfl' w).alloc _⟩
 ·have H:Hid (Zj L=shA ((L.take 0).map nmL) (L.drop 0)):=by show Zj L=_;rw[Zj,if_neg h9];rfl
  have Lz:(n:Int)<=9:=by omega
  clear h9;have Hf:= @run_makeMap prog;go_enter func92,ntmps92;go_wp2;have Ww:=MapAt.made prog 9 (w.alloc (.cells #[.int .i64 a,.int .i64 b,.int .i64 c,.int .i64 m,.slice base n cap] 120));rw[<-gN_nil,Z2] at Ww;have Bi:=((Ext.rfl' w).alloc (.cells #[.int .i64 a,.int .i64 b,.int .i64 c,.int .i64 m,.slice base n cap] 120)).alloc (.map #[] 0);go_loopw [18] (fun v wr=>∃i:Nat,i<=n/\v= .int .i64 i/\wr.heap[w.heap.size]? =some (.cells #[.int .i64 a,.int .i64 b,.int .i64 c,.int .i64 m,.slice base n cap] 120)/\Ext w wr/\MapAt prog 9 wr (w.heap.size+1) (gN ((L.take i).map nmL))/\Hid (Zj L=shA ((L.take i).map nmL) (L.drop i))) (fun v _=>n - (intOf v).toNat)
  case atStart=>exact⟨0,Nat.zero_le _,rfl,by simp only[Z3,Z2];rw[if_neg (by omega),if_pos trivial],Bi,by simpa using Ww,H⟩
  case round=>
   obtain⟨i,hi,rfl,hr,hE,Cq,hH⟩:=hrel;clear Ww Bi H Hf;by_cases Aw:i=n
   ·subst Aw;have hz:Hid (Zj L=0):=(by show Zj L=0;rw[hH.out,<-A3,List.drop_length];rfl);clear hH;go_wp2;go_ret;exact⟨ZK (a:=0) hz.out.symm,hE⟩
   ·have A4:i<n:=(by omega);obtain⟨x,hx⟩:∃x,L[i]? =some x:=⟨_,YH (by omega)⟩;have Ac:Hid (Zj L=if Z2d x.nm=false then 4 else if nmL x∈(L.take i).map nmL then 5 else if Z8b x=false then 1 else shA ((L.take (i+1)).map nmL) (L.drop (i+1))):=by
     show Zj L=_;rw[hH.out,Z0b hx,shA,Z0G hx,List.map_append];rfl
    obtain⟨b',off,rfl,hb,⟨k0,k1,k2,k3,k4,k5,k6⟩,M0⟩:=(hS.ext hE) i x hx;have Rb:=hM.ext hE;have Fg:=fun w=>Z8a x.nm w M0
    have Rc:keyOf prog 9 (.string x.nm)=some _:=Go.WideMaps.keyOf_string_mk u9 M0
    have Fj:∀w2,Ext (wr.alloc (.cells #[.string x.nm,.int .i64 x.a0,.int .i64 x.a1,.int .i64 x.b0,.int .i64 x.b1,.int .i64 x.c0,.int .i64 x.c1] 51)) w2->w2.heap[wr.heap.size]? =some (.cells #[.string x.nm,.int .i64 x.a0,.int .i64 x.a1,.int .i64 x.b0,.int .i64 x.b1,.int .i64 x.c0,.int .i64 x.c1] 51)/\Ext w w2/\w2.heap[w.heap.size]? =some (.cells #[.int .i64 a,.int .i64 b,.int .i64 c,.int .i64 m,.slice (some ⟨b',off,none⟩) n cap] 120)/\MapAt prog 9 w2 (w.heap.size+1) (gN ((L.take i).map nmL)):=fun w2 h=>
     ⟨h.get ((Z3 _ _ _).trans (if_pos rfl)),(hE.alloc _).trans h,h.get (((Ext.rfl' wr).alloc _).get hr),Cq.keep (((Ext.rfl' wr).alloc _ |>.trans h).old _ Cq.lt)⟩
    cases hnb:Z2d x.nm
    ·have Ax:Hid (Zj L=4):=(by show Zj L=4;rw[Ac.out,if_pos hnb]);rw[hnb] at Fg;clear hnb Ac hH hx
     go_wp2_with (first
      |(go_at_call 138;refine(Fg _).mono ?_;rintro e w2 ⟨rfl,A8⟩;obtain⟨Dh,Bv,_,_⟩:=Fj _ A8))
     go_ret;exact⟨ZK (a:=4) Ax.out.symm,Bv⟩
    ·rw[hnb] at Fg;by_cases Ej:nmL x∈(L.take i).map nmL
     ·have Ax:Hid (Zj L=5):=(by show Zj L=5;rw[Ac.out,if_neg (by rw[hnb];simp),if_pos Ej]);have hg:gN ((L.take i).map nmL) (.string x.nm)=some (.bool true):=(by simp only[gN];rw[if_pos Ej]);clear hnb Ac hH hx Ej
      go_wp2_with (first
       |(go_at_call 138;refine(Fg _).mono ?_;rintro e w2 ⟨rfl,A8⟩;obtain⟨Dh,Bv,_,Pq⟩:=Fj _ A8;have Fc:=Pq.lookup keyed9 u175 (z4 w2) Rc false;rw[hg] at Fc;have y0:=Z0 Dh 0;simp only[YC,YA] at y0;clear Pq hg))
      go_ret;exact⟨ZK (a:=5) Ax.out.symm,Bv⟩
     ·have Ax:Hid (Zj L=if Z8b x=false then 1 else shA ((L.take (i+1)).map nmL) (L.drop (i+1))):=(by show Zj L=_;rw[Ac.out,if_neg (by rw[hnb];simp),if_neg Ej]);have hg:gN ((L.take i).map nmL) (.string x.nm)=none:=(by simp only[gN];rw[if_neg Ej]);have hT:Hid ((L.take (i+1)).map nmL=(L.take i).map nmL++[nmL x]):=(by show _=_;rw[Z0G hx,List.map_append];rfl);clear hnb Ac hH hx Ej
      go_wp2_with (first
       |(go_at_call 138;refine(Fg _).mono ?_;rintro e w2 ⟨rfl,A8⟩;obtain⟨Dh,Bv,Pe,Pq⟩:=Fj _ A8;have Fc:=Pq.lookup keyed9 u175 (z4 w2) Rc false;rw[hg] at Fc;obtain⟨o,En,Kr⟩:=Pq.update keyed9 u175 Rc (.bool true);rw[Zd2,<-hT.out] at Kr
         have A9:wr.heap.size≠w.heap.size+1:=(by have:=Cq.lt;omega);have Re:=(Z0O (w:=w2) A9 o).trans Dh;have Rf:Ext w (Go.ChangeMaps.setBlock w2 (w.heap.size+1) o):=Bv.setBlock _ o (by omega);have Wx:=(Z0O (w:=w2) (c:=w.heap.size) (b:=w.heap.size+1) (by omega) o).trans Pe;have y0:=Z0 Dh 0;simp only[YC,YA] at y0;clear Pq hg Dh Bv Pe A9;generalize Go.ChangeMaps.setBlock w2 (w.heap.size+1) o=V at En Kr Re Rf Wx;have Nq:=hM.ext Rf;have g0:=Nq 0 (by omega);have g1:=Nq 1 (by omega);have g2:=Nq 2 (by omega);have g3:=Nq 3 (by omega);have g4:=Nq 4 (by omega);have g5:=Nq 5 (by omega);simp only[Nat.reduceAdd] at g0 g1 g2 g3 g4 g5))
      have Ut:=Z5 Re;clear En Fc y0 g0 g1 g2 g3 g4 g5 Nq Fg Fj A8 hE Cq Rb k0 k1 k2 k3 k4 k5 k6 hr hb;obtain⟨wo,rfl⟩:∃wo:World,wo=wr:=⟨_,rfl⟩;go_loopw [34] (fun v wi=>∃j:Nat,j<=3/\v= .int .i64 j/\Ext V wi/\Hid (∀j',j'<j->ZF (spA x j')=true)) (fun v _=>3 - (intOf v).toNat)
      case atStart=>exact⟨0,Nat.zero_le _,rfl,Ext.rfl' V,fun j' hj=>by omega⟩
      case round=>
       obtain⟨j,hj,rfl,Rg,hz⟩:=hrel;have Nr:=Rg.get Re;have hRi:=Rg.get Wx;have hli:=Z5 Nr;by_cases hj3:j=3
       ·subst hj3;have B5:Z8b x=true:=(by rw[Z8b,hz.out 0 (by omega),hz.out 1 (by omega),hz.out 2 (by omega)];rfl);have Iq:Hid (Zj L=shA ((L.take (i+1)).map nmL) (L.drop (i+1))):=(by show Zj L=_;rw[Ax.out,if_neg (by rw[B5];simp)]);clear B5 hz Ax;have Ba:=Rf.trans Rg;have Fb:=Kr.keep (Rg.old _ Kr.lt);go_wp2;go_roundw
        case rel=>exact⟨i+1,by omega,by push_cast;rfl,hRi,Ba,Fb,Iq⟩
        case measure=>simp[intOf];omega
       ·have G8:j<3:=(by omega);have y1:=Z0 Nr 1;have y2:=Z0 Nr 2;have y3:=Z0 Nr 3;have y4:=Z0 Nr 4;have y5:=Z0 Nr 5;have y6:=Z0 Nr 6;simp only[YC,YA,YB] at y1 y2 y3 y4 y5 y6;have fin:∀k:Nat,(∀j',j'<k->ZF (spA x j')=true)->ZF (spA x k)=true->∀j',j'<k+1->ZF (spA x j')=true:=by
         intro k h1 h2 j' hj';rcases Nat.lt_succ_iff_lt_or_eq.1 hj' with h|rfl
         ·exact h1 j' h
         ·exact h2
        have bad:∀k:Nat,k<3->ZF (spA x k)=false->Zj L=1:=by
         intro k hk hb;rw[Ax.out,if_pos];unfold Z8b;obtain rfl|rfl|rfl:k=0\/k=1\/k=2:=(by omega);all_goals (rw[hb];simp)
        replace fin:=Lib.hid fin;replace bad:=Lib.hid bad;obtain rfl|rfl|rfl:j=0\/j=1\/j=2:=by omega
        all_goals
         have Cd:=Z7l;have G7:=Z7m;have D9:=Z7n;have hne1:wr.heap.size≠wo.heap.size:=(by omega);have Ly:∀(o:Obj)(i:Nat),(wr.alloc o).cell? ⟨wo.heap.size,i,none⟩=wr.cell? ⟨wo.heap.size,i,none⟩:=fun o i=>World.cell?_alloc_lt _ _ _ hli
         go_wp2_with (first
          |(go_at_call 211;refine(Z7o _ _ _).mono ?_;rintro e w2 ⟨rfl,E4⟩;subst E4)
          |(go_at_call 213;refine(Z7p _ _ _).mono ?_;rintro e w2 ⟨rfl,E4⟩;subst E4)
          |(go_at_call 215;refine(Z7q _ _ _).mono ?_;rintro e w2 ⟨rfl,E4⟩;subst E4)
          |(go_at_call 129;refine(Z84 _ _ _ _ _).mono ?_;rintro e w3 ⟨rfl,Av⟩))
         all_goals have Uu:=(Rg.alloc _).trans Av
         ·rename_i hb;simp at hb;go_ret;have B9:Zj L=1:=by
           first
            |exact bad.out 0 (by omega) (by simp only[ZF,spA];simp;omega)
            |exact bad.out 1 (by omega) (by simp only[ZF,spA];simp;omega)
            |exact bad.out 2 (by omega) (by simp only[ZF,spA];simp;omega)
          exact⟨ZK (a:=1) B9.symm,Rf.trans Uu⟩
         ·rename_i hb;simp at hb;go_roundw
          case rel=>
           first
            |exact⟨1,by omega,rfl,Uu,fin.out 0 hz.out (by simp only[ZF,spA];simp;omega)⟩
            |exact⟨2,by omega,rfl,Uu,fin.out 1 hz.out (by simp only[ZF,spA];simp;omega)⟩
            |exact⟨3,by omega,rfl,Uu,fin.out 2 hz.out (by simp only[ZF,spA];simp;omega)⟩
          case measure=>simp[intOf]
end Go.Proofs.Tryq
namespace Go.Proofs.Tryq
set_option maxRecDepth 100000
set_option maxHeartbeats 2000000
open Go Go.Nk Go.RowKit
def Zp(a b c m:Int)(L:List Sf):Int:=firstV [Z2J a b c m,Zj L]
theorem Z24(a b c m:Int)(base:Option Addr)(n cap:Nat)(L:List Sf)(w:World)(A3:L.length=n)(hM:Meas w)(hS:RawA w base L):
 Calls prog 25 #[.agg #[.int .i64 a,.int .i64 b,.int .i64 c,.int .i64 m,.slice base n cap]] w fun e w'=>e= .returned (.int .i64 (Zp a b c m L))/\Ext w w':=by
 go_enter func25,ntmps25
 go_wp2_with (
  go_at_call 90
  have hE:Ext w _:=(((Ext.rfl' w).alloc (.cells #[.int .i64 a,.int .i64 b,.int .i64 c,.int .i64 m,.slice base n cap] 26)).alloc (.cells #[.int .i64 a,.int .i64 b,.int .i64 c,.int .i64 m,.slice base n cap] 120)).alloc (.cells #[.func (.func 91) #[.agg #[.int .i64 a,.int .i64 b,.int .i64 c,.int .i64 m,.slice base n cap]] #[],.func (.func 92) #[.agg #[.int .i64 a,.int .i64 b,.int .i64 c,.int .i64 m,.slice base n cap]] #[]] 127);have hb:=Z3 ((w.alloc (.cells #[.int .i64 a,.int .i64 b,.int .i64 c,.int .i64 m,.slice base n cap] 26)).alloc (.cells #[.int .i64 a,.int .i64 b,.int .i64 c,.int .i64 m,.slice base n cap] 120)) (.cells #[.func (.func 91) #[.agg #[.int .i64 a,.int .i64 b,.int .i64 c,.int .i64 m,.slice base n cap]] #[],.func (.func 92) #[.agg #[.int .i64 a,.int .i64 b,.int .i64 c,.int .i64 m,.slice base n cap]] #[]] 127) (w.heap.size+1+1);rw[if_pos (by simp only[Z2])] at hb;generalize World.alloc _ _=w1 at hE hb⊢;refine(Z1S (w.heap.size+1+1) 2 2 (fun i=>if i=0 then 91 else 92) (fun i=> #[.agg #[.int .i64 a,.int .i64 b,.int .i64 c,.int .i64 m,.slice base n cap]]) (fun i=> #[]) [Z2J a b c m,Zj L] rfl (by omega) w1 ?_ ?_ ?_).mono ?_
  ·intro i hi;rw[Z0 hb];obtain rfl|rfl:i=0\/i=1:=by omega
   ·rfl
   ·rfl
  ·intro i hi args w';obtain rfl|rfl:i=0\/i=1:=by omega
   ·simp[go_sem]
   ·simp[go_sem]
  ·intro i x hx w' hE'
   match i,hx with
   |0,hx=>
    obtain rfl:=YT hx;exact Z9w a b c m base n cap w' (hM.ext (hE.trans hE'))
   |1,hx=>
    obtain rfl:=YT hx;exact Z6w a b c m base n cap L w' A3 (hM.ext (hE.trans hE')) (hS.ext (hE.trans hE'))
  rintro e w2 ⟨rfl,A8⟩)
 go_ret;exact⟨rfl,hE.trans A8⟩
def RawI(w:World)(base:Option Addr)(l:List Int):Prop:=∀(i:Nat)(x:Int),l[i]? =some x->∃b off,base=some ⟨b,off,none⟩/\b<w.heap.size/\w.cell? ⟨b,off+i,none⟩=some (.int .i64 x)
theorem RawI.ext{w w':World}{base:Option Addr}{l:List Int}(h:RawI w base l)(e:Ext w w'):RawI w' base l:=by
 intro i x hi;obtain⟨b,off,h1,h2,h3⟩:=h i x hi;exact⟨b,off,h1,e.lt h2,e.cellS h3⟩
def Z1k(n:Nat):Option Int->List Int->Int
 |_,[]=>0
 |p,x::t=>if¬(0<=x/\x<=(n:Int) - 1) then 6 else if(match p with|some y=>decide (x<=y)|none=>false) then 7 else Z1k n (some x) t
def Zq(n:Nat)(l:List Int):Int:=Z1k n none l
def Z12(l:List Int)(i:Nat):Option Int:=match i with
 |0=>none
 |i+1=>l[i]?
theorem Z9y(a b c m:Int)(base:Option Addr)(n cap:Nat)(bl:Option Addr)(k cl:Nat)(l:List Int)(w:World)(hn:n<=20)(hk:l.length=k)(B0:k<=100)(hl:RawI w bl l):
 Calls prog 135 #[.agg #[.int .i64 a,.int .i64 b,.int .i64 c,.int .i64 m,.slice base n cap],.slice bl k cl] w fun e w'=>e= .returned (.int .i64 (Zq n l))/\Ext w w':=by
 have Ur:wrap64 ((n:Int) - 1)=(n:Int) - 1:=by unfold wrap64;omega
 go_enter func135,ntmps135;go_wp2;go_loopw [9] (fun v wr=>∃i:Nat,i<=k/\v= .int .i64 i/\wr.heap[w.heap.size]? =some (.cells #[.int .i64 a,.int .i64 b,.int .i64 c,.int .i64 m,.slice base n cap] 120)/\Ext w wr/\Hid (Zq n l=Z1k n (Z12 l i) (l.drop i))) (fun v _=>k - (intOf v).toNat)
 case atStart=>exact⟨0,Nat.zero_le _,rfl,by rw[Z3,if_pos rfl],(Ext.rfl' w).alloc _,rfl⟩
 case round=>
  obtain⟨i,hi,rfl,hr,hE,hH⟩:=hrel;have q0:=Z0 hr 0;have q1:=Z0 hr 1;have q2:=Z0 hr 2;have q3:=Z0 hr 3;have q4:=Z0 hr 4;simp only[YC,YA,YB] at q0 q1 q2 q3 q4;by_cases Aw:i=k
  ·subst Aw;have hz:Hid (Zq n l=0):=by show Zq n l=0;rw[hH.out,<-hk,List.drop_length];rfl
   go_wp2;go_ret;exact⟨ZK (a:=0) hz.out.symm,hE⟩
  ·have A4:i<k:=by omega
   obtain⟨x,hx⟩:∃x,l[i]? =some x:=⟨_,YH (by omega)⟩;have Ac:Hid (Zq n l=if¬(0<=x/\x<=(n:Int) - 1) then 6 else if(match Z12 l i with|some y=>decide (x<=y)|none=>false) then 7 else Z1k n (Z12 l (i+1)) (l.drop (i+1))):=by
    show Zq n l=_;rw[hH.out,Z0b hx];have e1:Z12 l (i+1)=some x:=hx;rw[e1];conv=>lhs;unfold Z1k
   have Fo:=hl.ext hE;obtain⟨b',off,rfl,hb,hc⟩:=Fo i x hx;have C0:=fun w=>Z09 x 0 ((n:Int) - 1) w
   cases H6:decide (0<=x/\x<=(n:Int) - 1)
   ·rw[H6] at C0;have Ax:Hid (Zq n l=6):=(by show Zq n l=6;rw[Ac.out,if_pos (of_decide_eq_false H6)]);clear Ac hH hx H6;go_wp2_with (first|(go_at_call 110;refine(C0 _).mono ?_;rintro e wr ⟨rfl,rfl⟩));go_ret;exact⟨ZK (a:=6) Ax.out.symm,hE⟩
   ·rw[H6] at C0;have Ax:Hid (Zq n l=if(match Z12 l i with|some y=>decide (x<=y)|none=>false) then 7 else Z1k n (Z12 l (i+1)) (l.drop (i+1))):=(by show Zq n l=_;rw[Ac.out,if_neg (by simpa using of_decide_eq_true H6)]);clear Ac hH H6;cases i with
    |zero=>
     have Iq:Hid (Zq n l=Z1k n (Z12 l (0+1)) (l.drop (0+1))):=(by show Zq n l=_;rw[Ax.out];simp[Z12]);clear hx Ax;replace hc:wr.cell? ⟨b',off,none⟩=some (.int .i64 x):=hc;go_wp2_with (first|(go_at_call 110;refine(C0 _).mono ?_;rintro e wr ⟨rfl,rfl⟩));go_roundw
     case rel=>exact⟨1,by omega,rfl,hr,hE,Iq⟩
     case measure=>simp[intOf];omega
    |succ j=>
     obtain⟨y,hy⟩:∃y,l[j]? =some y:=⟨_,YH (by omega)⟩;obtain⟨b2,off2,H9,Ao,Dq⟩:=Fo j y hy;simp only[Option.some.injEq,Addr.mk.injEq,and_true] at H9;obtain⟨rfl,rfl⟩:=H9;have Gx:Hid (Zq n l=if decide (x<=y) then 7 else Z1k n (Z12 l (j+1+1)) (l.drop (j+1+1))):=(by show Zq n l=_;rw[Ax.out];simp only[Z12,hy]);clear Ax hx hy;have hj0:(0:Int)<(j:Int)+1:=(by omega);by_cases C5:x<=y
     ·have Ir:Hid (Zq n l=7):=(by show Zq n l=7;rw[Gx.out,if_pos (decide_eq_true C5)]);clear Gx;go_wp2_with (first|(go_at_call 110;refine(C0 _).mono ?_;rintro e wr ⟨rfl,rfl⟩));go_ret;exact⟨ZK (a:=7) Ir.out.symm,hE⟩
     ·have Ir:Hid (Zq n l=Z1k n (Z12 l (j+1+1)) (l.drop (j+1+1))):=(by show Zq n l=_;rw[Gx.out,if_neg (by simpa using C5)]);clear Gx;go_wp2_with (first|(go_at_call 110;refine(C0 _).mono ?_;rintro e wr ⟨rfl,rfl⟩));go_roundw
      case rel=>exact⟨j+1+1,by omega,by push_cast;rfl,hr,hE,Ir⟩
      case measure=>simp[intOf];omega
end Go.Proofs.Tryq
section
namespace Go.Nk
open Go
theorem Z5B{P:Program}{w:World}:∀{l:List (String×DataW Unit)}{ps:List MemPlace},DataW.LaidVars P w l ps->∀{n:String}{d:DataW Unit},(n,d)∈l->
 ∃g t cs fuel p,P.globalNamed n=some g/\(P.globals[g]?).map (·.type)=some t/\w.var? P n=some cs/\DataW.trod (fun _=>()) P w 0 (fun _=>true) false fuel t cs.toList=some (d,p):=by
 intro l
 induction l with
 |nil=>intro ps _ n d h;cases h
 |cons a l ih=>
  obtain⟨n0,d0⟩:=a;rintro ps ⟨g,t,cs,fuel,p,q,h1,h2,h3,h4,h5,_⟩ n d h;rcases List.mem_cons.1 h with e|h
  ·cases e;exact⟨g,t,cs,fuel,p,h1,h2,h3,h4⟩
  ·exact ih h5 h
section
variable {H:Type} {enc:TypeId×Value->H} {P:Program} {w:World} {base:Nat} {spare:Nat->Bool} {held:Bool}
def Zd3{H:Type}(o:Nat)(u:TypeId)(k:IntKind)(v:Int)(y:Nat×TypeId×DataW H):Bool:=y.1==o&&y.2.1==u&&(match y.2.2 with| .lit (.int k' m)=>decide (k'=k)&&decide (m=v)|_=>false)
theorem Z3y{n:Nat}{t u:TypeId}{k:IntKind}{o:Nat}{v:Int}{d:DataW H}{cs:List Value}(Ad:cs.length<=P.cellsOf t)(h:∃m p,DataW.trod enc P w base spare held m t cs=some (d,p))(hm:(Z27 P n t 0 d).any (Zd3 o u k v)=true)(hu:P.underlying u=some (.int k)):cs[o]? =some (.int k v):=by
 obtain⟨y,hy,he⟩:=List.any_eq_true.1 hm;obtain⟨m,p,hx⟩:=Z3W cs n t 0 d (by rw[List.drop_zero,List.take_of_length_le Ad];exact h) y hy;obtain⟨a,b,c⟩:=y;simp only[Zd3,YG,beq_iff_eq] at he;obtain⟨⟨rfl,rfl⟩,he⟩:=he;obtain⟨z,h1,h2,_⟩:=DataW.trod_int hu hx;simp only[Prod.mk.injEq] at h2;have h3:=h2.1;subst h3;simp only[YG,decide_eq_true_eq] at he;rw[<-he.2];exact Z1Q h1
def isFn{H:Type}[BEq H](o:Nat)(u:TypeId)(b:H)(y:Nat×TypeId×DataW H):Bool:=y.1==o&&y.2.1==u&&(match y.2.2 with| .held x=>x==b|_=>false)
theorem Z1U{n:Nat}{t u:TypeId}{o:Nat}{b:UInt8}{r:List UInt8}{f0:FuncId}{pt rt:Array TypeId}{va:Bool}{d:DataW (List UInt8)}{cs:List Value}(Ad:cs.length<=P.cellsOf t)(h:∃m p,DataW.trod (funcToken P) P w base spare true m t cs=some (d,p))(hm:(Z27 P n t 0 d).any (isFn o u (b::r))=true)
 (hu:P.underlying u=some (.func pt rt va))(hc:P.cellsOf u=1)(E7:((List.range P.funcs.size).filter fun f=>(P.funcs[f]?).any (·.name.toUTF8.data.toList==b::r))=[f0]):cs[o]? =some (.func (.func f0) #[] #[]):=by
 obtain⟨y,hy,he⟩:=List.any_eq_true.1 hm;obtain⟨m,p,hx⟩:=Z3W cs n t 0 d (by rw[List.drop_zero,List.take_of_length_le Ad];exact h) y hy;obtain⟨a,b',c⟩:=y;simp only[isFn,YG,beq_iff_eq] at he;obtain⟨⟨rfl,rfl⟩,he⟩:=he;cases c<;>simp only[YR] at he
 rename_i x;have he:=eq_of_beq he;subst he;rw[hc] at hx;simp only at hx;have A3:((cs.drop a).take 1).length<=1:=by simp;omega
 match hz:(cs.drop a).take 1,A3,hx with
 |[],_,hx=>cases m<;>simp[DataW.trod,hu] at hx
 |[v],_,hx=>
  obtain rfl:=func_of_trod hu E7 hx;exact Z1Q hz
end
end Go.Nk
namespace Go.Proofs.Tryq
open Go Go.Nk
open Go.Proofs.YtedkbdkbbnemlaaGreatDoor (Rows.laid_math_bits_deBruijn32tab Rows.laid_math_bits_deBruijn64tab Rows.laid_nock_arrow_most Rows.laid_nock_arrow_measures)
def laidL:List (String×DataW Unit):=[("math/bits.deBruijn32tab",Rows.laid_math_bits_deBruijn32tab),("math/bits.deBruijn64tab",Rows.laid_math_bits_deBruijn64tab),("nock/arrow.most",Rows.laid_nock_arrow_most),("nock/arrow.measures",Rows.laid_nock_arrow_measures)]
theorem under5:Tryz.prog.underlying 5=some (.int .u8):=by kernel_rfl
theorem under3:Tryz.prog.underlying 3=some (.int .i64):=by kernel_rfl
theorem Z6x{P:Program}{W:World}{n:String}{cs:Array Value}{H:Type}{enc:TypeId×Value->H}{d:DataW H}{fuel t:Nat}{p:List MemPlace}{spare:Nat->Bool}{held:Bool}{base:Nat}(h:DataW.trod enc P W base spare held fuel t cs.toList=some (d,p))
 (ht:(∃fs,P.underlying t=some (.struct fs))\/∃n e,P.underlying t=some (.array n e)):cs.toList.length<=P.cellsOf t:=by
 rcases ht with⟨fs,ht⟩|⟨n,e,ht⟩
 ·obtain⟨_,_,_,_,hl,_⟩:=DataW.trod_struct ht h;exact Nat.le_of_eq hl
 ·obtain⟨_,_,_,_,hl,_⟩:=DataW.trod_array ht h;exact Nat.le_of_eq hl
def isS(P:Program)(t:TypeId):Bool:=match P.underlying t with|some (.struct _)=>true|_=>false
def isA(P:Program)(t:TypeId):Bool:=match P.underlying t with|some (.array _ _)=>true|_=>false
def isF(P:Program)(t:TypeId):Bool:=match P.underlying t with|some (.func _ _ _)=>true|_=>false
theorem Z9z{P:Program}{t:TypeId}(h:isF P t=true):∃a b c,P.underlying t=some (.func a b c):=by
 unfold isF at h;split at h
 ·exact⟨_,_,_,by assumption⟩
 ·cases h
theorem Z3z{P:Program}{t:TypeId}(h:isS P t=true):∃fs,P.underlying t=some (.struct fs):=by
 unfold isS at h;split at h
 ·exact⟨_,by assumption⟩
 ·cases h
theorem Z7v{P:Program}{t:TypeId}(h:isA P t=true):∃n e,P.underlying t=some (.array n e):=by
 unfold isA at h;split at h
 ·exact⟨_,_,by assumption⟩
 ·cases h
theorem Z2t{W:World}(h:laidMetH Tryz.prog laidL W){n:String}{d:DataW Unit}(hm:(n,d)∈laidL)(hp:d.handleName?.isNone=true):
 ∃g t cs fuel p,Tryz.prog.globalNamed n=some g/\(Tryz.prog.globals[g]?).map (·.type)=some t/\W.var? Tryz.prog n=some cs/\DataW.trod (fun _=>()) Tryz.prog W 0 (fun _=>true) false fuel t cs.toList=some (d,p):=by
 obtain⟨⟨ps,h1,_⟩,_⟩:=laidMetH_iff.1 h;exact Z5B h1 (List.mem_filter.2 ⟨hm,hp⟩)
theorem Z5C{W:World}(h:laidMetH Tryz.prog laidL W):Most W:=by
 obtain⟨g,t,cs,fuel,p,hg,ht,hv,hd⟩:=Z2t h (n:= "nock/arrow.most") (d:=Rows.laid_nock_arrow_most) (by simp[laidL]) (by kernel_rfl);obtain rfl:=YT ((show Tryz.prog.globalNamed "nock/arrow.most" =some 1 by kernel_rfl).symm.trans hg);obtain rfl:=YT ((show(Tryz.prog.globals[1]?).map (·.type)=some 48 by kernel_rfl).symm.trans ht);obtain⟨fs,hu⟩:=Z3z (P:=Tryz.prog) (t:=48) (by kernel_rfl);have hl:=Z6x (n:= "") hd (.inl ⟨fs,hu⟩);have e0:=Z3y (n:=2) (o:=0) (u:=3) (k:= .i64) (v:= -1099511627776) hl ⟨_,_,hd⟩ (by kernel_rfl) under3;have e1:=Z3y (n:=2) (o:=1) (u:=3) (k:= .i64) (v:=1099511627776) hl ⟨_,_,hd⟩ (by kernel_rfl) under3;exact⟨by rw[World.var?_cell hg hv 0];simpa using e0,by rw[World.var?_cell hg hv 1];simpa using e1⟩
theorem Z6y{W:World}(h:laidMetH Tryz.prog laidL W):Deb W:=by
 obtain⟨g,t,cs,fuel,p,hg,ht,hv,hd⟩:=Z2t h (n:= "math/bits.deBruijn64tab") (d:=Rows.laid_math_bits_deBruijn64tab) (by simp[laidL]) (by kernel_rfl);obtain rfl:=YT ((show Tryz.prog.globalNamed "math/bits.deBruijn64tab" =some 3 by kernel_rfl).symm.trans hg);obtain rfl:=YT ((show(Tryz.prog.globals[3]?).map (·.type)=some 235 by kernel_rfl).symm.trans ht);obtain⟨m,e,hu⟩:=Z7v (P:=Tryz.prog) (t:=235) (by kernel_rfl);have hl:=Z6x (n:= "") hd (.inr ⟨m,e,hu⟩);intro i hi;have hk:((List.range 8).all fun i=>(Z27 Tryz.prog 2 235 0 (Rows.laid_math_bits_deBruijn64tab (H:=Unit))).any (Zd3 (dbP i) 5 .u8 (i:Int)))=true:=by kernel_rfl
 have e0:=Z3y (n:=2) (o:=dbP i) (u:=5) (k:= .u8) (v:=i) hl ⟨_,_,hd⟩ (YL.1 hk i (YU.2 hi)) under5;rw[World.var?_cell hg hv];simpa using e0
theorem Z5D{W:World}(h:laidMetH Tryz.prog laidL W):Meas W:=by
 obtain⟨g,t,cs,fuel,p,hg,ht,hv,hd⟩:=h.funcs (n:= "nock/arrow.measures") (by unfold laidL Rows.laid_nock_arrow_measures;exact YW _ (YW _ (YW _ (YY ..))));obtain rfl:=YT ((show Tryz.prog.globalNamed "nock/arrow.measures" =some 0 by kernel_rfl).symm.trans hg);obtain rfl:=YT ((show(Tryz.prog.globals[0]?).map (·.type)=some 170 by kernel_rfl).symm.trans ht);obtain⟨m,e,hu⟩:=Z7v (P:=Tryz.prog) (t:=170) (by kernel_rfl);have hl:=Z6x (n:= "") hd (.inr ⟨m,e,hu⟩)
 have cell:∀(i:Nat)(v:Value),cs.toList[i]? =some v->W.cell? ⟨0,i,none⟩=some v:=fun i v e=>by
  rw[World.var?_cell hg hv];simpa using e
 obtain⟨_,_,_,Ns⟩:=Z9z (P:=Tryz.prog) (t:=166) (by kernel_rfl);obtain⟨_,_,_,Nt⟩:=Z9z (P:=Tryz.prog) (t:=167) (by kernel_rfl);intro i hi;apply cell;obtain rfl|rfl|rfl|rfl|rfl|rfl:i=0\/i=1\/i=2\/i=3\/i=4\/i=5:=by omega
 ·exact Z1U (n:=3) (u:=166) (b:=110) (r:=[111,99,107,47,97,114,114,111,119,46,109,101,97,115,117,114,101,115,36,49]) hl ⟨_,_,hd⟩ (by kernel_rfl) Ns (by kernel_rfl) (by kernel_rfl)
 ·exact Z1U (n:=3) (u:=167) (b:=110) (r:=[111,99,107,47,97,114,114,111,119,46,109,101,97,115,117,114,101,115,36,50]) hl ⟨_,_,hd⟩ (by kernel_rfl) Nt (by kernel_rfl) (by kernel_rfl)
 ·exact Z1U (n:=3) (u:=166) (b:=110) (r:=[111,99,107,47,97,114,114,111,119,46,109,101,97,115,117,114,101,115,36,51]) hl ⟨_,_,hd⟩ (by kernel_rfl) Ns (by kernel_rfl) (by kernel_rfl)
 ·exact Z1U (n:=3) (u:=167) (b:=110) (r:=[111,99,107,47,97,114,114,111,119,46,109,101,97,115,117,114,101,115,36,52]) hl ⟨_,_,hd⟩ (by kernel_rfl) Nt (by kernel_rfl) (by kernel_rfl)
 ·exact Z1U (n:=3) (u:=166) (b:=110) (r:=[111,99,107,47,97,114,114,111,119,46,109,101,97,115,117,114,101,115,36,53]) hl ⟨_,_,hd⟩ (by kernel_rfl) Ns (by kernel_rfl) (by kernel_rfl)
 ·exact Z1U (n:=3) (u:=167) (b:=110) (r:=[111,99,107,47,97,114,114,111,119,46,109,101,97,115,117,114,101,115,36,54]) hl ⟨_,_,hd⟩ (by kernel_rfl) Nt (by kernel_rfl) (by kernel_rfl)
end Go.Proofs.Tryq
end
namespace Go.Nk
open Go Go.Conc
variable [Ban]
def Z5E(Gs:Nat->Bool):Value->Bool
 | .bool _| .int _ _| .string _| .nilFunc| .nilIface| .pointer none| .slice none _ _| .map none| .chan none=>true
 | .pointer (some a)=>Gs a.block
 | .slice (some a) _ _=>Gs a.block
 | .func (.func f) a c=> !Ban.ban f&&a.size==0&&c.size==0
 |_=>false
section
variable {Gs:Nat->Bool}
theorem Z5F{v:Value}(h:Z5E Gs v=true):VRel id (fun b=>Gs b=true) v v:=by
 unfold Z5E at h;split at h
 ·exact .bool _
 ·exact .int _ _
 ·exact .string _
 ·exact .nilFunc
 ·exact .nilIface
 ·exact .nilPtr
 ·exact .nilSlice _ _
 ·exact .nilMap
 ·exact .nilChan
 ·exact .ptr (ρ:=id) h
 ·exact .slice (ρ:=id) _ _ h
 ·simp only[YG,Bool.not_eq_true',beq_iff_eq] at h;exact .func h.1.1 rfl (fun i hi=>by omega) rfl (fun i hi=>by omega)
 ·cases h
structure Masks(Gs:Nat->Bool)(u v:Value):Prop where
 rel:VRel id (fun b=>Gs b=true) u v
 self:VRel id (fun b=>Gs b=true) u u
 seen:Z5E Gs v=true->u=v
theorem Z8c{v:Value}(h:Z5E Gs v=true):Masks Gs v v:=⟨Z5F h,Z5F h,fun _=>rfl⟩
theorem Z8d(hh:Ban.holes=true){v:Value}(hw:wild v=true)(hs:Z5E Gs v=false):Masks Gs undef v:=⟨.hole hh hw,.undef,fun h=>by rw[hs] at h;cases h⟩
theorem Z8e(hh:Ban.holes=true){n:String}{a c:Array Value}:Masks Gs bomb (.func (.method n) a c):=⟨.meth hh,.meth hh,fun h=>by cases h⟩
theorem Z5G{cs:Array Value}(h:∀v∈cs,∃u,Masks Gs u v):∃us:Array Value,AR id (fun b=>Gs b=true) us cs/\AR id (fun b=>Gs b=true) us us:=by
 have key:∀l:List Value,(∀v∈l,∃u,Masks Gs u v)->∃us:List Value,us.length=l.length/\∀(i:Nat)(u v:Value),us[i]? =some u->l[i]? =some v->Masks Gs u v:=by
  intro l
  induction l with
  |nil=>exact fun _=>⟨[],rfl,fun i u v h=>by simp at h⟩
  |cons a l ih=>
   intro h;obtain⟨u,hu⟩:=h a YY;obtain⟨us,h1,h2⟩:=ih fun v hv=>h v (YW _ hv)
   refine⟨u::us,by simp[h1],fun i x y hx hy=> ?_⟩;cases i with
   |zero=>simp only[YA,Option.some.injEq] at hx hy;subst hx hy;exact hu
   |succ i=>simp only[YB] at hx hy;exact h2 i x y hx hy
 obtain⟨us,h1,h2⟩:=key cs.toList fun v hv=>h v (Array.mem_toList_iff.1 hv)
 refine⟨us.toArray,AR.mk (by simpa using h1) fun i x y hx hy=>(h2 i x y (by simpa using hx) (by simpa using hy)).rel,AR.mk rfl fun i x y hx hy=> ?_⟩;rw[hx] at hy;cases hy;have hi:i<us.length:=by simpa using(YF.1 hx).1
 exact(h2 i x _ (by simpa using hx) (YH (by omega))).self
theorem Zd4(hh:Ban.holes=true):∀(n:Nat)(v:Value),SizeOf.sizeOf v<=n->∃u,Masks Gs u v:=by
 intro n
 induction n with
 |zero=>intro v h;cases v<;>simp at h
 |succ n ih=>
  intro v h;cases hs:Z5E Gs v with
  |true=>exact⟨v,Z8c hs⟩
  |false=>
   have hole:wild v=true->∃u,Masks Gs u v:=fun hw=>⟨_,Z8d hh hw hs⟩
   cases v with
   |bool _|int _ _|string _|nilFunc|nilIface=>cases hs
   |pointer a=>cases a with|none=>cases hs|some a=>exact hole rfl
   |slice a _ _=>cases a with|none=>cases hs|some a=>exact hole rfl
   |map a=>cases a with|none=>cases hs|some a=>exact hole rfl
   |chan a=>cases a with|none=>cases hs|some a=>exact hole rfl
   |func f a c=>cases f with
    |method m=>exact⟨_,Z8e hh⟩
    |_=>exact hole rfl
   |float _ _|complex _ _ _|iface _ _=>exact hole rfl
   |agg cs=>
    obtain⟨us,h1,h2⟩:=Z5G (Gs:=Gs) (cs:=cs) fun v hv=>ih v (by have:=Array.sizeOf_lt_of_mem hv;simp only[Value.agg.sizeOf_spec] at h;omega)
    exact⟨.agg us,.agg h1.1 h1.2,.agg h2.1 h2.2,fun h=>by cases h⟩
   |tuple cs=>
    obtain⟨us,h1,h2⟩:=Z5G (Gs:=Gs) (cs:=cs) fun v hv=>ih v (by have:=Array.sizeOf_lt_of_mem hv;simp only[Value.tuple.sizeOf_spec] at h;omega)
    exact⟨.tuple us,.tuple h1.1 h1.2,.tuple h2.1 h2.2,fun h=>by cases h⟩
open Classical in
noncomputable def Z4N(Gs:Nat->Bool)(v:Value):Value:=if h:∃u,Masks Gs u v then Classical.choose h else undef
theorem Z4O(hh:Ban.holes=true)(v:Value):Masks Gs (Z4N Gs v) v:=by
 have h:∃u,Masks Gs u v:=Zd4 hh _ v (Nat.le_refl _);unfold Z4N;rw[dif_pos h];exact Classical.choose_spec h
theorem Z8f(hh:Ban.holes=true){v:Value}(h:Z5E Gs v=true):Z4N Gs v=v:=(Z4O hh v).seen h
def Z1s(w:World)(b:Nat):Bool:=match w.heap[b]? with|some (.cells ..)=>true|_=>false
noncomputable def Zd5(Gs:Nat->Bool):Obj->Obj
 | .cells c e _=> .cells (c.map (Z4N Gs)) e (0,c.size)
 |_=> .coro none
noncomputable def Zx(w:World):World:={w with heap:=w.heap.map (Zd5 (Z1s w))}
theorem Z9A{w:World}{b:Nat}:Z1s w b=true↔∃c e f,w.heap[b]? =some (.cells c e f):=by
 unfold Z1s;constructor
 ·intro h;split at h
  ·exact⟨_,_,_,by assumption⟩
  ·cases h
 ·rintro⟨c,e,f,h⟩;rw[h]
theorem Z5H{w:World}{b:Nat}{c:Array Value}{e:TypeId}{f:Nat×Nat}(h:w.heap[b]? =some (.cells c e f)):(Zx w).heap[b]? =some (.cells (c.map (Z4N (Z1s w))) e (0,c.size)):=by
 simp only[Zx,Array.getElem?_map,h,Option.map_some,Zd5]
theorem Z3a{w:World}{b:Nat}{o:Obj}(h:(Zx w).heap[b]? =some o)(hl:liveO o=true):∃c e f,w.heap[b]? =some (.cells c e f)/\o= .cells (c.map (Z4N (Z1s w))) e (0,c.size):=by
 simp only[Zx,Array.getElem?_map,Option.map_eq_some_iff] at h;obtain⟨o',h1,h2⟩:=h;cases o'<;>first|exact⟨_,_,_,h1,h2.symm⟩|(simp only[Zd5] at h2;subst h2;cases hl)
theorem Z8g{w:World}{b:Nat}:Z1s w b=true↔Live (Zx w) b:=by
 rw[Z9A];constructor
 ·rintro⟨c,e,f,h⟩;exact⟨_,Z5H h,rfl⟩
 ·rintro⟨o,h1,h2⟩;obtain⟨c,e,f,h,_⟩:=Z3a h1 h2;exact⟨c,e,f,h⟩
theorem Z1l(w:World):(Zx w).heap.size=w.heap.size:=by simp[Zx]
theorem Z9B(hh:Ban.holes=true)(w:World)(c:Array Value):AR id (Live (Zx w)) (c.map (Z4N (Z1s w))) c/\AR id (Live (Zx w)) (c.map (Z4N (Z1s w))) (c.map (Z4N (Z1s w))):=by
 have hL:∀b,Z1s w b=true->Live (Zx w) b:=fun b=>Z8g.1
 constructor
 ·refine AR.mk (by simp) fun i x y hx hy=> ?_
  simp only[Array.getElem?_map,hy,Option.map_some,Option.some.injEq] at hx;subst hx;exact(Z4O hh y).rel.up hL
 ·refine AR.mk rfl fun i x y hx hy=> ?_
  rw[hx] at hy;cases hy;simp only[Array.getElem?_map,Option.map_eq_some_iff] at hx;obtain⟨v,_,rfl⟩:=hx;exact(Z4O hh v).self.up hL
theorem Z8h(hh:Ban.holes=true){w:World}{G:Nat}(hG:G<=w.heap.size):Start (Z1s w) G (Zx w) w:=by
 refine⟨⟨fun b o hb hl=> ?_,fun _ _ _ _ e=>e,fun b hb=>(Z8g.1 hb).lt,fun _ _=>Iff.rfl,by rw[Z1l];exact hG,hG⟩,{obj:=fun b o hb hl=> ?_,inj:=fun _ _ _ _ e=>e,fz:=fun _ h=>h.elim,low:=fun _ _=>Iff.rfl,gV:=by rw[Z1l];exact hG,gw:=by rw[Z1l];exact hG,tape:=fun _=>rfl,next:=fun _=>rfl},fun b l h=> ?_,fun g=>Z8g⟩
 ·obtain⟨c,e,f,h1,rfl⟩:=Z3a hb hl;exact⟨_,h1,fun h=>absurd (Z9A.2 ⟨c,e,f,h1⟩) h,fun _=>⟨.cells (Z9B hh w c).1 (fun h=>by cases h),_,_,_,rfl,by simp⟩⟩
 ·obtain⟨c,e,f,h1,rfl⟩:=Z3a hb hl;exact⟨_,hb,fun _=> .cells (Z9B hh w c).2 (fun _=>rfl),fun h=>h.elim⟩
 ·obtain⟨c,e,f,_,h2⟩:=Z3a h rfl;cases h2
theorem Z0d(hh:Ban.holes=true){w:World}{a:Addr}{v:Value}(h:w.cell? a=some v)(hs:Z5E (Z1s w) v=true):(Zx w).cell? a=some v:=by
 obtain⟨c,e,f,h1,h2,h3⟩:=Z3h h;unfold World.cell?;rw[Z5H h1];simp only[h2,Option.isSome_none,YR,if_false,Array.getElem?_map,h3,Option.map_some,Z8f hh hs]
end
end Go.Nk
