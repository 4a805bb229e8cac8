import Derived.Test.YthahddndgbpooaaGreatDoorNkA
import Derived.Test.YthahddndgbpooaaGreatDoorNk10
import Derived.LaidMore
import Derived.LaidSub
import Derived.Laws.EntriesVeiled
import Derived.Lib.ConvBytes
import Derived.Lib.Hide
import Derived.Maps.Own
import Derived.Test.YthahddndgbpooaaGreatDoorRows
set_option linter.all false
set_option maxRecDepth 100000
set_option maxHeartbeats 4000000
open Go
variable {held va:Bool}{f0:FuncId}{a v:Int}{l:List Int}{r:List UInt8}{cs:List Value}{b c fuel i n o off:Nat}{spare:Nat->Bool}{P:Program}{e t u:TypeId}{W w w':World}
namespace Go.Proofs.Tryq
section
open Go Go.Nk Go.RowKit
def bl(x:Nat):List Nat:=(List.range 8).filter λi=>x.testBit i
def e1(x:Int):Int:=IntKind.u64.wrap (bits .and .u64 (x / 2) 6148914691236517205+bits .and .u64 x 6148914691236517205)
def e2(x:Int):Int:=IntKind.u64.wrap (bits .and .u64 (x / 4) 3689348814741910323+bits .and .u64 x 3689348814741910323)
def e3(x:Int):Int:=bits .and .u64 (IntKind.u64.wrap (x / 16+x)) 1085102592571150095
def e4(d x:Int):Int:=IntKind.u64.wrap (x+x / d)
def e7(x:Int):Int:=bits .and .i64 (wrap64 x) 127
def Zd0(x:Int):Int:=e7 (e4 4294967296 (e4 65536 (e4 256 (e3 (e2 (e1 x))))))
theorem onesE_all:(List.range 256).all (λk=>Zd0 (k:Int)==((bl k).length:Int))=true:=by kernel_rfl
theorem Zbj{k:Nat}(hk:k<256):Zd0 (k:Int)=((bl k).length:Int):=by
 have:=YL.1 onesE_all k (YU.2 hk);simpa using this
theorem Z88(k:Nat)(hk:k<256)(w:World):Calls prog 144 #[.int .u64 k] w λe w'=>e= .returned (.int .i64 (bl k).length)/\w'=w:=by
 have Bo:(0:Int)<=(k:Int):=by omega
 have hE:=Zbj hk;generalize (bl k).length=m at hE⊢;generalize (k:Int)=x at Bo hE⊢;have H:Hid (Zd0 x=m):=hE;clear hE;go_enter fk Tryz.func144,Tryz.ntmps144;go_wp2;go_ret;exact⟨Z10 H,rfl⟩
def dbP:Nat->Nat
 |0=>0
 |1=>1
 |2=>3
 |3=>7
 |4=>15
 |5=>31
 |6=>63
 |_=>62
def Deb(w:World):Prop:=∀i,i<8->w.cell? ⟨6,dbP i,none⟩=some (.int .u8 i)
theorem Deb.ext(h:Deb w)(e:Ext w w'):Deb w':=λi hi=>e.cellS (h i hi)
def tz(k:Nat):Nat:=(bl k).headD 0
theorem tz_all:(List.range 256).all (λk=>k==0||(decide (tz k<8)&&IntKind.u64.wrap (bits .and .u64 (k:Int) (IntKind.u64.wrap (-(k:Int)))*285870213051353865) / 288230376151711744==(dbP (tz k):Int)))=true:=by kernel_rfl
theorem tz_ok{k:Nat}(hk:k<256)(h0:0<k):tz k<8/\IntKind.u64.wrap (bits .and .u64 (k:Int) (IntKind.u64.wrap (-(k:Int)))*285870213051353865) / 288230376151711744=(dbP (tz k):Int):=by
 have:=YL.1 tz_all k (YU.2 hk);simp only[UB,YG,XW,XG] at this;rcases this with h|h
 ·omega
 ·exact h
theorem dbP_lt:∀i,i<8->dbP i<64:=by decide
theorem ZdY(x q t:Int)(w:World)(hx:0<=x)(h5:(x==0)=false)(h3:w.cell? ⟨6,q.toNat,none⟩=some (.int .u8 t))(V3:0<=t)(Hu:t<8)
 (h2:IntKind.u64.wrap (bits .and .u64 x (IntKind.u64.wrap (-x))*285870213051353865) / 288230376151711744=q)(R9:0<=q)(Pt:q<64):Calls prog 181 #[.int .u64 x] w λe w'=>e= .returned (.int .i64 t)/\w'=w:=by
 go_enter fk Tryz.func181,Tryz.ntmps181;go_wp2;go_ret;exact⟨rfl,rfl⟩
theorem Zbk(k:Nat)(hk:k<256)(h0:0<k)(w:World)(hg:Deb w):Calls prog 181 #[.int .u64 k] w λe w'=>e= .returned (.int .i64 (tz k))/\w'=w:=by
 obtain⟨h1,h2⟩:=tz_ok hk h0;have h3:=hg _ h1;have h4:=dbP_lt _ h1;generalize dbP (tz k)=q at h2 h3 h4;generalize tz k=t at h1 h3⊢;exact ZdY k q t w (by omega) (by simp;omega) h3 (by omega) (by omega) h2 (by omega) (by omega)
theorem Z7k(k:Nat)(hk:k<256)(w:World):Calls prog 115 #[.int .u64 k] w λe w'=>e= .returned (.int .i64 (bl k).length)/\w'=w:=by
 go_enter fk Tryz.func115,Tryz.ntmps115;go_wp2_with (first|(go_at_call 144;refine(Z88 k hk _).mono ?_;rintro e w2 ⟨rfl,rfl⟩));go_ret;exact⟨rfl,rfl⟩
theorem ZdZ(k:Nat)(hk:k<256)(h0:0<k)(w:World)(hg:Deb w):Calls prog 145 #[.int .u64 k] w λe w'=>e= .returned (.int .i64 (tz k))/\w'=w:=by
 go_enter fk Tryz.func145,Tryz.ntmps145;go_wp2_with (first|(go_at_call 181;refine(Zbk k hk h0 _ hg).mono ?_;rintro e w2 ⟨rfl,rfl⟩));go_ret;exact⟨rfl,rfl⟩
def Z1g(x y:Int):Bool:=(bits .xor .i64 x y !=0)&&(bits .and .i64 x (bits .and .i64 (bits .xor .i64 x y) (wrap64 (-bits .xor .i64 x y))) !=0)
theorem Z89(x y:Int)(hx:0<=x/\x<256)(hy:0<=y/\y<256)(w:World):Calls prog 116 #[x,y] w λe w'=>e= .returned (.bool (Z1g x y))/\w'=w:=by
 go_enter fk Tryz.func116,Tryz.ntmps116;go_wp2;all_goals go_ret
 all_goals
  refine⟨?_,rfl⟩;rename_i h;rw[show∀x y:Value,Ending.returned x=Ending.returned y↔x=y from λx y=>by simp];simp[Z1g,h]
end
section
open Go Go.Nk Go.RowKit
variable [Tw]
def Meas(w:World):Prop:=∀i,i<6->w.cell? ⟨2,i,none⟩=some (.func (.func (279+i)) #[] #[])
theorem Meas.ext(h:Meas w)(e:Ext w w'):Meas w':=λi hi=>e.cellS (h i hi)
theorem Z7l(w:World):(Instr.index 197 (.agg #[.func (.func 279) #[] #[],.func (.func 280) #[] #[],.func (.func 281) #[] #[],.func (.func 282) #[] #[],.func (.func 283) #[] #[],.func (.func 284) #[] #[]]) (.int .i64 0)).run gp w= .ok (.agg #[.func (.func 279) #[] #[],.func (.func 280) #[] #[]]) w:=by
 unfold Instr.index Go.part;simp[go_sem,run_asAgg,asIntOf]
theorem Z7m(w:World):(Instr.index 197 (.agg #[.func (.func 279) #[] #[],.func (.func 280) #[] #[],.func (.func 281) #[] #[],.func (.func 282) #[] #[],.func (.func 283) #[] #[],.func (.func 284) #[] #[]]) (.int .i64 1)).run gp w= .ok (.agg #[.func (.func 281) #[] #[],.func (.func 282) #[] #[]]) w:=by
 unfold Instr.index Go.part;simp[go_sem,run_asAgg,asIntOf]
theorem Z7n(w:World):(Instr.index 197 (.agg #[.func (.func 279) #[] #[],.func (.func 280) #[] #[],.func (.func 281) #[] #[],.func (.func 282) #[] #[],.func (.func 283) #[] #[],.func (.func 284) #[] #[]]) (.int .i64 2)).run gp w= .ok (.agg #[.func (.func 283) #[] #[],.func (.func 284) #[] #[]]) w:=by
 unfold Instr.index Go.part;simp[go_sem,run_asAgg,asIntOf]
theorem Z7o(b off:Nat)(w:World):Calls gp 279 #[.pointer (some ⟨b,off,none⟩)] w λe w'=>e= .returned (.pointer (some ⟨b,off+1,none⟩))/\w'=w:=by
 go_enter fk Tryz.func279,Tryz.ntmps279;go_wp2;go_ret;exact⟨rfl,rfl⟩
theorem Z7p(b off:Nat)(w:World):Calls gp 281 #[.pointer (some ⟨b,off,none⟩)] w λe w'=>e= .returned (.pointer (some ⟨b,off+3,none⟩))/\w'=w:=by
 go_enter fk Tryz.func281,Tryz.ntmps281;go_wp2;go_ret;exact⟨rfl,rfl⟩
theorem Z7q(b off:Nat)(w:World):Calls gp 283 #[.pointer (some ⟨b,off,none⟩)] w λe w'=>e= .returned (.pointer (some ⟨b,off+5,none⟩))/\w'=w:=by
 go_enter fk Tryz.func283,Tryz.ntmps283;go_wp2;go_ret;exact⟨rfl,rfl⟩
theorem Z7r(a b c m:Int)(w:World):Calls gp 280 #[.agg #[a,b,c,m]] w λe w'=>e= .returned (.int .i64 a)/\Ext w w':=by
 go_enter fk Tryz.func280,Tryz.ntmps280;go_wp2;go_ret;exact⟨rfl,(Ext.rfl' w).alloc _⟩
theorem Z7s(a b c m:Int)(w:World):Calls gp 282 #[.agg #[a,b,c,m]] w λe w'=>e= .returned (.int .i64 b)/\Ext w w':=by
 go_enter fk Tryz.func282,Tryz.ntmps282;go_wp2;go_ret;exact⟨rfl,(Ext.rfl' w).alloc _⟩
theorem Z7t(a b c m:Int)(w:World):Calls gp 284 #[.agg #[a,b,c,m]] w λe w'=>e= .returned (.int .i64 c)/\Ext w w':=by
 go_enter fk Tryz.func284,Tryz.ntmps284;go_wp2;go_ret;exact⟨rfl,(Ext.rfl' w).alloc _⟩
def okA(n hi:Int):Bool:=decide (0<=n/\n<=hi)
def Z2J(a b c m:Int):Int:=if okA a 9999&&okA b 9999&&okA c 9999&&decide (2<=m/\m<=4) then 0 else 1
def alw(a b c:Int):Nat->Int
 |0=>a
 |1=>b
 |_=>c
theorem ZK{b:Int}(h:a=b):Ending.returned (.int .i64 a)=Ending.returned (.int .i64 b):=by rw[h]
theorem Z9w(a b c m:Int)(base:Option Addr)(n cap:Nat)(w:World)(hM:Meas w):Calls gp 78 #[.agg #[a,b,c,m,.slice base n cap]] w λe w'=>e= .returned (.int .i64 (Z2J a b c m))/\Ext w w':=by
 have g0:=hM 0 (by omega);have g1:=hM 1 (by omega);have g2:=hM 2 (by omega);have g3:=hM 3 (by omega);have g4:=hM 4 (by omega);have g5:=hM 5 (by omega);simp only[Nat.reduceAdd] at g0 g1 g2 g3 g4 g5;have hl:2<w.heap.size:=by
  unfold World.cell? at g0;split at g0
  ·rename_i hh;exact Z5 hh
  ·cases g0
 go_enter fk Tryz.func78,Tryz.ntmps78;go_wp2;go_loopw [6] (λv wr=>∃i:Nat,i<=3/\v= .int .i64 i/\wr.heap[w.heap.size]? =some (.cells #[a,b,c,m,.slice base n cap] 117)/\Ext w wr/\∀j,j<i->okA (alw a b c j) 9999=true) (λv _=>3 - (intOf v).toNat)
 case atStart=>exact⟨0,XS _,rfl,by rw[Z3,YZ rfl],(Ext.rfl' w).alloc _,λj hj=>by omega⟩
 case round=>
  obtain⟨i,hi,rfl,hr,hE,hz⟩:=hrel;clear g0 g1 g2 g3 g4 g5 hM;have q0:=Z0 hr 0;have q1:=Z0 hr 1;have q2:=Z0 hr 2;have q3:=Z0 hr 3;have q4:=Z0 hr 4;simp only[YC,YA,YB] at q0 q1 q2 q3 q4;by_cases Ao:i=3
  ·subst Ao;have h0:=hz 0 (by omega);have h1:=hz 1 (by omega);have h2:=hz 2 (by omega);clear hz;simp only[alw] at h0 h1 h2;have H:Hid (Z2J a b c m=if decide (2<=m/\m<=4) then 0 else 1):=by show Z2J a b c m=_;simp only[Z2J,h0,h1,h2,TL]
   clear h0 h1 h2;go_wp2_with (first|(go_at_call 65;refine(Z09 _ _ _ _).mono ?_;rintro e w2 ⟨rfl,rfl⟩)|(go_at_call 64;refine(Z1a _ _ _).mono ?_;rintro e w2 ⟨rfl,rfl⟩))
   all_goals
    go_ret;refine⟨?_,hE⟩;rw[H];simp
    try omega
  ·have A3:i<3:=by omega
   have Hk:w.heap.size<wr.heap.size:=Z5 hr;obtain rfl|rfl|rfl:i=0\/i=1\/i=2:=by omega
   all_goals
    have Cj:=Z7l;have H2:=Z7m;have Fw:=Z7n
    go_wp2_with (first
     |(go_at_call 280;refine(Z7r _ _ _ _ _).mono ?_;rintro e w2 ⟨rfl,A4⟩)
     |(go_at_call 282;refine(Z7s _ _ _ _ _).mono ?_;rintro e w2 ⟨rfl,A4⟩)
     |(go_at_call 284;refine(Z7t _ _ _ _ _).mono ?_;rintro e w2 ⟨rfl,A4⟩)
     |(go_at_call 65;refine(Z09 _ _ _ _).mono ?_;rintro e w2 ⟨rfl,rfl⟩))
    all_goals have Ah:=(hE.alloc _).trans A4
    all_goals have C9:=A4.get (((Ext.rfl' wr).alloc _).get hr)
    ·rename_i hb;go_ret;refine⟨ZK (a:=1) ?_,Ah⟩;simp at hb;rw[Z2J,XA];simp[okA];omega
    ·rename_i hb;simp at hb;have step:∀k:Nat,(∀j,j<k->okA (alw a b c j) 9999=true)->okA (alw a b c k) 9999=true->∀j,j<k+1->okA (alw a b c j) 9999=true:=by
      intro k h1 h2 j hj;rcases TD.1 hj with h|rfl
      ·exact h1 j h
      ·exact h2
     first
      |exact⟨⟨1,by omega,rfl,C9,Ah,step 0 hz (by simp only[okA,alw];simp;omega)⟩,by simp[intOf]⟩
      |exact⟨⟨2,by omega,rfl,C9,Ah,step 1 hz (by simp only[okA,alw];simp;omega)⟩,by simp[intOf]⟩
      |exact⟨⟨3,by omega,rfl,C9,Ah,step 2 hz (by simp only[okA,alw];simp;omega)⟩,by simp[intOf]⟩
def Z8N(c:Int):Bool:=decide (97<=c/\c<=122)
def Ze0(c:Int):Bool:=decide (48<=c/\c<=57)
def ZM(c:UInt8):Bool:= !Z8N (c.toNat:Int)&& !Ze0 (c.toNat:Int)
theorem Z7u(c:UInt8)(w:World):Calls gp 147 #[.int .u8 c.toNat] w λe w'=>e= .returned (.bool (ZM c))/\w'=w:=by
 have h0:(0:Int)<=(c.toNat:Int):=by omega
 have h1:(c.toNat:Int)<256:=by have:=c.toNat_lt;omega
 unfold ZM Z8N Ze0;generalize (c.toNat:Int)=x at h0 h1⊢;by_cases hl:97<=x/\x<=122
 ·have hd:decide (97<=x/\x<=122)=true:=XX hl;rw[hd];go_enter fk Tryz.func147,Tryz.ntmps147;go_wp2_with (first|(go_at_call 65;refine(Z09 _ _ _ _).mono ?_;rintro e w2 ⟨rfl,rfl⟩));go_ret;exact⟨rfl,rfl⟩
 ·have hd:decide (97<=x/\x<=122)=false:=XV hl;rw[hd];go_enter fk Tryz.func147,Tryz.ntmps147;go_wp2_with (first|(go_at_call 65;refine(Z09 _ _ _ _).mono ?_;rintro e w2 ⟨rfl,rfl⟩));go_ret;exact⟨by simp,rfl⟩
def ZdH(l:List UInt8):Int:=match l.findIdx? ZM with
 |some i=>(i:Int)
 |none=> -1
theorem Zd1(b n cap:Nat)(l:List UInt8)(w:World)(A1:l.length=n)(hn:n<=12)(hc:∀i x,l[i]? =some x->w.cell? ⟨b,i,none⟩=some (.int .u8 x.toNat)):
 Calls gp 182 #[.slice (some ⟨b,0,none⟩) n cap,.func (.func 147) #[] #[]] w λe w'=>e= .returned (.int .i64 (ZdH l))/\w'=w:=by
 go_enter fk Tryz.func182,Tryz.ntmps182;go_wp2
 go_loop [8] (λv=>∃i:Nat,i<=n/\v= .int .i64 i/\∀j x,j<i->l[j]? =some x->ZM x=false) (λv=>n - (intOf v).toNat)
 case atStart=>exact⟨0,XS _,rfl,λj x hj=>by omega⟩
 case round=>
  obtain⟨i,hi,rfl,hz⟩:=hrel;by_cases Ao:i=n
  ·subst Ao;go_wp2;go_ret;refine⟨ZK ?_,rfl⟩;have:l.findIdx? ZM=none:=by
    rw[List.findIdx?_eq_none_iff];intro x hx;obtain⟨j,hj,he⟩:=List.mem_iff_getElem.1 hx;exact hz j x (by omega) (by rw[<-he];exact YH hj)
   rw[ZdH,this]
  ·obtain⟨x,hx⟩:∃x,l[i]? =some x:=⟨_,YH (by omega)⟩;have V7:=hc i x hx;have A3:(i:Int)<(n:Int):=by omega
   have H:Hid (l[i]? =some x):=hx;clear hx hc;cases hb:ZM x
   ·have Ix:=λw=>Z7u x w
    rw[hb] at Ix;go_wp2_with (first|(go_at_call 147;refine(Ix _).mono ?_;rintro e w2 ⟨rfl,rfl⟩))
    go_round
    case rel=>
     refine⟨i+1,by omega,by push_cast;rfl,λj y hj hy=> ?_⟩;rcases TD.1 hj with h|rfl
     ·exact hz j y h hy
     ·have:=H.out.symm.trans hy;simp at this;rw[<-this];exact hb
    case measure=>simp[intOf];omega
   ·have Ix:=λw=>Z7u x w
    rw[hb] at Ix;go_wp2_with (first|(go_at_call 147;refine(Ix _).mono ?_;rintro e w2 ⟨rfl,rfl⟩));go_ret;refine⟨ZK ?_,rfl⟩;have:l.findIdx? ZM=some i:=by
     rw[List.findIdx?_eq_some_iff_getElem];obtain⟨E6,he⟩:=YI.1 H.out;refine⟨E6,by rw[he];exact hb,λj hj=> ?_⟩;rw[hz j l[j] hj (YH _)];simp
    rw[ZdH,this]
theorem Zbl(b n cap:Nat)(l:List UInt8)(w:World)(A1:l.length=n)(hn:n<=12)(hc:∀i x,l[i]? =some x->w.cell? ⟨b,i,none⟩=some (.int .u8 x.toNat)):
 Calls gp 146 #[.slice (some ⟨b,0,none⟩) n cap,.func (.func 147) #[] #[]] w λe w'=>e= .returned (.bool (l.any ZM))/\w'=w:=by
 have h1:=Zd1 b n cap l w A1 hn hc;have h2:l.any ZM=decide (0<=ZdH l):=by
  unfold ZdH;cases h:l.findIdx? ZM with
  |none=>
   rw[List.findIdx?_eq_none_iff] at h;simp;exact h
  |some i=>
   rw[List.findIdx?_eq_some_iff_getElem] at h;obtain⟨h1,h2,_⟩:=h;simp;exact⟨_,List.getElem_mem h1,h2⟩
 rw[h2];generalize ZdH l=y at h1⊢;go_enter fk Tryz.func146,Tryz.ntmps146;go_wp2_with (first|(go_at_call 182;refine h1.mono ?_;rintro e w2 ⟨rfl,rfl⟩));go_ret;exact⟨rfl,rfl⟩
def Z2d(s:ByteArray):Bool:=decide (1<=s.size/\s.size<=12)&&(match s.data.toList with|[]=>false|c::_=>Z8N (c.toNat:Int))&& !s.data.toList.any ZM
theorem Z5A(s:ByteArray)(h:0<s.size):(match s.data.toList with|[]=>false|c::_=>Z8N (c.toNat:Int))=Z8N ((s[0]).toNat:Int):=by
 have e:s.data.toList[0]? =some s[0]:=by
  rw[Array.getElem?_toList];exact YN h
 cases hl:s.data.toList with
 |nil=>rw[hl] at e;cases e
 |cons c t=>rw[hl] at e;simp at e;rw[e]
theorem u9:gp.underlying 9=some .string:=(underlying_eq 9).trans Tryz.underlying9
theorem u195:gp.underlying 202=some (.slice 5):=(underlying_eq 202).trans Tryz.underlying202
theorem u5:gp.underlying 5=some (.int .u8):=(underlying_eq 5).trans Tryz.underlying5
theorem Z9x(w:World)(e:TypeId)(s:ByteArray):Ext w (Lib.bytesWorld w e s):=
 ⟨by rw[Lib.bytesWorld_size];omega,λb hb=>Lib.bytesWorld_at_old w e s b hb,by simp[Lib.bytesWorld,World.freeze,World.alloc,World.drew,-World.alloc_eq,-World.drew_eq],by simp[Lib.bytesWorld,World.freeze,World.alloc,World.drew,-World.alloc_eq,-World.drew_eq],by simp[Lib.bytesWorld,World.freeze,World.alloc,World.drew,-World.alloc_eq,-World.drew_eq]⟩
theorem Z8a(s:ByteArray)(w:World)(hs:s.size<=maxLen):Calls gp 118 #[.string s] w λe w'=>e= .returned (.bool (Z2d s))/\Ext w w':=by
 unfold maxLen at hs;by_cases B1:1<=s.size/\s.size<=12
 ·have D1:0<s.size:=by omega
  have hN:Z2d s=(Z8N (s[0].toNat:Int)&& !s.data.toList.any ZM):=by
   rw[Z2d,Z5A s D1,XX B1,TL]
  rw[hN];clear hN;have I2:(0:Int)<=(s[0].toNat:Int):=by omega
  have B9:(s[0].toNat:Int)<256:=by have:=s[0].toNat_lt;omega
  have Dh:(1:Int)<=(s.size:Int):=by omega
  have Cn:(s.size:Int)<=12:=by omega
  have hcv:=λw=>Lib.run_convert_string_bytes (P:=gp) w 9 202 5 s u9 u195 u5
  have Pu:=fun(w:World) cap=>Zbl w.heap.size s.size cap s.data.toList (Lib.bytesWorld w 5 s) (by rw[SZ];rfl) B1.2 (by
   intro i x hx;have hi:=(YI.1 hx).1;rw[SZ] at hi;rw[Lib.bytesWorld_cell w 5 s i hi,List.getD_eq_getElem?_getD,hx];rfl)
  clear B1;generalize s.data.toList.any ZM=q at Pu⊢;have Dx:=λw=>Z09 (s.size:Int) 1 12 w
  rw[XX (show(1:Int)<=s.size/\(s.size:Int)<=12 from⟨Dh,Cn⟩)] at Dx;have Bw:=λw=>Z09 (s[0].toNat:Int) 97 122 w
  unfold Z8N;cases hl:decide ((97:Int)<=(s[0].toNat:Int)/\(s[0].toNat:Int)<=122)
  all_goals
   rw[hl] at Bw;clear hl Dh Cn;go_enter fk Tryz.func118,Tryz.ntmps118
   go_wp2_with (first
    |(go_at_call 65;(with_reducible refine(Dx _).mono ?_);rintro e w ⟨rfl,rfl⟩)
    |(go_at_call 65;(with_reducible refine(Bw _).mono ?_);rintro e w ⟨rfl,rfl⟩)
    |(go_at_call 146;refine(Pu _ _).mono ?_;rintro e w2 ⟨rfl,rfl⟩))
   go_ret
   first
    |exact⟨rfl,Ext.rfl' _⟩
    |exact⟨by simp,Z9x _ _ _⟩
 ·have hN:Z2d s=false:=by rw[Z2d,XV B1];rfl
  rw[hN];have hd:decide (1<=(s.size:Int)/\(s.size:Int)<=12)=false:=XV (by omega);have Cc:=λw=>Z09 (s.size:Int) 1 12 w
  rw[hd] at Cc;clear hN hd;go_enter fk Tryz.func118,Tryz.ntmps118
  go_wp2_with (first
   |(go_at_call 65;refine(Cc _).mono ?_;rintro e w ⟨rfl,rfl⟩))
  go_ret;exact⟨rfl,Ext.rfl' _⟩
end
end Go.Proofs.Tryq
section
namespace Go.Nk
open Go Go.MapKept
open Go.Maps (Keyed)
open Go.ChangeMaps (setBlock)
def MapAt(P:Program)(k:TypeId)(w:World)(b:Nat)(G:Value->Option Value):Prop:=
 ∃es clock,w.heap[b]? =some (.map es clock)/\(∀e∈es.toList,∃l,keyOf P k e.key=some l)/\es.toList.Pairwise (λx y=>x.key≠y.key)/\(∀key v,G key=some v->∃e∈es.toList,e.key=key/\e.val=v)/\∀e∈es.toList,G e.key=some e.val
variable {k:TypeId}{G:Value->Option Value}
theorem MapAt.made(P:Program)(k:TypeId)(w:World):MapAt P k (w.alloc (.map #[] 0)) w.heap.size (λ_=>none):=
 ⟨#[],0,by have e:(w.alloc (.map #[] 0)).heap=w.heap.push (.map #[] 0):=rfl
           rw[e];simp,by simp,by simp,by simp,by simp⟩
theorem MapAt.lookup(h:MapAt P k w b G)(K:Keyed P k)(ht:P.underlying t=some (.map k e)){z:Value}(hz:(zeroValue e).run P w= .ok z w){key:Value}{kl:Lit}(Dn:keyOf P k key=some kl)(c:Bool):
 (Instr.lookup t (.map (some b)) key c).run P w= .ok (if c then .tuple #[(G key).getD z,.bool (G key).isSome] else(G key).getD z) w:=by
 obtain⟨es,clock,hb,hk,_,h1,h2⟩:=h;rcases K.find w Dn es.toList hk with⟨hf,A9⟩|⟨j,e0,hf,hj,he⟩
 ·have hG:G key=none:=by
   cases hg:G key with
   |none=>rfl
   |some v=>
    obtain⟨x,hx,Wr,_⟩:=h1 key v hg;exact absurd Wr (A9 x hx)
  rw[hG];simp[Instr.lookup,run_underlying ht,RJ hb,K.check w _ Dn,hf,hz,Result.andThen]
 ·have hG:G key=some e0.val:=by rw[<-he];exact h2 e0 (YQ hj)
  rw[hG];simp[Instr.lookup,run_underlying ht,RJ hb,K.check w _ Dn,hf,Result.andThen]
open Classical in
theorem MapAt.update(h:MapAt P k w b G)(K:Keyed P k)(ht:P.underlying t=some (.map k e)){key:Value}{kl:Lit}(Dn:keyOf P k key=some kl)(val:Value):
 ∃o,(Instr.mapUpdate t (.map (some b)) key val).run P w= .ok () (setBlock w b o)/\MapAt P k (setBlock w b o) b (λx=>if x=key then some val else G x):=by
 obtain⟨es,clock,hb,hk,hp,h1,h2⟩:=h;have A3:b<w.heap.size:=(YF.1 hb).1;have Iy:∀o:Obj,(setBlock w b o).heap[b]? =some o:=λo=>by simp[setBlock,Array.getElem?_setIfInBounds,A3]
 rcases K.find w Dn es.toList hk with⟨hf,A9⟩|⟨j,e0,hf,hj,he⟩
 ·refine⟨.map (es.push ⟨key,val,clock⟩) (clock+1),?_,es.push ⟨key,val,clock⟩,clock+1,Iy _,?_,?_,?_,?_⟩
  ·simp[Instr.mapUpdate,run_underlying ht,RJ hb,K.check w false Dn,hf,MapKept.run_setObj_map _ hb,Result.andThen,setBlock]
  ·intro x hx;simp only[QH,VB,XO] at hx;rcases hx with hx|rfl
   ·exact hk x hx
   ·exact⟨_,Dn⟩
  ·rw[QH,SN];exact⟨hp,by simp,λx hx y hy=>by simp at hy;subst hy;exact A9 x hx⟩
  ·intro key' v hg;dsimp only at hg;split at hg
   ·rename_i hk';cases hg;exact⟨⟨key,val,clock⟩,by simp,hk'.symm,rfl⟩
   ·obtain⟨x,hx,C4,Aw⟩:=h1 key' v hg;exact⟨x,by simp;exact .inl (by simpa using hx),C4,Aw⟩
  ·intro x hx;simp only[QH,VB,XO] at hx;rcases hx with hx|rfl
   ·dsimp only;rw[XA (A9 x hx)];exact h2 x hx
   ·dsimp only;rw[YZ rfl]
 ·have hj':es[j]? =some e0:=by rw[<-Array.getElem?_toList];exact hj
  have Iz:j<es.size:=(YF.1 hj').1;have hl:(es.modify j λx=>{x with key:=key,val:=val}).toList=es.toList.set j {e0 with key:=key,val:=val}:=by
   apply List.ext_getElem?;intro i;rw[Array.getElem?_toList,Array.getElem?_modify,List.getElem?_set];by_cases Kc:j=i
   ·subst Kc;rw[YZ rfl,YZ rfl,hj',YZ (by simpa using Iz)];rfl
   ·rw[XA Kc,XA Kc,Array.getElem?_toList]
  have Ca:∀x∈es.toList.set j {e0 with key:=key,val:=val},x={e0 with key:=key,val:=val}\/(x∈es.toList/\x.key≠key):=by
   intro x hx;obtain⟨i,hi,Li⟩:=List.mem_iff_getElem.1 hx;rw[List.getElem_set] at Li;split at Li
   ·exact .inl Li.symm
   ·rename_i Kc;simp only[List.length_set] at hi;refine .inr ⟨by rw[<-Li];exact List.getElem_mem _,λhk'=> ?_⟩;have J0:j<es.toList.length:=(by simpa using Iz);have Ra:es.toList[j]=e0:=by
     have:=YH J0;rw[hj] at this;exact(YT this).symm
    rcases XY i j with Fu|Fl
    ·exact(SU.1 hp i j hi J0 Fu) (by rw[Li,hk',Ra,he])
    ·exact(SU.1 hp j i J0 hi (by omega)) (by rw[Li,hk',Ra,he])
  refine⟨.map (es.modify j λx=>{x with key:=key,val:=val}) clock,?_,_,clock,Iy _,?_,?_,?_,?_⟩
  ·simp[Instr.mapUpdate,run_underlying ht,RJ hb,K.check w false Dn,hf,MapKept.run_setObj_map _ hb,Result.andThen,setBlock,hj',he,K.stays w Dn]
  ·rw[hl];intro x hx;rcases Ca x hx with rfl|⟨hx,_⟩
   ·exact⟨_,Dn⟩
   ·exact hk x hx
  ·rw[hl,SU];intro i1 i2 H2 Fw Fu;simp only[List.length_set] at H2 Fw;have J0:j<es.toList.length:=by simpa using Iz
   have Ra:es.toList[j]=e0:=by
    have:=YH J0;rw[hj] at this;exact(YT this).symm
   rw[List.getElem_set,List.getElem_set];have Md:=SU.1 hp i1 i2 H2 Fw Fu;split
   ·rename_i h1';subst h1';rw[XA (by omega)];rw[Ra,he] at Md;exact Md
   ·split
    ·rename_i h2';subst h2';rw[Ra,he] at Md;exact Md
    ·exact Md
  ·rw[hl];intro key' v hg;dsimp only at hg;split at hg
   ·rename_i hk';cases hg;exact⟨{e0 with key:=key,val:=val},List.mem_iff_getElem?.2 ⟨j,by rw[List.getElem?_set];simp[Iz]⟩,hk'.symm,rfl⟩
   ·rename_i hk';obtain⟨x,hx,C4,Aw⟩:=h1 key' v hg;obtain⟨i,hi⟩:=List.mem_iff_getElem?.1 hx;refine⟨x,List.mem_iff_getElem?.2 ⟨i,?_⟩,C4,Aw⟩;rw[List.getElem?_set,XA ?_]
    ·exact hi
    ·rintro rfl;rw[hj] at hi;cases hi;exact hk' (C4.symm.trans he)
  ·rw[hl];intro x hx;rcases Ca x hx with rfl|⟨hx,A9⟩
   ·dsimp only;rw[YZ rfl]
   ·dsimp only;rw[XA A9];exact h2 x hx
theorem MapAt.keep(h:MapAt P k w b G)(e:w'.heap[b]? =w.heap[b]?):MapAt P k w' b G:=by
 obtain⟨es,clock,hb,h⟩:=h;exact⟨es,clock,e.trans hb,h⟩
theorem MapAt.lt(h:MapAt P k w b G):b<w.heap.size:=by
 obtain⟨es,clock,hb,_⟩:=h;exact(YF.1 hb).1
end Go.Nk
namespace Go.Proofs.Tryq
open Go Go.Nk
theorem Ext.setBlock{w w':World}(h:Ext w w')(b:Nat)(o:Obj)(hb:w.heap.size<=b):Ext w (Go.ChangeMaps.setBlock w' b o):=
 ⟨by simp[Go.ChangeMaps.setBlock];exact h.size,λc hc=>by simp only[Go.ChangeMaps.setBlock];rw[YO (by omega)];exact h.old c hc,h.tape,h.os,h.output⟩
theorem Z0O(h:c≠b)(o:Obj):(Go.ChangeMaps.setBlock w b o).heap[c]? =w.heap[c]? :=by
 simp only[Go.ChangeMaps.setBlock];exact YO (λe=>h e.symm)
theorem Z2s(w:World)(b:Nat)(o:Obj):(Go.ChangeMaps.setBlock w b o).heap.size=w.heap.size:=by simp[Go.ChangeMaps.setBlock]
end Go.Proofs.Tryq
end
namespace Go.Proofs.Tryq
section
open Go Go.Nk Go.RowKit
variable [Tw]
open Go.Maps (Keyed)
structure Sf where
 nm:ByteArray
 a0:Int
 a1:Int
 b0:Int
 b1:Int
 c0:Int
 c1:Int
structure ShaftAt(w:World)(b off:Nat)(x:Sf):Prop where
 k0:w.cell? ⟨b,off,none⟩=some (.string x.nm)
 k1:w.cell? ⟨b,off+1,none⟩=some (.int .i64 x.a0)
 k2:w.cell? ⟨b,off+2,none⟩=some (.int .i64 x.a1)
 k3:w.cell? ⟨b,off+3,none⟩=some (.int .i64 x.b0)
 k4:w.cell? ⟨b,off+4,none⟩=some (.int .i64 x.b1)
 k5:w.cell? ⟨b,off+5,none⟩=some (.int .i64 x.c0)
 k6:w.cell? ⟨b,off+6,none⟩=some (.int .i64 x.c1)
def RawA(w:World)(base:Option Addr)(L:List Sf):Prop:=∀(i:Nat)(x:Sf),L[i]? =some x->∃b off,base=some ⟨b,off,none⟩/\b<w.heap.size/\ShaftAt w b (off+i*7) x/\x.nm.size<=maxLen
theorem ShaftAt.ext{x:Sf}(h:ShaftAt w b off x)(e:Ext w w'):ShaftAt w' b off x:=
 ⟨e.cellS h.k0,e.cellS h.k1,e.cellS h.k2,e.cellS h.k3,e.cellS h.k4,e.cellS h.k5,e.cellS h.k6⟩
theorem RawA.ext{w w':World}{base:Option Addr}{L:List Sf}(h:RawA w base L)(e:Ext w w'):RawA w' base L:=by
 intro i x hi;obtain⟨b,off,h1,h2,h3,h4⟩:=h i x hi;exact⟨b,off,h1,e.lt h2,h3.ext e,h4⟩
def sfC(x:Sf):Array Value:= #[.string x.nm,x.a0,x.a1,x.b0,x.b1,x.c0,x.c1]
def spA(x:Sf):Nat->Int×Int
 |0=>(x.a0,x.a1)
 |1=>(x.b0,x.b1)
 |_=>(x.c0,x.c1)
def ZF(p:Int×Int):Bool:=decide (0<=p.1/\p.1<=p.2/\p.2<=9999)
def Z8b(x:Sf):Bool:=ZF (spA x 0)&&ZF (spA x 1)&&ZF (spA x 2)
abbrev nmL(x:Sf):List UInt8:=x.nm.data.toList
def shA:List (List UInt8)->List Sf->Int
 |_,[]=>0
 |seen,x::t=>if Z2d x.nm=false then 4 else if nmL x∈seen then 5 else if Z8b x=false then 1 else shA (seen++[nmL x]) t
def Zj(L:List Sf):Int:=if 9<L.length then 2 else shA [] L
def gN(l:List (List UInt8)):Value->Option Value
 | .string s=>if s.data.toList∈l then some (.bool true) else none
 |_=>none
theorem gN_nil:gN []=λ_=>none:=by
 funext v;cases v<;>simp[gN]
open Classical in
theorem Zd2(l:List (List UInt8))(s:ByteArray):(λx=>if x=Value.string s then some (Value.bool true) else gN l x)=gN (l++[s.data.toList]):=by
 funext v;cases v with
 |string t=>
  by_cases h:t=s
  ·subst h;simp[gN]
  ·have h2:¬t.data.toList=s.data.toList:=λe=>h (by cases t;cases s;simp at e;subst e;rfl)
   simp[gN,h,h2]
 |_=>simp[gN]
theorem u175:gp.underlying 198=some (.map 9 4):=(underlying_eq 198).trans Tryz.underlying198
theorem keyed9:Keyed gp 9:=Go.Maps.string_keyed u9
theorem z4(w:World):(zeroValue 4).run gp w= .ok (.bool false) w:=(run_zeroValue 4 w).trans (Tryz.zeroValue4 w)
theorem Z0G{α:Type}{L:List α}{x:α}(h:L[i]? =some x):L.take (i+1)=L.take i++[x]:=by
 rw[TG,h];rfl
theorem Z0b{α:Type}{L:List α}{x:α}(h:L[i]? =some x):L.drop i=x::L.drop (i+1):=by
 obtain⟨hi,he⟩:=YI.1 h;rw[SV hi,he]
theorem Z6w(a b c m:Int)(base:Option Addr)(n cap:Nat)(L:List Sf)(w:World)(A1:L.length=n)(hM:Meas w)(hS:RawA w base L):Calls gp 79 #[.agg #[a,b,c,m,.slice base n cap]] w λe w'=>e= .returned (.int .i64 (Zj L))/\Ext w w':=by
 by_cases h9:9<L.length
 ·have H:Zj L=2:=by rw[Zj,YZ h9]
  rw[H];clear H;have Nz:(9:Int)<(n:Int):=by omega
  clear h9;go_enter fk Tryz.func79,Tryz.ntmps79;go_wp2;go_ret;exact⟨rfl,(Ext.rfl' w).alloc _⟩
 ·have H:Hid (Zj L=shA ((L.take 0).map nmL) (L.drop 0)):=by show Zj L=_;rw[Zj,XA h9];rfl
  have Nz:(n:Int)<=9:=by omega
  clear h9;have Pv:= @run_makeMap gp;go_enter fk Tryz.func79,Tryz.ntmps79;go_wp2;have X5:=MapAt.made gp 9 (w.alloc (.cells #[a,b,c,m,.slice base n cap] 117));rw[<-gN_nil,Z2] at X5;have Be:=((Ext.rfl' w).alloc (.cells #[a,b,c,m,.slice base n cap] 117)).alloc (.map #[] 0);go_loopw [18] (λv wr=>∃i:Nat,i<=n/\v= .int .i64 i/\wr.heap[w.heap.size]? =some (.cells #[a,b,c,m,.slice base n cap] 117)/\Ext w wr/\MapAt gp 9 wr (w.heap.size+1) (gN ((L.take i).map nmL))/\Hid (Zj L=shA ((L.take i).map nmL) (L.drop i))) (λv _=>n - (intOf v).toNat)
  case atStart=>exact⟨0,XS _,rfl,by simp only[Z3,Z2];rw[XA (by omega),YZ trivial],Be,by simpa using X5,H⟩
  case round=>
   obtain⟨i,hi,rfl,hr,hE,D4,hH⟩:=hrel;clear X5 Be H Pv;by_cases Ao:i=n
   ·subst Ao;have hz:Hid (Zj L=0):=(by show Zj L=0;rw[hH.out,<-A1,TB];rfl);clear hH;go_wp2;go_ret;exact⟨ZK (a:=0) hz.out.symm,hE⟩
   ·have A3:i<n:=(by omega);obtain⟨x,hx⟩:∃x,L[i]? =some x:=⟨_,YH (by omega)⟩;have Ai:Hid (Zj L=if Z2d x.nm=false then 4 else if nmL x∈(L.take i).map nmL then 5 else if Z8b x=false then 1 else shA ((L.take (i+1)).map nmL) (L.drop (i+1))):=by
     show Zj L=_;rw[hH.out,Z0b hx,shA,Z0G hx,QT];rfl
    obtain⟨b',off,rfl,hb,⟨k0,k1,k2,k3,k4,k5,k6⟩,Me⟩:=(hS.ext hE) i x hx;have Rb:=hM.ext hE;have Ft:=λw=>Z8a x.nm w Me
    have Rc:keyOf gp 9 (.string x.nm)=some _:=Go.WideMaps.keyOf_string_mk u9 Me
    have Fx:∀w2,Ext (wr.alloc (.cells #[.string x.nm,x.a0,x.a1,x.b0,x.b1,x.c0,x.c1] 51)) w2->w2.heap[wr.heap.size]? =some (.cells #[.string x.nm,x.a0,x.a1,x.b0,x.b1,x.c0,x.c1] 51)/\Ext w w2/\w2.heap[w.heap.size]? =some (.cells #[a,b,c,m,.slice (some ⟨b',off,none⟩) n cap] 117)/\MapAt gp 9 w2 (w.heap.size+1) (gN ((L.take i).map nmL)):=λw2 h=>
     ⟨h.get ((Z3 _ _ _).trans (YZ rfl)),(hE.alloc _).trans h,h.get (((Ext.rfl' wr).alloc _).get hr),D4.keep (((Ext.rfl' wr).alloc _ |>.trans h).old _ D4.lt)⟩
    cases hnb:Z2d x.nm
    ·have Av:Hid (Zj L=4):=(by show Zj L=4;rw[Ai.out,YZ hnb]);rw[hnb] at Ft;clear hnb Ai hH hx
     go_wp2_with (first
      |(go_at_call 118;refine(Ft _).mono ?_;rintro e w2 ⟨rfl,A4⟩;obtain⟨C4,Aw,_,_⟩:=Fx _ A4))
     go_ret;exact⟨ZK (a:=4) Av.out.symm,Aw⟩
    ·rw[hnb] at Ft;by_cases Es:nmL x∈(L.take i).map nmL
     ·have Av:Hid (Zj L=5):=(by show Zj L=5;rw[Ai.out,XA (by rw[hnb];simp),YZ Es]);have hg:gN ((L.take i).map nmL) (.string x.nm)=some (.bool true):=(by simp only[gN];rw[YZ Es]);clear hnb Ai hH hx Es
      go_wp2_with (first
       |(go_at_call 118;refine(Ft _).mono ?_;rintro e w2 ⟨rfl,A4⟩;obtain⟨C4,Aw,_,Pw⟩:=Fx _ A4;have Gq:=Pw.lookup keyed9 u175 (z4 w2) Rc false;rw[hg] at Gq;have y0:=Z0 C4 0;simp only[YC,YA] at y0;clear Pw hg))
      go_ret;exact⟨ZK (a:=5) Av.out.symm,Aw⟩
     ·have Av:Hid (Zj L=if Z8b x=false then 1 else shA ((L.take (i+1)).map nmL) (L.drop (i+1))):=(by show Zj L=_;rw[Ai.out,XA (by rw[hnb];simp),XA Es]);have hg:gN ((L.take i).map nmL) (.string x.nm)=none:=(by simp only[gN];rw[XA Es]);have hT:Hid ((L.take (i+1)).map nmL=(L.take i).map nmL++[nmL x]):=(by show _=_;rw[Z0G hx,QT];rfl);clear hnb Ai hH hx Es
      go_wp2_with (first
       |(go_at_call 118;refine(Ft _).mono ?_;rintro e w2 ⟨rfl,A4⟩;obtain⟨C4,Aw,Pk,Pw⟩:=Fx _ A4;have Gq:=Pw.lookup keyed9 u175 (z4 w2) Rc false;rw[hg] at Gq;obtain⟨o,Ex,Lj⟩:=Pw.update keyed9 u175 Rc (.bool true);rw[Zd2,<-hT.out] at Lj
         have A9:wr.heap.size≠w.heap.size+1:=(by have:=D4.lt;omega);have Re:=(Z0O (w:=w2) A9 o).trans C4;have Rf:Ext w (Go.ChangeMaps.setBlock w2 (w.heap.size+1) o):=Aw.setBlock _ o (by omega);have hV3:=(Z0O (w:=w2) (c:=w.heap.size) (b:=w.heap.size+1) (by omega) o).trans Pk;have y0:=Z0 C4 0;simp only[YC,YA] at y0;clear Pw hg C4 Aw Pk A9;generalize Go.ChangeMaps.setBlock w2 (w.heap.size+1) o=V at Ex Lj Re Rf hV3;have O0:=hM.ext Rf;have g0:=O0 0 (by omega);have g1:=O0 1 (by omega);have g2:=O0 2 (by omega);have g3:=O0 3 (by omega);have g4:=O0 4 (by omega);have g5:=O0 5 (by omega);simp only[Nat.reduceAdd] at g0 g1 g2 g3 g4 g5))
      have V8:=Z5 Re;clear Ex Gq y0 g0 g1 g2 g3 g4 g5 O0 Ft Fx A4 hE D4 Rb k0 k1 k2 k3 k4 k5 k6 hr hb;obtain⟨wo,rfl⟩:∃wo:World,wo=wr:=⟨_,rfl⟩;go_loopw [34] (λv wi=>∃j:Nat,j<=3/\v= .int .i64 j/\Ext V wi/\Hid (∀j',j'<j->ZF (spA x j')=true)) (λv _=>3 - (intOf v).toNat)
      case atStart=>exact⟨0,XS _,rfl,Ext.rfl' V,λj' hj=>by omega⟩
      case round=>
       obtain⟨j,hj,rfl,Rg,hz⟩:=hrel;have O1:=Rg.get Re;have hRi:=Rg.get hV3;have Rh:=Z5 O1;by_cases hj3:j=3
       ·subst hj3;have Bq:Z8b x=true:=(by rw[Z8b,hz.out 0 (by omega),hz.out 1 (by omega),hz.out 2 (by omega)];rfl);have J1:Hid (Zj L=shA ((L.take (i+1)).map nmL) (L.drop (i+1))):=(by show Zj L=_;rw[Av.out,XA (by rw[Bq];simp)]);clear Bq hz Av;have Bf:=Rf.trans Rg;have Fo:=Lj.keep (Rg.old _ Lj.lt);go_wp2;go_roundw
        case rel=>exact⟨i+1,by omega,by push_cast;rfl,hRi,Bf,Fo,J1⟩
        case measure=>simp[intOf];omega
       ·have Lh:j<3:=(by omega);have y1:=Z0 O1 1;have y2:=Z0 O1 2;have y3:=Z0 O1 3;have y4:=Z0 O1 4;have y5:=Z0 O1 5;have y6:=Z0 O1 6;simp only[YC,YA,YB] at y1 y2 y3 y4 y5 y6;have fin:∀k:Nat,(∀j',j'<k->ZF (spA x j')=true)->ZF (spA x k)=true->∀j',j'<k+1->ZF (spA x j')=true:=by
         intro k h1 h2 j' hj';rcases TD.1 hj' with h|rfl
         ·exact h1 j' h
         ·exact h2
        have bad:∀k:Nat,k<3->ZF (spA x k)=false->Zj L=1:=by
         intro k hk hb;rw[Av.out,YZ];unfold Z8b;obtain rfl|rfl|rfl:k=0\/k=1\/k=2:=(by omega);all_goals (rw[hb];simp)
        replace fin:=QV fin;replace bad:=QV bad;obtain rfl|rfl|rfl:j=0\/j=1\/j=2:=by omega
        all_goals
         have Cj:=Z7l;have H2:=Z7m;have Fw:=Z7n;have hne1:wr.heap.size≠wo.heap.size:=(by omega);have Md:∀(o:Obj)(i:Nat),(wr.alloc o).cell? ⟨wo.heap.size,i,none⟩=wr.cell? ⟨wo.heap.size,i,none⟩:=λo i=>World.cell?_alloc_lt _ _ _ Rh
         go_wp2_with (first
          |(go_at_call 279;refine(Z7o _ _ _).mono ?_;rintro e w2 ⟨rfl,Cp⟩;subst Cp)
          |(go_at_call 281;refine(Z7p _ _ _).mono ?_;rintro e w2 ⟨rfl,Cp⟩;subst Cp)
          |(go_at_call 283;refine(Z7q _ _ _).mono ?_;rintro e w2 ⟨rfl,Cp⟩;subst Cp)
          |(go_at_call 119;refine(Z84 _ _ _ _ _).mono ?_;rintro e w3 ⟨rfl,Ah⟩))
         all_goals have Va:=(Rg.alloc _).trans Ah
         ·rename_i hb;simp at hb;go_ret;have Bz:Zj L=1:=by
           first
            |exact bad.out 0 (by omega) (by simp only[ZF,spA];simp;omega)
            |exact bad.out 1 (by omega) (by simp only[ZF,spA];simp;omega)
            |exact bad.out 2 (by omega) (by simp only[ZF,spA];simp;omega)
          exact⟨ZK (a:=1) Bz.symm,Rf.trans Va⟩
         ·rename_i hb;simp at hb;go_roundw
          case rel=>
           first
            |exact⟨1,by omega,rfl,Va,fin.out 0 hz.out (by simp only[ZF,spA];simp;omega)⟩
            |exact⟨2,by omega,rfl,Va,fin.out 1 hz.out (by simp only[ZF,spA];simp;omega)⟩
            |exact⟨3,by omega,rfl,Va,fin.out 2 hz.out (by simp only[ZF,spA];simp;omega)⟩
          case measure=>simp[intOf]
end
section
open Go Go.Nk Go.RowKit
variable [Tw]
def Zp(a b c m:Int)(L:List Sf):Int:=firstV [Z2J a b c m,Zj L]
theorem Z24(a b c m:Int)(base:Option Addr)(n cap:Nat)(L:List Sf)(w:World)(A1:L.length=n)(hM:Meas w)(hS:RawA w base L):
 Calls gp 36 #[.agg #[a,b,c,m,.slice base n cap]] w λe w'=>e= .returned (.int .i64 (Zp a b c m L))/\Ext w w':=by
 go_enter fk Tryz.func36,Tryz.ntmps36
 go_wp2_with (
  go_at_call 61
  have hE:Ext w _:=(((Ext.rfl' w).alloc (.cells #[a,b,c,m,.slice base n cap] 26)).alloc (.cells #[a,b,c,m,.slice base n cap] 117)).alloc (.cells #[.func (.func 78) #[.agg #[a,b,c,m,.slice base n cap]] #[],.func (.func 79) #[.agg #[a,b,c,m,.slice base n cap]] #[]] 129);have hb:=Z3 ((w.alloc (.cells #[a,b,c,m,.slice base n cap] 26)).alloc (.cells #[a,b,c,m,.slice base n cap] 117)) (.cells #[.func (.func 78) #[.agg #[a,b,c,m,.slice base n cap]] #[],.func (.func 79) #[.agg #[a,b,c,m,.slice base n cap]] #[]] 129) (w.heap.size+1+1);rw[YZ (by simp only[Z2])] at hb;generalize World.alloc _ _=w1 at hE hb⊢;refine(Z1S (w.heap.size+1+1) 2 2 (λi=>if i=0 then 78 else 79) (λi=> #[.agg #[a,b,c,m,.slice base n cap]]) (λi=> #[]) [Z2J a b c m,Zj L] rfl (by omega) w1 ?_ ?_ ?_).mono ?_
  ·intro i hi;rw[Z0 hb];obtain rfl|rfl:i=0\/i=1:=by omega
   ·rfl
   ·rfl
  ·intro i hi args w';obtain rfl|rfl:i=0\/i=1:=by omega
   ·simp[go_sem]
   ·simp[go_sem]
  ·intro i x hx w' hE'
   match i,hx with
   |0,hx=>
    obtain rfl:=YT hx;exact Z9w a b c m base n cap w' (hM.ext (hE.trans hE'))
   |1,hx=>
    obtain rfl:=YT hx;exact Z6w a b c m base n cap L w' A1 (hM.ext (hE.trans hE')) (hS.ext (hE.trans hE'))
  rintro e w2 ⟨rfl,A4⟩)
 go_ret;exact⟨rfl,hE.trans A4⟩
def RawI(w:World)(base:Option Addr)(l:List Int):Prop:=∀(i:Nat)(x:Int),l[i]? =some x->∃b off,base=some ⟨b,off,none⟩/\b<w.heap.size/\w.cell? ⟨b,off+i,none⟩=some (.int .i64 x)
theorem RawI.ext{base:Option Addr}(h:RawI w base l)(e:Ext w w'):RawI w' base l:=by
 intro i x hi;obtain⟨b,off,h1,h2,h3⟩:=h i x hi;exact⟨b,off,h1,e.lt h2,e.cellS h3⟩
def Z1k(n:Nat):Option Int->List Int->Int
 |_,[]=>0
 |p,x::t=>if¬(0<=x/\x<=(n:Int) - 1) then 6 else if(match p with|some y=>decide (x<=y)|none=>false) then 7 else Z1k n (some x) t
def Zq(n:Nat)(l:List Int):Int:=Z1k n none l
def Z12(l:List Int)(i:Nat):Option Int:=match i with
 |0=>none
 |i+1=>l[i]?
theorem Z9y(a b c m:Int)(base:Option Addr)(n cap:Nat)(bl:Option Addr)(k cl:Nat)(l:List Int)(w:World)(hn:n<=20)(hk:l.length=k)(Az:k<=100)(hl:RawI w bl l):
 Calls gp 99 #[.agg #[a,b,c,m,.slice base n cap],.slice bl k cl] w λe w'=>e= .returned (.int .i64 (Zq n l))/\Ext w w':=by
 have V5:wrap64 ((n:Int) - 1)=(n:Int) - 1:=by unfold wrap64;omega
 go_enter fk Tryz.func99,Tryz.ntmps99;go_wp2;go_loopw [9] (λv wr=>∃i:Nat,i<=k/\v= .int .i64 i/\wr.heap[w.heap.size]? =some (.cells #[a,b,c,m,.slice base n cap] 117)/\Ext w wr/\Hid (Zq n l=Z1k n (Z12 l i) (l.drop i))) (λv _=>k - (intOf v).toNat)
 case atStart=>exact⟨0,XS _,rfl,by rw[Z3,YZ rfl],(Ext.rfl' w).alloc _,rfl⟩
 case round=>
  obtain⟨i,hi,rfl,hr,hE,hH⟩:=hrel;have q0:=Z0 hr 0;have q1:=Z0 hr 1;have q2:=Z0 hr 2;have q3:=Z0 hr 3;have q4:=Z0 hr 4;simp only[YC,YA,YB] at q0 q1 q2 q3 q4;by_cases Ao:i=k
  ·subst Ao;have hz:Hid (Zq n l=0):=by show Zq n l=0;rw[hH.out,<-hk,TB];rfl
   go_wp2;go_ret;exact⟨ZK (a:=0) hz.out.symm,hE⟩
  ·have A3:i<k:=by omega
   obtain⟨x,hx⟩:∃x,l[i]? =some x:=⟨_,YH (by omega)⟩;have Ai:Hid (Zq n l=if¬(0<=x/\x<=(n:Int) - 1) then 6 else if(match Z12 l i with|some y=>decide (x<=y)|none=>false) then 7 else Z1k n (Z12 l (i+1)) (l.drop (i+1))):=by
    show Zq n l=_;rw[hH.out,Z0b hx];have e1:Z12 l (i+1)=some x:=hx;rw[e1];conv=>lhs;unfold Z1k
   have Hk:=hl.ext hE;obtain⟨b',off,rfl,hb,hc⟩:=Hk i x hx;have Cc:=λw=>Z09 x 0 ((n:Int) - 1) w
   cases Ht:decide (0<=x/\x<=(n:Int) - 1)
   ·rw[Ht] at Cc;have Av:Hid (Zq n l=6):=(by show Zq n l=6;rw[Ai.out,YZ (of_decide_eq_false Ht)]);clear Ai hH hx Ht;go_wp2_with (first|(go_at_call 65;refine(Cc _).mono ?_;rintro e wr ⟨rfl,rfl⟩));go_ret;exact⟨ZK (a:=6) Av.out.symm,hE⟩
   ·rw[Ht] at Cc;have Av:Hid (Zq n l=if(match Z12 l i with|some y=>decide (x<=y)|none=>false) then 7 else Z1k n (Z12 l (i+1)) (l.drop (i+1))):=(by show Zq n l=_;rw[Ai.out,XA (by simpa using TR Ht)]);clear Ai hH Ht;cases i with
    |zero=>
     have J1:Hid (Zq n l=Z1k n (Z12 l (0+1)) (l.drop (0+1))):=(by show Zq n l=_;rw[Av.out];simp[Z12]);clear hx Av;replace hc:wr.cell? ⟨b',off,none⟩=some (.int .i64 x):=hc;go_wp2_with (first|(go_at_call 65;refine(Cc _).mono ?_;rintro e wr ⟨rfl,rfl⟩));go_roundw
     case rel=>exact⟨1,by omega,rfl,hr,hE,J1⟩
     case measure=>simp[intOf];omega
    |succ j=>
     obtain⟨y,hy⟩:∃y,l[j]? =some y:=⟨_,YH (by omega)⟩;obtain⟨b2,off2,Em,As,E3⟩:=Hk j y hy;simp only[XJ,Addr.mk.injEq,and_true] at Em;obtain⟨rfl,rfl⟩:=Em;have Hl:Hid (Zq n l=if decide (x<=y) then 7 else Z1k n (Z12 l (j+1+1)) (l.drop (j+1+1))):=(by show Zq n l=_;rw[Av.out];simp only[Z12,hy]);clear Av hx hy;have hj0:(0:Int)<(j:Int)+1:=(by omega);by_cases Cz:x<=y
     ·have J2:Hid (Zq n l=7):=(by show Zq n l=7;rw[Hl.out,YZ (XX Cz)]);clear Hl;go_wp2_with (first|(go_at_call 65;refine(Cc _).mono ?_;rintro e wr ⟨rfl,rfl⟩));go_ret;exact⟨ZK (a:=7) J2.out.symm,hE⟩
     ·have J2:Hid (Zq n l=Z1k n (Z12 l (j+1+1)) (l.drop (j+1+1))):=(by show Zq n l=_;rw[Hl.out,XA (by simpa using Cz)]);clear Hl;go_wp2_with (first|(go_at_call 65;refine(Cc _).mono ?_;rintro e wr ⟨rfl,rfl⟩));go_roundw
      case rel=>exact⟨j+1+1,by omega,by push_cast;rfl,hr,hE,J2⟩
      case measure=>simp[intOf];omega
end
end Go.Proofs.Tryq
section
namespace Go.Nk
open Go
theorem Z5B:∀{l:List (String×DataW Unit)}{ps:List MemPlace},DataW.LaidVars P w l ps->∀{n:String}{d:DataW Unit},(n,d)∈l->
 ∃g t cs fuel p,P.globalNamed n=some g/\(P.globals[g]?).map (·.type)=some t/\w.var? P n=some cs/\DataW.trod (λ_=>()) P w 0 (λ_=>true) false fuel t cs.toList=some (d,p):=by
 intro l
 induction l with
 |nil=>intro ps _ n d h;cases h
 |cons a l ih=>
  obtain⟨n0,d0⟩:=a;rintro ps ⟨g,t,cs,fuel,p,q,h1,h2,h3,h4,h5,_⟩ n d h;rcases XE.1 h with e|h
  ·cases e;exact⟨g,t,cs,fuel,p,h1,h2,h3,h4⟩
  ·exact ih h5 h
section
variable {H:Type}{enc:TypeId×Value->H}{base:Nat}
def Zd3{H:Type}(o:Nat)(u:TypeId)(k:IntKind)(v:Int)(y:Nat×TypeId×DataW H):Bool:=y.1==o&&y.2.1==u&&(match y.2.2 with| .lit (.int k' m)=>decide (k'=k)&&decide (m=v)|_=>false)
theorem Z3y{k:IntKind}{d:DataW H}(Ag:cs.length<=P.cellsOf t)(h:∃m p,DataW.trod enc P w base spare held m t cs=some (d,p))(hm:(Z27 P n t 0 d).any (Zd3 o u k v)=true)(hu:P.underlying u=some (.int k)):cs[o]? =some (.int k v):=by
 obtain⟨y,hy,he⟩:=SS.1 hm;obtain⟨m,p,hx⟩:=Z3W cs n t 0 d (by rw[VP,VT Ag];exact h) y hy;obtain⟨a,b,c⟩:=y;simp only[Zd3,YG,XW] at he;obtain⟨⟨rfl,rfl⟩,he⟩:=he;obtain⟨z,h1,h2,_⟩:=DataW.trod_int hu hx;simp only[SI] at h2;have h3:=h2.1;subst h3;simp only[YG,XG] at he;rw[<-he.2];exact Z1Q h1
def isFn{H:Type}[BEq H](o:Nat)(u:TypeId)(b:H)(y:Nat×TypeId×DataW H):Bool:=y.1==o&&y.2.1==u&&(match y.2.2 with| .held x=>x==b|_=>false)
theorem Z1U{b:UInt8}{pt rt:Array TypeId}{d:DataW (List UInt8)}(Ag:cs.length<=P.cellsOf t)(h:∃m p,DataW.trod (funcToken P) P w base spare true m t cs=some (d,p))(hm:(Z27 P n t 0 d).any (isFn o u (b::r))=true)
 (hu:P.underlying u=some (.func pt rt va))(hc:P.cellsOf u=1)(G7:((List.range P.funcs.size).filter λf=>(P.funcs[f]?).any (·.name.toUTF8.data.toList==b::r))=[f0]):cs[o]? =some (.func (.func f0) #[] #[]):=by
 obtain⟨y,hy,he⟩:=SS.1 hm;obtain⟨m,p,hx⟩:=Z3W cs n t 0 d (by rw[VP,VT Ag];exact h) y hy;obtain⟨a,b',c⟩:=y;simp only[isFn,YG,XW] at he;obtain⟨⟨rfl,rfl⟩,he⟩:=he;cases c<;>simp only[YR] at he
 rename_i x;have he:=eq_of_beq he;subst he;rw[hc] at hx;simp only at hx;have A1:((cs.drop a).take 1).length<=1:=by simp;omega
 match hz:(cs.drop a).take 1,A1,hx with
 |[],_,hx=>cases m<;>simp[DataW.trod,hu] at hx
 |[v],_,hx=>
  obtain rfl:=func_of_trod hu G7 hx;exact Z1Q hz
end
end Go.Nk
namespace Go.Proofs.Tryq
open Go Go.Nk
open Go.Proofs.YthahddndgbpooaaGreatDoor (Rows.laid_math_bits_deBruijn32tab Rows.laid_math_bits_deBruijn64tab Rows.laid_internal_strconv_uint64pow10 Rows.laid_unicode_utf8_acceptRanges Rows.laid_errors_errorType Rows.laid_strconv_ErrRange Rows.laid_strconv_ErrSyntax Rows.laid_nock_arrow_most Rows.laid_nock_arrow_measures Rows.laid_nock_arrow_errForm Rows.laid_unicode_utf8_first)
def laidL:List (String×DataW Unit):=[("math/bits.deBruijn32tab",Rows.laid_math_bits_deBruijn32tab),("math/bits.deBruijn64tab",Rows.laid_math_bits_deBruijn64tab),("internal/strconv.uint64pow10",Rows.laid_internal_strconv_uint64pow10),("unicode/utf8.acceptRanges",Rows.laid_unicode_utf8_acceptRanges),("errors.errorType",Rows.laid_errors_errorType),("strconv.ErrRange",Rows.laid_strconv_ErrRange),("strconv.ErrSyntax",Rows.laid_strconv_ErrSyntax),("nock/arrow.most",Rows.laid_nock_arrow_most),("nock/arrow.measures",Rows.laid_nock_arrow_measures),("nock/arrow.errForm",Rows.laid_nock_arrow_errForm),("unicode/utf8.first",Rows.laid_unicode_utf8_first)]
theorem under5:Tryz.prog.underlying 5=some (.int .u8):=by kernel_rfl
theorem under3:Tryz.prog.underlying 3=some (.int .i64):=by kernel_rfl
theorem Z6x{n:String}{cs:Array Value}{H:Type}{enc:TypeId×Value->H}{d:DataW H}{t:Nat}{p:List MemPlace}{base:Nat}(h:DataW.trod enc P W base spare held fuel t cs.toList=some (d,p))
 (ht:(∃fs,P.underlying t=some (.struct fs))\/∃n e,P.underlying t=some (.array n e)):cs.toList.length<=P.cellsOf t:=by
 rcases ht with⟨fs,ht⟩|⟨n,e,ht⟩
 ·obtain⟨_,_,_,_,hl,_⟩:=DataW.trod_struct ht h;exact TU hl
 ·obtain⟨_,_,_,_,hl,_⟩:=DataW.trod_array ht h;exact TU hl
def isS(P:Program)(t:TypeId):Bool:=match P.underlying t with|some (.struct _)=>true|_=>false
def isA(P:Program)(t:TypeId):Bool:=match P.underlying t with|some (.array _ _)=>true|_=>false
def isF(P:Program)(t:TypeId):Bool:=match P.underlying t with|some (.func _ _ _)=>true|_=>false
theorem Z9z(h:isF P t=true):∃a b c,P.underlying t=some (.func a b c):=by
 unfold isF at h;split at h
 ·exact⟨_,_,_,by assumption⟩
 ·cases h
theorem Z3z(h:isS P t=true):∃fs,P.underlying t=some (.struct fs):=by
 unfold isS at h;split at h
 ·exact⟨_,by assumption⟩
 ·cases h
theorem Z7v(h:isA P t=true):∃n e,P.underlying t=some (.array n e):=by
 unfold isA at h;split at h
 ·exact⟨_,_,by assumption⟩
 ·cases h
theorem Z2t(h:laidMetH Tryz.prog laidL W){n:String}{d:DataW Unit}(hm:(n,d)∈laidL)(hp:d.handleName?.isNone=true):
 ∃g t cs fuel p,Tryz.prog.globalNamed n=some g/\(Tryz.prog.globals[g]?).map (·.type)=some t/\W.var? Tryz.prog n=some cs/\DataW.trod (λ_=>()) Tryz.prog W 0 (λ_=>true) false fuel t cs.toList=some (d,p):=by
 obtain⟨⟨ps,h1,_⟩,_⟩:=laidMetH_iff.1 h;exact Z5B h1 (UP.2 ⟨hm,hp⟩)
theorem Z5C(h:laidMetH Tryz.prog laidL W):Most W:=by
 obtain⟨g,t,cs,fuel,p,hg,ht,hv,hd⟩:=Z2t h (n:= "nock/arrow.most") (d:=Rows.laid_nock_arrow_most) (by simp[laidL]) (by kernel_rfl);obtain rfl:=YT ((show Tryz.prog.globalNamed "nock/arrow.most" =some 1 by kernel_rfl).symm.trans hg);obtain rfl:=YT ((show(Tryz.prog.globals[1]?).map (·.type)=some 49 by kernel_rfl).symm.trans ht);obtain⟨fs,hu⟩:=Z3z (P:=Tryz.prog) (t:=49) (by kernel_rfl);have hl:=Z6x (n:= "") hd (.inl ⟨fs,hu⟩);have e0:=Z3y (n:=2) (o:=0) (u:=3) (k:= .i64) (v:= -1099511627776) hl ⟨_,_,hd⟩ (by kernel_rfl) under3;have e1:=Z3y (n:=2) (o:=1) (u:=3) (k:= .i64) (v:=1099511627776) hl ⟨_,_,hd⟩ (by kernel_rfl) under3;exact⟨by rw[World.var?_cell hg hv 0];simpa using e0,by rw[World.var?_cell hg hv 1];simpa using e1⟩
theorem Z6y(h:laidMetH Tryz.prog laidL W):Deb W:=by
 obtain⟨g,t,cs,fuel,p,hg,ht,hv,hd⟩:=Z2t h (n:= "math/bits.deBruijn64tab") (d:=Rows.laid_math_bits_deBruijn64tab) (by simp[laidL]) (by kernel_rfl);obtain rfl:=YT ((show Tryz.prog.globalNamed "math/bits.deBruijn64tab" =some 6 by kernel_rfl).symm.trans hg);obtain rfl:=YT ((show(Tryz.prog.globals[6]?).map (·.type)=some 302 by kernel_rfl).symm.trans ht);obtain⟨m,e,hu⟩:=Z7v (P:=Tryz.prog) (t:=302) (by kernel_rfl);have hl:=Z6x (n:= "") hd (.inr ⟨m,e,hu⟩);intro i hi;have hk:((List.range 8).all λi=>(Z27 Tryz.prog 2 302 0 (Rows.laid_math_bits_deBruijn64tab (H:=Unit))).any (Zd3 (dbP i) 5 .u8 (i:Int)))=true:=by kernel_rfl
 have e0:=Z3y (n:=2) (o:=dbP i) (u:=5) (k:= .u8) (v:=i) hl ⟨_,_,hd⟩ (YL.1 hk i (YU.2 hi)) under5;rw[World.var?_cell hg hv];simpa using e0
theorem Z5D(h:laidMetH Tryz.prog laidL W):Meas W:=by
 obtain⟨g,t,cs,fuel,p,hg,ht,hv,hd⟩:=h.funcs (n:= "nock/arrow.measures") (by unfold laidL Rows.laid_nock_arrow_measures;exact YQ (i:=8) rfl);obtain rfl:=YT ((show Tryz.prog.globalNamed "nock/arrow.measures" =some 2 by kernel_rfl).symm.trans hg);obtain rfl:=YT ((show(Tryz.prog.globals[2]?).map (·.type)=some 197 by kernel_rfl).symm.trans ht);obtain⟨m,e,hu⟩:=Z7v (P:=Tryz.prog) (t:=197) (by kernel_rfl);have hl:=Z6x (n:= "") hd (.inr ⟨m,e,hu⟩)
 have cell:∀(i:Nat)(v:Value),cs.toList[i]? =some v->W.cell? ⟨2,i,none⟩=some v:=λi v e=>by
  rw[World.var?_cell hg hv];simpa using e
 obtain⟨_,_,_,O2⟩:=Z9z (P:=Tryz.prog) (t:=193) (by kernel_rfl);obtain⟨_,_,_,O3⟩:=Z9z (P:=Tryz.prog) (t:=194) (by kernel_rfl);intro i hi;apply cell;obtain rfl|rfl|rfl|rfl|rfl|rfl:i=0\/i=1\/i=2\/i=3\/i=4\/i=5:=by omega
 ·exact Z1U (n:=3) (u:=193) (b:=110) (r:=[111,99,107,47,97,114,114,111,119,46,109,101,97,115,117,114,101,115,36,49]) hl ⟨_,_,hd⟩ (by kernel_rfl) O2 (by kernel_rfl) (by kernel_rfl)
 ·exact Z1U (n:=3) (u:=194) (b:=110) (r:=[111,99,107,47,97,114,114,111,119,46,109,101,97,115,117,114,101,115,36,50]) hl ⟨_,_,hd⟩ (by kernel_rfl) O3 (by kernel_rfl) (by kernel_rfl)
 ·exact Z1U (n:=3) (u:=193) (b:=110) (r:=[111,99,107,47,97,114,114,111,119,46,109,101,97,115,117,114,101,115,36,51]) hl ⟨_,_,hd⟩ (by kernel_rfl) O2 (by kernel_rfl) (by kernel_rfl)
 ·exact Z1U (n:=3) (u:=194) (b:=110) (r:=[111,99,107,47,97,114,114,111,119,46,109,101,97,115,117,114,101,115,36,52]) hl ⟨_,_,hd⟩ (by kernel_rfl) O3 (by kernel_rfl) (by kernel_rfl)
 ·exact Z1U (n:=3) (u:=193) (b:=110) (r:=[111,99,107,47,97,114,114,111,119,46,109,101,97,115,117,114,101,115,36,53]) hl ⟨_,_,hd⟩ (by kernel_rfl) O2 (by kernel_rfl) (by kernel_rfl)
 ·exact Z1U (n:=3) (u:=194) (b:=110) (r:=[111,99,107,47,97,114,114,111,119,46,109,101,97,115,117,114,101,115,36,54]) hl ⟨_,_,hd⟩ (by kernel_rfl) O3 (by kernel_rfl) (by kernel_rfl)
end Go.Proofs.Tryq
end
