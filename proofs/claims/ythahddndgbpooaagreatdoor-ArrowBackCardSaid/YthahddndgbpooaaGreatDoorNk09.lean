import Derived.Test.YthahddndgbpooaaGreatDoorNkA
import Derived.Test.YthahddndgbpooaaGreatDoorNk08
import Derived.BigQuiet
import Derived.Deep.AppendLies
import Derived.Orders
import Derived.WalkSpells
set_option linter.all false
set_option maxRecDepth 100000
set_option maxHeartbeats 2000000
open Go
variable {a:Addr}{ops:Array Oper}{c:Array Value}{fn:Func}{r0 r1 r2 r3 x:Int}{l:List Int}{b bs i j n:Nat}{ℓ:Nat->Bool}{row:Option Nat}{P:Program}{p:Tmp}{t ty:TypeId}{o0 o1 o2 o3 o4 o5 v:Value}{w w' w'':World}
namespace Go.Proofs.Tryq
open Go Go.Nk Go.RowKit
def Zv(a:Int):Int:=if okN a 90 then 0 else 1
theorem Z3x(b:Nat)(at':Int)(w:World)(hb:w.cell? ⟨b,0,none⟩=some (.int .i64 at')):Calls prog 112 #[.pointer (some ⟨b,0,none⟩)] w λe w'=>e= .returned (.int .i64 (Zv at'))/\Ext w w':=by
 go_enter fk Tryz.func112,Tryz.ntmps112;go_wp2_with (first|(go_at_call 113;refine(Z0M _ _).mono ?_;rintro e w2 ⟨rfl,rfl⟩)|(go_at_call 64;refine(Z1a _ _ _).mono ?_;rintro e w2 ⟨rfl,rfl⟩))
 all_goals
  go_ret;refine⟨Z10 ?_,Ext.rfl' _⟩;simp only[Zv,okN];simp_all
  try omega
theorem ZcS(at':Int)(w:World):Calls prog 68 #[at'] w λe w'=>e= .returned (.func (.func 112) #[] #[.pointer (some ⟨w.heap.size,0,none⟩)])/\w'=w.alloc (.cells #[at'] 3):=by
 go_enter fk Tryz.func68,Tryz.ntmps68;go_wp2;go_ret;exact⟨rfl,rfl⟩
theorem ZcT(r0 r1 r2 r3:Int)(base:Option Addr)(n cap:Nat)(S:List Rs)(w:World)(A1:S.length=n)(hS:RawS w base S)(b:Nat)(hb:w.heap[b]? =some (.cells #[r0,r1,r2,r3,.slice base n cap] 31)):
 Calls prog 62 #[.pointer (some ⟨b,0,none⟩)] w λe w'=>e= .returned (.int .i64 (ZC r0 r1 r2 r3 S))/\Ext w w':=by
 have B3:=Z0U r0 r1 r2 r3 base n cap S w A1 hS;simp only[Zh] at B3;have q0:=Z0 hb 0;have q1:=Z0 hb 1;have q2:=Z0 hb 2;have q3:=Z0 hb 3;have q4:=Z0 hb 4;simp only[YC,YA,YB] at q0 q1 q2 q3 q4;go_enter fk Tryz.func62,Tryz.ntmps62;go_wp2_with (first|(go_at_call 43;refine B3.mono ?_;rintro e w2 ⟨rfl,A4⟩));go_ret;exact⟨rfl,A4⟩
theorem ZcU(r0 r1 r2 r3:Int)(base:Option Addr)(n cap:Nat)(S:List Rs)(w:World)(A1:S.length=n)(hS:RawS w base S)(b:Nat)(hb:w.heap[b]? =some (.cells #[r0,r1,r2,r3,.slice base n cap] 31)):
 Calls prog 108 #[.pointer (some ⟨b,0,none⟩)] w λe w'=>e= .returned (.int .i64 (ZC r0 r1 r2 r3 S))/\Ext w w':=by
 have B3:=Z0U r0 r1 r2 r3 base n cap S w A1 hS;simp only[Zh] at B3;have q0:=Z0 hb 0;have q1:=Z0 hb 1;have q2:=Z0 hb 2;have q3:=Z0 hb 3;have q4:=Z0 hb 4;simp only[YC,YA,YB] at q0 q1 q2 q3 q4;go_enter fk Tryz.func108,Tryz.ntmps108;go_wp2_with (first|(go_at_call 43;refine B3.mono ?_;rintro e w2 ⟨rfl,A4⟩));go_ret;exact⟨rfl,A4⟩
def Z6r(n:Nat)(k:Int):Int:=if 0<=k/\k<n then 0 else 6
theorem ZcV(r0 r1 r2 r3:Int)(base:Option Addr)(n cap:Nat)(hn:n<=20)(w:World)(b:Nat)(hb:w.heap[b]? =some (.cells #[r0,r1,r2,r3,.slice base n cap] 31))(bk:Nat)(k:Int)(hk:w.cell? ⟨bk,0,none⟩=some (.int .i64 k)):
 Calls prog 63 #[.pointer (some ⟨bk,0,none⟩),.pointer (some ⟨b,0,none⟩)] w λe w'=>e= .returned (.int .i64 (Z6r n k))/\Ext w w':=by
 have V5:wrap64 ((n:Int) - 1)=(n:Int) - 1:=by unfold wrap64;omega
 have q0:=Z0 hb 0;have q1:=Z0 hb 1;have q2:=Z0 hb 2;have q3:=Z0 hb 3;have q4:=Z0 hb 4;simp only[YC,YA,YB] at q0 q1 q2 q3 q4;go_enter fk Tryz.func63,Tryz.ntmps63;go_wp2_with (first|(go_at_call 65;refine(Z09 _ _ _ _).mono ?_;rintro e w2 ⟨rfl,rfl⟩)|(go_at_call 64;refine(Z1a _ _ _).mono ?_;rintro e w2 ⟨rfl,rfl⟩))
 all_goals
  go_ret;refine⟨Z10 ?_,Ext.rfl' _⟩;simp only[Z6r];simp_all
  try omega
def ZdW(n:Nat):Int:=if n=0 then 9 else 0
theorem ZcW(r0 r1 r2 r3:Int)(base:Option Addr)(n cap:Nat)(w:World)(b:Nat)(hb:w.heap[b]? =some (.cells #[r0,r1,r2,r3,.slice base n cap] 31)):
 Calls prog 109 #[.pointer (some ⟨b,0,none⟩)] w λe w'=>e= .returned (.int .i64 (ZdW n))/\Ext w w':=by
 have q0:=Z0 hb 0;have q1:=Z0 hb 1;have q2:=Z0 hb 2;have q3:=Z0 hb 3;have q4:=Z0 hb 4;simp only[YC,YA,YB] at q0 q1 q2 q3 q4;go_enter fk Tryz.func109,Tryz.ntmps109;go_wp2_with (first|(go_at_call 64;refine(Z1a _ _ _).mono ?_;rintro e w2 ⟨rfl,rfl⟩))
 all_goals
  go_ret;refine⟨Z10 ?_,Ext.rfl' _⟩;simp only[ZdW];simp_all
  try omega
end Go.Proofs.Tryq
section
namespace Go.Proofs.Tryq
open Go Go.Nk Go.RowKit
structure ExtB(bs:Nat)(w w':World):Prop where
 size:w.heap.size<=w'.heap.size
 old:∀b,b<w.heap.size->b≠bs->w'.heap[b]? =w.heap[b]?
 tape:w'.tape=w.tape
 os:w'.os=w.os
 output:w'.output=w.output
namespace ExtB
theorem of(h:Ext w w'):ExtB bs w w':=⟨h.size,λb hb _=>h.old b hb,h.tape,h.os,h.output⟩
theorem trans(h:ExtB bs w w')(h':ExtB bs w' w''):ExtB bs w w'':=⟨XD h.size h'.size,λb hb hn=>(h'.old b (YS hb h.size) hn).trans (h.old b hb hn),h'.tape.trans h.tape,h'.os.trans h.os,h'.output.trans h.output⟩
theorem set(h:ExtB bs w w')(i:Nat)(v:Value):ExtB bs w (w'.setCell ⟨bs,i,none⟩ v):=by
 have hA:=VI w' ⟨bs,i,none⟩ v;exact⟨by rw[hA.size];exact h.size,λb hb hn=>(hA.block b hn).trans (h.old b hb hn),hA.tape.trans h.tape,hA.os.trans h.os,hA.output.trans h.output⟩
theorem ext(h:ExtB bs w w')(hb:w.heap.size<=bs):Ext w w':=⟨h.size,λb hb'=>h.old b hb' (by omega),h.tape,h.os,h.output⟩
theorem get(h:ExtB bs w w'){b:Nat}{o:Obj}(hn:b≠bs)(hb:w.heap[b]? =some o):w'.heap[b]? =some o:=(h.old b (YF.1 hb).1 hn).trans hb
theorem cellS(h:ExtB bs w w'){a:Addr}{v:Value}(hn:a.block≠bs)(hc:w.cell? a=some v):w'.cell? a=some v:=by
 have A3:a.block<w.heap.size:=by
  unfold World.cell? at hc;split at hc
  ·rename_i hh;exact(YF.1 hh).1
  ·cases hc
 simp only[World.cell?,h.old _ A3 hn];exact hc
theorem before(h':ExtB bs w' w'')(h:Ext w w')(hb:w.heap.size<=bs):Ext w w'':=((of h:ExtB bs w w').trans h').ext hb
theorem cv(h:ExtB bs w w'){B n:Nat}{p:Nat->Nat}{C:Nat->Nat->Int×Int}(hC:Cv w B n p C)(hB:B≠bs)(hp:∀i,p i≠bs):Cv w' B n p C:=
 ⟨λi hi=>h.cellS hB (hC.ptr i hi),λi d hi hd=>h.cellS (hp i) (hC.lo i d hi hd),λi d hi hd=>h.cellS (hp i) (hC.hi i d hi hd)⟩
theorem most(h:ExtB bs w w')(hm:Most w)(h1:1≠bs):Most w':=⟨h.cellS h1 hm.m0,h.cellS h1 hm.m1⟩
end ExtB
theorem Z0K(h:w.heap[bs]? =some (.cells #[o0,o1,o2,o3,o4,o5] t))(v0 v1 v2 v3 v4 v5:Value):
 ((((((w.setCell ⟨bs,0,none⟩ v0).setCell ⟨bs,1,none⟩ v1).setCell ⟨bs,2,none⟩ v2).setCell ⟨bs,3,none⟩ v3).setCell ⟨bs,4,none⟩ v4).setCell ⟨bs,5,none⟩ v5).heap[bs]? =some (.cells #[v0,v1,v2,v3,v4,v5] t)/\
 ExtB bs w ((((((w.setCell ⟨bs,0,none⟩ v0).setCell ⟨bs,1,none⟩ v1).setCell ⟨bs,2,none⟩ v2).setCell ⟨bs,3,none⟩ v3).setCell ⟨bs,4,none⟩ v4).setCell ⟨bs,5,none⟩ v5):=
 ⟨Zb (Zb (Zb (Zb (Zb (Zb h v0) v1) v2) v3) v4) v5,((((((ExtB.of (Ext.rfl' w)).set _ _).set _ _).set _ _).set _ _).set _ _).set _ _⟩
def ZdX(b:Bool)(f:Int):Int:=if b then f else 0
theorem Zbi(b:Bool)(f:Int)(w:World):Calls prog 64 #[.bool b,f] w λe w'=>e= .returned (.int .i64 (ZdX b f))/\w'=w:=Z1a b f w
def Z1r(r0 r1 r2 r3:Int)(S:List Sh):Int:=if Zz (cvS r0 r1 r2 r3 S) (2 ^ S.length - 1) S.length then 0 else 10
theorem ZcX(r0 r1 r2 r3:Int)(base:Option Addr)(cap:Nat)(w:World)(S:List Sh)(n:Nat)(A1:S.length=n)(hn:n<=8)(hS:Shots w base S)(b bs:Nat)(hb:w.heap[b]? =some (.cells #[r0,r1,r2,r3,.slice base n cap] 31))
 (hm:Most w)(h1:bs≠1)(a0 a1 a2 a3 a4 a5:Value)(Dx:w.heap[bs]? =some (.cells #[a0,a1,a2,a3,a4,a5] 136)):
  Calls prog 110 #[.pointer (some ⟨b,0,none⟩),.pointer (some ⟨bs,0,none⟩)] w λe w'=>e= .returned (.int .i64 (Z1r r0 r1 r2 r3 S))/\ExtB bs w w'/\∃B p,w'.heap[bs]? =some (.cells #[r0,r1,r2,r3,.slice base n cap,.slice (some ⟨B,0,none⟩) n n] 136)/\Cv w' B n p (cvS r0 r1 r2 r3 S)/\w.heap.size<=B/\∀i,w.heap.size<=p i:=by
 have Ki:=Z2c r0 r1 r2 r3 base cap w S n A1 hn hS;simp only[Zh] at Ki;have q0:=Z0 hb 0;have q1:=Z0 hb 1;have q2:=Z0 hb 2;have q3:=Z0 hb 3;have q4:=Z0 hb 4;simp only[YC,YA,YB] at q0 q1 q2 q3 q4;have Nu:(0:Int)<=2 ^ n - 1/\(2:Int) ^ n - 1<256:=by
  obtain rfl|rfl|rfl|rfl|rfl|rfl|rfl|rfl|rfl:n=0\/n=1\/n=2\/n=3\/n=4\/n=5\/n=6\/n=7\/n=8:=by omega
  all_goals decide
 have F4:=λB p w hm hC=>Z7j r0 r1 r2 r3 (.slice base n cap) B n (2 ^ n - 1) p (cvS r0 r1 r2 r3 S) hn Nu w hm hC
 have Bb:=λv w=>Z08 r0 r1 r2 r3 base n cap v hn w
 go_enter fk Tryz.func110,Tryz.ntmps110;go_wp2_with (first|(go_at_call 74;refine Ki.mono ?_;rintro e w2 ⟨B,p,rfl,A4,hC,hB,hp⟩;have D2:=A4.get Dx;have z0:=Z8 D2 0;have z1:=Z8 D2 1;have z2:=Z8 D2 2;have z3:=Z8 D2 3;have z4:=Z8 D2 4;have z5:=Z8 D2 5;have y0:=Z0 D2 0;have y1:=Z0 D2 1;have y2:=Z0 D2 2;have y3:=Z0 D2 3;have y4:=Z0 D2 4;have y5:=Z0 D2 5;simp only[YC,YA,YB] at y0 y1 y2 y3 y4 y5));have A3:=Z5 Dx;have hX:ExtB bs w ((((((w2.setCell {block:=bs,off:=0} (Value.int IntKind.i64 r0)).setCell {block:=bs,off:=1} (Value.int IntKind.i64 r1)).setCell {block:=bs,off:=2} (Value.int IntKind.i64 r2)).setCell {block:=bs,off:=3} (Value.int IntKind.i64 r3)).setCell {block:=bs,off:=4} (Value.slice base n cap)).setCell {block:=bs,off:=5} (Value.slice (some {block:=B,off:=0}) n n)):=((((((ExtB.of A4).set _ _).set _ _).set _ _).set _ _).set _ _).set _ _;have E4:=(((((hC.set (a:=⟨bs,0,none⟩) (by simp;omega) (λi=>by have:=hp i;simp;omega) (.int .i64 r0)).set (a:=⟨bs,1,none⟩) (by simp;omega) (λi=>by have:=hp i;simp;omega) (.int .i64 r1)).set (a:=⟨bs,2,none⟩) (by simp;omega) (λi=>by have:=hp i;simp;omega) (.int .i64 r2)).set (a:=⟨bs,3,none⟩) (by simp;omega) (λi=>by have:=hp i;simp;omega) (.int .i64 r3)).set (a:=⟨bs,4,none⟩) (by simp;omega) (λi=>by have:=hp i;simp;omega) (.slice base n cap)).set (a:=⟨bs,5,none⟩) (by simp;omega) (λi=>by have:=hp i;simp;omega) (.slice (some ⟨B,0,none⟩) n n)
 have C2:=Zb (Zb (Zb (Zb (Zb (Zb D2 (i:=0) (.int .i64 r0)) (i:=1) (.int .i64 r1)) (i:=2) (.int .i64 r2)) (i:=3) (.int .i64 r3)) (i:=4) (.slice base n cap)) (i:=5) (.slice (some ⟨B,0,none⟩) n n);have Ea:_=some (Obj.cells #[r0,r1,r2,r3,.slice base n cap,.slice (some ⟨B,0,none⟩) n n] 136):=C2;clear C2 z0 z1 z2 z3 z4 z5 y0 y1 y2 y3 y4 y5 hC q0 q1 q2 q3 q4 D2;generalize World.setCell _ ⟨bs,5,none⟩ _=w3 at hX E4 Ea⊢;have Nv:Most w3:=⟨hX.cellS (by simp;omega) hm.m0,hX.cellS (by simp;omega) hm.m1⟩;have y0:=Z0 Ea 0;have y1:=Z0 Ea 1;have y2:=Z0 Ea 2;have y3:=Z0 Ea 3;have y4:=Z0 Ea 4;have y5:=Z0 Ea 5;simp only[YC,YA,YB] at y0 y1 y2 y3 y4 y5
 go_region_with (
  first|(go_at_call 70;refine(Bb _ _).mono ?_;rintro e w4 ⟨rfl,Ak⟩;have B4:=(Ext.rfl' w3).drew.trans Ak;have x0:=B4.cellS y0;have x1:=B4.cellS y1;have x2:=B4.cellS y2;have x3:=B4.cellS y3;have x4:=B4.cellS y4;have x5:=B4.cellS y5)|(go_at_call 111;refine(F4 _ _ _ (Nv.ext B4) (E4.ext B4)).mono ?_;rintro e w5 ⟨rfl,Bg⟩)|(go_at_call 64;refine(Zbi _ _ _).mono ?_;rintro e w6 ⟨rfl,rfl⟩))
 all_goals
  go_wp2;have E5:=B4.trans Bg;go_ret;refine⟨Z10 ?_,hX.trans (ExtB.of E5),B,p,E5.get Ea,E4.ext E5,hB,hp⟩;subst A1;simp only[ZdX,Z1r];cases Zz (cvS r0 r1 r2 r3 S) (2 ^ S.length - 1) S.length
  ·rfl
  ·rfl
end Go.Proofs.Tryq
end
namespace Go.Proofs.Tryq
open Go Go.Nk Go.RowKit
theorem u112:prog.underlying 186=some (.slice 129):=(underlying_eq 186).trans Tryz.underlying186
theorem i81:prog.info? 129=some Tryz.t129:=by kernel_rfl
theorem Ext.grown(h:Ext w w')(hg:w'.grownBy w'' row)(Af:∀k,row=some k->w.heap.size<=k):Ext w w'':=
 ⟨XD h.size hg.size,λb hb=>(hg.block b (YS hb h.size) (λe=>by have:=Af b e.symm;omega)).trans (h.old b hb),hg.tape.trans h.tape,hg.os.trans h.os,hg.output.trans h.output⟩
theorem Z0m(hg:w.grownBy w' row){b:Nat}{o:Obj}(hn:some b≠row)(hb:w.heap[b]? =some o):w'.heap[b]? =some o:=
 (hg.block b (Z5 hb) hn).trans hb
theorem Z0c(b j:Nat):(⟨b,0,none⟩:Addr).add j=⟨b,j,none⟩:=by unfold Addr.add;split<;>simp_all
theorem Z6s(w:World)(base:Nat)(e:TypeId)(cs:Array Value)(n H:Nat)(hH:w.heap.size=H)(hb:base<=H)(hn:cs.size=n)(hm:n<=maxLen):(w.alloc (.cells cs e)).ownsRow base e 1 (.slice (some ⟨H,0,none⟩) n n) n cs.toList:=by
 subst hH;refine⟨by simp[hn],.inr ⟨w.heap.size,n,cs,rfl,hb,by rw[Z3,YZ rfl],XB _,hm,by omega,?_⟩⟩;rw[VT];simp[hn]
theorem Z1T(h:w.heap[b]? =some (.cells c t))(hc:c[i]? =some v):Ext w (w.setCell ⟨b,i,none⟩ v)/\(w.setCell ⟨b,i,none⟩ v).heap[b]? =some (.cells c t):=by
 have e:c.setIfInBounds i v=c:=by
  apply Array.ext_getElem?;intro j;rw[Array.getElem?_setIfInBounds];by_cases Kc:i=j
  ·subst Kc;have A3:=(YF.1 hc).1;rw[YZ rfl,YZ A3,hc]
  ·rw[XA Kc]
 have hg:=Zb (i:=i) h v;rw[e] at hg;have hA:=VI w ⟨b,i,none⟩ v;refine⟨⟨by rw[hA.size];exact XB _,λk hk=> ?_,hA.tape,hA.os,hA.output⟩,hg⟩;by_cases hkb:k=b
 ·subst hkb;rw[hg,h]
 ·exact set_ne hkb v
theorem Z01{t:Tmp}(h:fn.results= #[.cell p ty,.tmp t])(tmps:Array Value)(P:Program)(w:World):
 (results fn tmps).run P w=(((asAddr (tmps.getD p undef)).run P w).andThen λa w₁=>(loadVar ty a).run P w₁).andThen λv w₂=> .ok (.tuple #[v,tmps.getD t undef]) w₂:=by
 simp only[results,h];simp[UM,Result.andThen];cases (asAddr (tmps[p]?.getD undef)).run P w with
 |ok a w1=>
  simp
 |halt x w2=>simp
def Ze(s:Rs):Sh:=⟨s.a.toNat,s.m,s.M,s.wi,s.li⟩
theorem Z0i{S:List Rs}(h:ZC r0 r1 r2 r3 S=0):Z5y r0 r1 r2 r3=0/\S.length<=8/\∀s∈S,okS s=true:=by
 by_cases hr:Z5y r0 r1 r2 r3=0
 ·refine⟨hr,?_⟩;simp only[ZC,firstV,YZ hr] at h;have hs:Z23 S=0:=by
   by_cases hs:Z23 S=0
   ·exact hs
   ·rw[XA hs] at h;exact h
  unfold Z23 at hs;split at hs
  ·omega
  ·split at hs
   ·rename_i h8 ha;exact⟨by omega,YL.1 ha⟩
   ·omega
 ·simp only[ZC,firstV,XA hr] at h;exact absurd h hr
theorem Z4J{base:Option Addr}{S:List Rs}(h:RawS w base S)(ha:∀s∈S,okS s=true):Shots w base (S.map Ze):=by
 intro i s hi;rw[List.getElem?_map] at hi;obtain⟨x,hx,rfl⟩:=XT.1 hi;obtain⟨b,off,h1,h2,c0,c1,c2,c3,c4⟩:=h i x hx;have Bq:=ha x (YQ hx);have hr:0<=x.a/\x.a<=90:=by
  simp[okS,okN] at Bq;omega
 refine⟨b,off,h1,h2,by simp only[Ze];omega,?_,c1,c2,c3,c4⟩;simp only[Ze];rw[Int.toNat_of_nonneg hr.1];exact c0
def Zy(r0 r1 r2 r3:Int)(S:List Rs)(rs:List Int):List Int:=ZC r0 r1 r2 r3 S::(rs++[ZdW S.length,Z1r r0 r1 r2 r3 (S.map Ze)])
abbrev Fn3:=FuncId×Array Value×Array Value
def fn3(x:Fn3):Value:= .func (.func x.1) x.2.1 x.2.2
def Z5z(b bs:Nat)(L:List Fn3):List Fn3:=(108,#[],#[.pointer (some ⟨b,0,none⟩)])::(L++[(109,#[],#[.pointer (some ⟨b,0,none⟩)]),(110,#[],#[.pointer (some ⟨b,0,none⟩),.pointer (some ⟨bs,0,none⟩)])])
theorem Z9u(hl:l.length=n){v:Int}(h:(v=0/\∀i,i<n->l.getD i 0=0)\/∃i,i<n/\l.getD i 0≠0/\v=l.getD i 0/\∀j,j<i->l.getD j 0=0):v=firstV l:=by
 rcases h with⟨rfl,hz⟩|⟨i,hi,A9,rfl,hz⟩
 ·rw[firstV_zero];intro i x hx;have:=hz i (by have:=(YI.1 hx).1;omega);rw[List.getD_eq_getElem?_getD,hx] at this;exact this
 ·rw[firstV_at (l:=l) (i:=i) (x:=l.getD i 0) ?_ A9]
  ·intro j y hj hy;have:=hz j hj;rw[List.getD_eq_getElem?_getD,hy] at this;exact this
  ·rw[List.getD_eq_getElem?_getD,YH (by omega)];rfl
theorem Z6t(h:firstV (x::l)=0):x=0:=by
 by_cases hx:x=0
 ·exact hx
 ·rw[firstV,XA hx] at h;exact h
theorem Z6u(r0 r1 r2 r3:Int)(base:Option Addr)(n cap g cap2 bc bs m:Nat)(w0 w2:World)(hm:m<=4)(L:List Fn3)(rs:List Int)(hL:L.length=m)(G5:rs.length=m)
 (Wy:∀x∈L,∀args w',(callFunc x.1 args).run prog w'= .ok (.enter x.1 args) w')
 (Wz:∀(j:Nat)(x:Fn3)(r:Int),L[j]? =some x->rs[j]? =some r->∀w',Ext w0 w'->Calls prog x.1 (x.2.1++x.2.2) w' λe w''=>e= .returned (.int .i64 r)/\Ext w' w'')
 (S:List Rs)(A1:S.length=n)(hS:RawS w0 base S)(Eb:Most w0)(hE:Ext w0 w2)(Dx:w0.heap.size<=bs)(Pm:bc≠bs)
 (hc:w2.heap[bc]? =some (.cells #[r0,r1,r2,r3,.slice base n cap] 31))
 (k0 k1 k2 k3:Int)(b4:Option Addr)(n4 c4:Nat)(b5:Option Addr)(n5 c5:Nat)(hs:w2.heap[bs]? =some (.cells #[.int .i64 k0,.int .i64 k1,.int .i64 k2,.int .i64 k3,.slice b4 n4 c4,.slice b5 n5 c5] 136))
 (hx:∀(j:Nat)(x:Fn3),(Z5z bc bs L)[j]? =some x->w2.cell? ⟨g,j,none⟩=some (fn3 x)):
 Calls prog 61 #[.slice (some ⟨g,0,none⟩) (1+m+2) cap2] w2 λe w'=>∃k0 k1 k2 k3 b4 n4 c4 b5 n5 c5,e= .returned (.int .i64 (firstV (Zy r0 r1 r2 r3 S rs)))/\Ext w0 w'/\w'.heap[bs]? =some (.cells #[.int .i64 k0,.int .i64 k1,.int .i64 k2,.int .i64 k3,.slice b4 n4 c4,.slice b5 n5 c5] 136)/\
  (firstV (Zy r0 r1 r2 r3 S rs)=0->∃B p,k0=r0/\k1=r1/\k2=r2/\k3=r3/\b4=base/\n4=n/\c4=cap/\b5=some ⟨B,0,none⟩/\n5=n/\c5=n/\Cv w' B n p (cvS r0 r1 r2 r3 (S.map Ze))/\w0.heap.size<=B/\∀i,w0.heap.size<=p i):=by
 have Lf:(Z5z bc bs L).length=1+m+2:=by simp[Z5z,hL];omega
 have Gz:(Zy r0 r1 r2 r3 S rs).length=1+m+2:=by simp[Zy,G5];omega
 have hat:∀i,i<1+m+2->∃x,(Z5z bc bs L)[i]? =some x/\(Z5z bc bs L).getD i (0,#[],#[])=x:=λi hi=>⟨_,YH (by omega),by rw[List.getD_eq_getElem?_getD,YH (by omega)];rfl⟩
 have h1:1<w0.heap.size:=by
  have:=Eb.m0;unfold World.cell? at this;split at this
  ·rename_i hh;exact Z5 hh
  ·cases this
 let SX:World->Prop:=λw'=>∃B p,w'.heap[bs]? =some (.cells #[r0,r1,r2,r3,.slice base n cap,.slice (some ⟨B,0,none⟩) n n] 136)/\Cv w' B n p (cvS r0 r1 r2 r3 (S.map Ze))/\w0.heap.size<=B/\∀i,w0.heap.size<=p i
 let I:Nat->World->Prop:=λi w'=>Ext w0 w'/\(i<=m+2->Ext w2 w')/\(1<=i->ZC r0 r1 r2 r3 S=0)/\(i=1+m+2->SX w')
 let J:World->Prop:=λw'=>Ext w0 w'/\∃k0 k1 k2 k3 b4 n4 c4 b5 n5 c5,w'.heap[bs]? =some (.cells #[.int .i64 k0,.int .i64 k1,.int .i64 k2,.int .i64 k3,.slice b4 n4 c4,.slice b5 n5 c5] 136)
 refine(Z5w g (1+m+2) cap2 (by omega) (λi=>((Z5z bc bs L).getD i (0,#[],#[])).1) (λi=>((Z5z bc bs L).getD i (0,#[],#[])).2.1) (λi=>((Z5z bc bs L).getD i (0,#[],#[])).2.2) I J (λi=>(Zy r0 r1 r2 r3 S rs).getD i 0) w2 ?_ ?_ ?_ ⟨hE,λ_=>Ext.rfl' w2,λh=>by omega,λh=>by omega⟩).mono ?_
 ·rintro i hi w' ⟨-,A4,-⟩;obtain⟨x,C4,Aw⟩:=hat i hi;rw[Aw];exact(A4 (by omega)).cellS (hx i x C4)
 ·intro i hi args w';obtain⟨x,C4,Aw⟩:=hat i hi;simp only[Aw];have Ca:=YQ C4;simp only[Z5z,XE,VB,XL,VO] at Ca;rcases Ca with rfl|Ca|rfl|rfl
  ·simp[go_sem]
  ·exact Wy x Ca args w'
  ·simp[go_sem]
  ·simp[go_sem]
 ·rintro i hi w' ⟨Be,X0,G6,-⟩;have A4:=X0 (by omega);have hc':=A4.get hc;have hs':=A4.get hs;by_cases Cj:i=0
  ·subst Cj;show Calls prog 108 #[.pointer (some ⟨bc,0,none⟩)] w' _;refine(ZcU r0 r1 r2 r3 base n cap S w' A1 (hS.ext Be) bc hc').mono ?_;rintro e w'' ⟨rfl,hX⟩;exact⟨rfl,λhr=>⟨Be.trans hX,λ_=>A4.trans hX,λ_=>hr,λh=>by omega⟩,λ_=>⟨Be.trans hX,_,_,_,_,_,_,_,_,_,_,hX.get hs'⟩⟩
  ·have Lg:=G6 (by omega);by_cases him:i<=m
   ·obtain⟨k,rfl⟩:∃k,i=k+1:=⟨i - 1,by omega⟩;have hk:L[k]? =some L[k]:=YH (by omega);have hr:rs[k]? =some rs[k]:=YH (by omega);have e1:(Z5z bc bs L).getD (k+1) (0,#[],#[])=L[k]:=by
     rw[List.getD_eq_getElem?_getD,Z5z,YB,List.getElem?_append_left (by omega),hk];rfl
    have e2:(Zy r0 r1 r2 r3 S rs).getD (k+1) 0=rs[k]:=by
     rw[List.getD_eq_getElem?_getD,Zy,YB,List.getElem?_append_left (by omega),hr];rfl
    simp only[e1,e2];refine(Wz k _ _ hk hr w' Be).mono ?_;rintro e w'' ⟨rfl,hX⟩;exact⟨rfl,λhr=>⟨Be.trans hX,λ_=>A4.trans hX,λ_=>Lg,λh=>by omega⟩,λ_=>⟨Be.trans hX,_,_,_,_,_,_,_,_,_,_,hX.get hs'⟩⟩
   ·have eA:∀j,(Z5z bc bs L).getD (m+1+j) (0,#[],#[])=[((109:FuncId),(#[]:Array Value),#[Value.pointer (some ⟨bc,0,none⟩)]),(110,#[],#[.pointer (some ⟨bc,0,none⟩),.pointer (some ⟨bs,0,none⟩)])].getD j (0,#[],#[]):=by
     intro j;rw[List.getD_eq_getElem?_getD,Z5z,show m+1+j=m+j+1 by omega,YB,List.getElem?_append_right (by omega),List.getD_eq_getElem?_getD];congr 2;omega
    have eR:∀j,(Zy r0 r1 r2 r3 S rs).getD (m+1+j) 0=[ZdW S.length,Z1r r0 r1 r2 r3 (S.map Ze)].getD j 0:=by
     intro j;rw[List.getD_eq_getElem?_getD,Zy,show m+1+j=m+j+1 by omega,YB,List.getElem?_append_right (by omega),List.getD_eq_getElem?_getD];congr 2;omega
    by_cases H2:i=m+1
    ·subst H2;have e1:=eA 0;have e2:=eR 0;simp only[RV,List.getD_cons_zero] at e1 e2;simp only[e1,e2];show Calls prog 109 #[.pointer (some ⟨bc,0,none⟩)] w' _;rw[A1];refine(ZcW r0 r1 r2 r3 base n cap w' bc hc').mono ?_;rintro e w'' ⟨rfl,hX⟩;exact⟨rfl,λhr=>⟨Be.trans hX,λ_=>A4.trans hX,λ_=>Lg,λh=>by omega⟩,λ_=>⟨Be.trans hX,_,_,_,_,_,_,_,_,_,_,hX.get hs'⟩⟩
    ·obtain rfl:i=m+1+1:=(by omega);have e1:=eA 1;have e2:=eR 1;simp only[List.getD_cons_zero,List.getD_cons_succ] at e1 e2;simp only[e1,e2];show Calls prog 110 #[.pointer (some ⟨bc,0,none⟩),.pointer (some ⟨bs,0,none⟩)] w' _;obtain⟨_,h8,ha⟩:=Z0i Lg;refine(ZcX r0 r1 r2 r3 base cap w' (S.map Ze) n (by simp[A1]) (by omega) (Z4J (hS.ext Be) ha) bc bs hc' (Eb.ext Be) (by omega) _ _ _ _ _ _ hs').mono ?_;rintro e w'' ⟨rfl,hX,B,p,hB,hC,Pr,R6⟩;have hX':=hX.before Be Dx;exact⟨rfl,λhr=>⟨hX',λh=>by omega,λ_=>Lg,λ_=>⟨B,p,hB,hC,XD Be.size Pr,λi=>XD Be.size (R6 i)⟩⟩,λ_=>⟨hX',_,_,_,_,_,_,_,_,_,_,hB⟩⟩
 ·rintro e w' ⟨v,rfl,h⟩;have hv:v=firstV (Zy r0 r1 r2 r3 S rs):=by
   refine Z9u Gz ?_;rcases h with⟨h1,_,h3⟩|⟨i,h1,h2,h3,h4,_⟩
   ·exact .inl ⟨h1,h3⟩
   ·exact .inr ⟨i,h1,h2,h3,h4⟩
  subst hv;rcases h with⟨_,⟨Be,_,_,hSX⟩,_⟩|⟨i,_,A9,hv,_,Be,b0,b1,b2,b3,q1,q2,q3,q4,q5,q6,hb⟩
  ·obtain⟨B,p,hB,hC,Pr,R6⟩:=hSX rfl;exact⟨_,_,_,_,_,_,_,_,_,_,rfl,Be,hB,λ_=>⟨B,p,rfl,rfl,rfl,rfl,rfl,rfl,rfl,rfl,rfl,rfl,hC,Pr,R6⟩⟩
  ·exact⟨_,_,_,_,_,_,_,_,_,_,rfl,Be,hb,λh0=>absurd (hv.symm.trans h0) A9⟩
theorem Z4K(r0 r1 r2 r3:Int)(base:Option Addr)(n cap:Nat)(w:World)(m:Nat)(B:Nat)(hm:0<m/\m<=4)(L:List Fn3)(rs:List Int)(hL:L.length=m)(G5:rs.length=m)
 (B3:∀(j:Nat)(x:Fn3),L[j]? =some x->w.cell? ⟨B,j,none⟩=some (fn3 x))
 (Wy:∀x∈L,∀args w',(callFunc x.1 args).run prog w'= .ok (.enter x.1 args) w')
 (Wz:∀(j:Nat)(x:Fn3)(r:Int),L[j]? =some x->rs[j]? =some r->∀w',Ext w w'->Calls prog x.1 (x.2.1++x.2.2) w' λe w''=>e= .returned (.int .i64 r)/\Ext w' w'')
 (S:List Rs)(A1:S.length=n)(hS:RawS w base S)(Eb:Most w):
 Calls prog 67 #[.agg #[r0,r1,r2,r3,.slice base n cap],.slice (some ⟨B,0,none⟩) m m] w λe w'=>∃k0 k1 k2 k3 b4 n4 c4 b5 n5 c5,e= .returned (.tuple #[.agg #[.int .i64 k0,.int .i64 k1,.int .i64 k2,.int .i64 k3,.slice b4 n4 c4,.slice b5 n5 c5],.int .i64 (firstV (Zy r0 r1 r2 r3 S rs))])/\Ext w w'/\
  (firstV (Zy r0 r1 r2 r3 S rs)=0->∃B p,k0=r0/\k1=r1/\k2=r2/\k3=r3/\b4=base/\n4=n/\c4=cap/\b5=some ⟨B,0,none⟩/\n5=n/\c5=n/\Cv w' B n p (cvS r0 r1 r2 r3 (S.map Ze))/\w.heap.size<=B/\∀i,w.heap.size<=p i):=by
 have V6:Tryz.t129.zero=some .nilFunc:=by kernel_rfl
 have hz1:Tryz.t129.size=1:=by kernel_rfl
 have Ph:Tryz.t129.bytes=8:=by kernel_rfl
 have Pr:B<w.heap.size:=by
  have:=B3 0 _ (YH (by omega));unfold World.cell? at this;split at this
  ·rename_i hh;exact Z5 hh
  ·cases this
 go_enter fk Tryz.func67,Tryz.ntmps67
 go_wp2_with (
  first
  |(at_builtin
    refine wpList_append_lies _ rfl _ _ _ rfl w.heap.size 129 Tryz.t129 .nilFunc 1 8 u112 i81 V6 hz1 Ph rfl (by omega) (.slice (some ⟨w.heap.size+1+1,0,none⟩) 1 1) 1 [.func (.func 108) #[] #[.pointer (some ⟨w.heap.size,0,none⟩)]] rfl (Z6s _ _ _ _ 1 _ (by simp) (by omega) rfl (by simp only[maxLen];omega)) ⟨B,0,none⟩ m m (L.map fn3) rfl (by simp;omega) (by
     intro j u hu;rw[Z0c];rw[List.getElem?_map] at hu;obtain⟨x,hx,rfl⟩:=XT.1 hu;exact((((Ext.rfl' w).alloc _).alloc _).alloc _).cellS (B3 j x hx)) (by intro u hu;obtain⟨x,_,rfl⟩:=VD.1 hu;rfl) (by omega) (by simp only[maxLen];omega) (by omega) (by simp;omega) (w.heap.size+1+1+1) (by simp) ?_
    intro g cap1 w1 Ac C0 hat A3;have Ab:Ext w w1:=((((Ext.rfl' w).alloc _).alloc _).alloc _).grown C0 (by intro k hk;simp only[Value.ownBlock,XJ] at hk;omega);have Fm:g=w.heap.size+1+1\/g=w.heap.size+1+1+1:=(by simpa[Value.ownBlock,eq_comm] using hat);have Ew:=Z0m C0 (b:=w.heap.size) (o:= .cells #[r0,r1,r2,r3,.slice base n cap] 31) (by simp[Value.ownBlock];omega) (by simp only[Z3,Z2];rw[XA (by omega),XA (by omega),YZ trivial]);have Dh:=Z0m C0 (b:=w.heap.size+1) (o:= .cells #[.int .i64 0,.int .i64 0,.int .i64 0,.int .i64 0,.slice none 0 0,.slice none 0 0] 136) (by simp[Value.ownBlock]) (by simp only[Z3,Z2];rw[XA (by omega),YZ trivial]);clear hat C0)
  |(at_builtin
    refine wpList_append_lies _ rfl _ _ _ rfl w.heap.size 129 Tryz.t129 .nilFunc 1 8 u112 i81 V6 hz1 Ph rfl (by omega) (.slice (some ⟨g,0,none⟩) (1+m) cap1) (1+m) _ rfl (Ac.alloc _) ⟨w1.heap.size,0,none⟩ 2 2 [.func (.func 109) #[] #[.pointer (some ⟨w.heap.size,0,none⟩)],.func (.func 110) #[] #[.pointer (some ⟨w.heap.size,0,none⟩),.pointer (some ⟨w.heap.size+1,0,none⟩)]] rfl rfl (World.news_of_block (by rw[Z3,YZ rfl])) (by intro u hu;simp at hu;rcases hu with rfl|rfl<;>rfl) (by omega) (by simp only[maxLen];omega) (by omega) (by have:=Ab.size;simp;omega) _ rfl ?_;intro g2 cap2 w2 Co F5 X1 E6)
  |(go_at_call 61
    have A4:Ext w w2:=(Ab.alloc _).grown F5 (by intro k hk;simp only[Value.ownBlock,XJ] at hk;omega);have Gv:=Ab.size;have E3:=Z0m F5 (b:=w.heap.size) (o:= .cells #[r0,r1,r2,r3,.slice base n cap] 31) (by simp[Value.ownBlock];omega) (by rw[Z3,XA (by have:=Z5 Ew;omega)];exact Ew);have Cn:=Z0m F5 (b:=w.heap.size+1) (o:= .cells #[.int .i64 0,.int .i64 0,.int .i64 0,.int .i64 0,.slice none 0 0,.slice none 0 0] 136) (by simp[Value.ownBlock];omega) (by rw[Z3,XA (by have:=Z5 Dh;omega)];exact Dh);have hx:∀(j:Nat)(x:Fn3),(Z5z w.heap.size (w.heap.size+1) L)[j]? =some x->w2.cell? ⟨g2,j,none⟩=some (fn3 x):=by
     intro j x hjx
     have:=Co.cells rfl j (fn3 x) (by
      rw[show∀a b c:List Value,a++b++c=(a++b)++c from λ_ _ _=>rfl];have e:(Z5z w.heap.size (w.heap.size+1) L).map fn3=[Value.func (Fn.func 108) #[] #[Value.pointer (some ⟨w.heap.size,0,none⟩)]]++L.map fn3++[Value.func (Fn.func 109) #[] #[Value.pointer (some ⟨w.heap.size,0,none⟩)],Value.func (Fn.func 110) #[] #[Value.pointer (some ⟨w.heap.size,0,none⟩),Value.pointer (some ⟨w.heap.size+1,0,none⟩)]]:=(by simp[Z5z,fn3]);have h2:((Z5z w.heap.size (w.heap.size+1) L).map fn3)[j]? =some (fn3 x):=(by rw[List.getElem?_map,hjx];rfl);rw[e] at h2;exact h2)
     rw[Z0c] at this;exact this
    clear Ac Co F5 X1 E6 Ew Dh;refine(Z6u r0 r1 r2 r3 base n cap g2 cap2 w.heap.size (w.heap.size+1) m w w2 hm.2 L rs hL G5 Wy Wz S A1 hS Eb A4 (by omega) (by omega) E3 _ _ _ _ _ _ _ _ _ _ Cn hx).mono ?_;rintro e w3 ⟨k0,k1,k2,k3,b4,n4,c4,b5,n5,c5,rfl,Ah,Cg,Au⟩;have x0:=Z0 Cg 0;have x1:=Z0 Cg 1;have x2:=Z0 Cg 2;have x3:=Z0 Cg 3;have x4:=Z0 Cg 4;have x5:=Z0 Cg 5;have z0:=Z8 Cg 0;have z1:=Z8 Cg 1;have z2:=Z8 Cg 2;have z3:=Z8 Cg 3;have z4:=Z8 Cg 4;have z5:=Z8 Cg 5;simp only[YC,YA,YB] at x0 x1 x2 x3 x4 x5))
 have t0:=Z1T (i:=0) (v:= .int .i64 k0) Cg rfl;have t1:=Z1T (i:=1) (v:= .int .i64 k1) t0.2 rfl;have t2:=Z1T (i:=2) (v:= .int .i64 k2) t1.2 rfl;have t3:=Z1T (i:=3) (v:= .int .i64 k3) t2.2 rfl;have t4:=Z1T (i:=4) (v:= .slice b4 n4 c4) t3.2 rfl;have t5:=Z1T (i:=5) (v:= .slice b5 n5 c5) t4.2 rfl;have Ak:=((((t0.1.trans t1.1).trans t2.1).trans t3.1).trans t4.1).trans t5.1;have F6:=t5.2;clear t0 t1 t2 t3 t4 t5 x0 x1 x2 x3 x4 x5 z0 z1 z2 z3 z4 z5;generalize World.setCell _ ⟨w.heap.size+1,5,none⟩ _=w4 at Ak F6⊢;refine VE (v:= .tuple #[.agg #[.int .i64 k0,.int .i64 k1,.int .i64 k2,.int .i64 k3,.slice b4 n4 c4,.slice b5 n5 c5],.int .i64 (firstV (Zy r0 r1 r2 r3 S rs))]) ((Z01 rfl _ _ _).trans ?_) rfl ⟨k0,k1,k2,k3,b4,n4,c4,b5,n5,c5,rfl,Ah.trans Ak,λh=> ?_⟩
 ·have x0:=Z0 F6 0;have x1:=Z0 F6 1;have x2:=Z0 F6 2;have x3:=Z0 F6 3;have x4:=Z0 F6 4;have x5:=Z0 F6 5;simp only[YC,YA,YB] at x0 x1 x2 x3 x4 x5;simp[go_sem,x0,x1,x2,x3,x4,x5]
 ·obtain⟨B,p,h0,h1,h2,h3,h4,h5,h6,h7,h8,h9,hC,Pr,R6⟩:=Au h;exact⟨B,p,h0,h1,h2,h3,h4,h5,h6,h7,h8,h9,hC.ext Ak,Pr,R6⟩
end Go.Proofs.Tryq
namespace Go.Nk
section
open Go Go.Proofs.Tryq
structure Gr where
 d:Nat
 os:Array Obj
 deriving Inhabited
def gr(w:World)(d:Nat)(os:Array Obj):World:={w with drawn:=d,heap:=w.heap++os}
theorem Zfh(w:World)(d:Nat)(os:Array Obj):Ext w (gr w d os):=
 ⟨by simp[gr],λb hb=>by simp[gr,Array.getElem?_append,hb],rfl,rfl,rfl⟩
theorem Zfi(h:Ext w w'):∃p:Gr,w'=gr w p.d p.os:=by
 refine⟨⟨w'.drawn,w'.heap.extract w.heap.size w'.heap.size⟩,?_⟩;obtain⟨hs,hb,ht,ho,hu⟩:=h;obtain⟨Hj,tape',drawn',os',output'⟩:=w';simp only at hs hb ht ho hu;subst ht ho hu;have eh:Hj=w.heap++Hj.extract w.heap.size Hj.size:=by
  apply Array.ext_getElem?;intro k;by_cases hk:k<w.heap.size
  ·rw[Array.getElem?_append_left hk];exact hb k hk
  ·rw[Array.getElem?_append_right (by omega),Array.getElem?_extract];by_cases Az:k<Hj.size
   ·rw[YZ (by omega)];congr 1;omega
   ·rw[XA (by omega),Array.getElem?_eq_none (by omega)]
 simp only[gr];congr 1
theorem Zet(h:w.cell? a=some v)(d:Nat)(os:Array Obj):(gr w d os).cell? a=some v:=(Zfh w d os).cellS h
end
section
open Go Go.Region
variable {Q:Exit->Act->World->Prop}
def upd(ℓ:Nat->Bool)(i:Nat):Nat->Bool:=λj=>j==i||ℓ j
theorem Z0k(ℓ:Nat->Bool)(i:Nat):upd ℓ i i=true:=by simp[upd]
theorem upd_ne(h:j≠i):upd ℓ i j=ℓ j:=by simp[upd,h]
def ahead(o:Oper):List Nat:=(o.after.toList.filter (binds .any)).map (·.on)
theorem mem_ready{listed:Array Bool}:i∈Region.ready .any ops listed↔i<ops.size/\listed.getD i true=false/\∃o,ops[i]? =some o/\∀k∈ahead o,listed.getD k false=true:=by
 unfold Region.ready;rw[UP,YU];simp only[YG,XR];constructor
 ·rintro⟨h1,h2,h3⟩;refine⟨h1,h2,?_⟩;have hi:=YN h1;refine⟨ops[i],hi,?_⟩;rw[hi] at h3;simp only[XI,VX] at h3;intro k hk;unfold ahead at hk;obtain⟨e,he,rfl⟩:=VD.1 hk;obtain⟨Ld,Em⟩:=UP.1 he;rw[Array.all_eq_true'] at h3;have:=h3 e (by simpa using Ld);rw[Em] at this;simpa using this
 ·rintro⟨h1,h2,o,ho,h3⟩;refine⟨h1,h2,?_⟩;rw[ho];simp only[XI,VX];rw[Array.all_eq_true'];intro e he;cases hb:binds .any e
  ·rfl
  ·have:=h3 e.on (VD.2 ⟨e,UP.2 ⟨by simpa using he,hb⟩,rfl⟩);simpa using this
def Zdr(ops:Array Oper):Bool:=(List.range ops.size).all λi=>match ops[i]? with|some o=>(ahead o).all λk=>decide (k<i)|none=>true
theorem Z8w(he:Zdr ops=true){listed:Array Bool}(hs:listed.size=ops.size)(hr:Region.ready .any ops listed=[]):∀i,i<ops.size->listed.getD i false=true:=by
 intro i
 induction i using Nat.strongRecOn with
 |ind i ih=>
  intro hi;cases hb:listed.getD i false
  ·have Ca:i∈Region.ready .any ops listed:=by
    rw[mem_ready];refine⟨hi,?_,ops[i],YN hi,?_⟩
    ·simp only[Array.getD_eq_getD_getElem?,YN (hs▸hi),VX] at hb⊢;exact hb
    ·intro k hk;have:=YL.1 he i (YU.2 hi);rw[YN hi] at this;have Az:=YL.1 this k hk;simp only[XG] at Az;exact ih k Az (by omega)
   rw[hr] at Ca;cases Ca
  ·rfl
theorem Zad(he:Zdr ops=true)(I:(Nat->Bool)->Act->World->Prop)
 (step:∀i o,ops[i]? =some o->∀ℓ a w,ℓ i=false->(∀k∈ahead o,ℓ k=true)->I ℓ a w->wpOp P ops Q i (λa' w'=>I (upd ℓ i) a' w') a w)
 (fin:∀ℓ a w,(∀i,i<ops.size->ℓ i=true)->I ℓ a w->Q .normal a w):
 ∀fuel (listed:Array Bool) a w,listed.size=ops.size->(List.range ops.size).countP (λi=> !listed.getD i false)<=fuel->I (λj=>listed.getD j false) a w->wpAny P .any ops Q fuel listed a w:=by
 intro fuel
 induction fuel with
 |zero=>
  intro listed a w hs hc hI;have Aq:∀i,i<ops.size->listed.getD i false=true:=by
   intro i hi;have h0:(List.range ops.size).countP (λi=> !listed.getD i false)=0:=by omega
   have:=List.countP_eq_zero.1 h0 i (YU.2 hi);simpa using this
  refine⟨?_,fin _ a w Aq hI⟩;apply List.eq_nil_iff_forall_not_mem.2;intro i hi;rw[mem_ready] at hi;obtain⟨h1,h2,_⟩:=hi;have:=Aq i h1;simp only[Array.getD_eq_getD_getElem?,YN (hs▸h1),VX] at this h2;rw[this] at h2;cases h2
 |succ fuel ih=>
  intro listed a w hs hc hI;refine⟨λhr=>fin _ a w (Z8w he hs hr) hI,?_⟩;intro i hi;rw[mem_ready] at hi;obtain⟨h1,h2,o,ho,h3⟩:=hi;have hl:listed.getD i false=false:=by
   simp only[Array.getD_eq_getD_getElem?,YN (hs▸h1),VX] at h2⊢;exact h2
  have Ex:(λj=>(listed.setIfInBounds i true).getD j false)=upd (λj=>listed.getD j false) i:=by
   funext j;unfold upd;simp only[Array.getD_eq_getD_getElem?,Array.getElem?_setIfInBounds];by_cases hj:i=j
   ·subst hj;simp[hs,h1]
   ·have:(j==i)=false:=(by simp;omega);rw[XA hj,this,TV]
  refine RR ?_ (step i o ho _ a w hl h3 hI);intro a' w' hI';refine ih _ a' w' (by simp[hs]) ?_ (by rw[Ex];exact hI');have A3:(List.range ops.size).countP (λj=> !(listed.setIfInBounds i true).getD j false)<(List.range ops.size).countP (λj=> !listed.getD j false):=by
   have e:∀j,(listed.setIfInBounds i true).getD j false=upd (λj=>listed.getD j false) i j:=λj=>congrFun Ex j
   simp only[e];refine countP_lt i (YU.2 h1) ?_ ?_ ?_
   ·simp[upd]
   ·simp[hl]
   ·intro j hj;simp[upd] at hj⊢;exact hj.2
  omega
where
 countP_lt {l:List Nat} {p q:Nat->Bool} (i:Nat) (hi:i∈l) (hp:p i=false) (hq:q i=true) (h:∀j,p j=true->q j=true):l.countP p<l.countP q:=by
  induction l with
  |nil=>cases hi
  |cons x l ih=>
   rw[List.countP_cons,List.countP_cons];have Bl:l.countP p<=l.countP q:=List.countP_mono_left λj _=>h j
   rcases XE.1 hi with rfl|hi
   ·rw[XA (by rw[hp];simp),YZ hq];omega
   ·have:=ih hi;split
    ·rename_i hx;rw[YZ (h x hx)];omega
    ·split<;>omega
end
end Go.Nk
