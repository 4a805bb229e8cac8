import Derived.Test.YthahddndgbpooaaGreatDoorNk07
import Derived.Test.YthahddndgbpooaaGreatDoorNk13
import Derived.Deep.RegionHeld3
import Derived.Shelf.Slices.Turned
import Derived.Shelf.Small.Wraps
import Derived.Shelf.Strconv.Atoi
import Derived.Shelf.Strconv.Itoa3
import Derived.Shelf.Strings.Cut
import Derived.Shelf.Strings.OnBuilder
import Derived.Shelf.Strings.SlTrimAscii
import Derived.Shelf.Strings.Split
set_option linter.all false
set_option maxRecDepth 100000
set_option maxHeartbeats 4000000
open Go
open Option renaming some->J,none->I
open Go.Obj renaming cells->U
open Go.Value renaming pointer->Z,slice->NG,int->NE,agg->NJ
open Go renaming Value->NM,execOp->NU,undef->NQ,World->NL,Calls->NW,TypeId->NT,Addr->NP,Program->NO,Frame->NN
open Bool renaming true->NC,false->ND
open Go.IntKind renaming i64->NF
variable {a:Act}{ops:Array Oper}{fr:NN}{fn:Func}{b f i n:Nat}{ℓ:Nat->Bool}{o:Oper}{m:String}{d:Tmp}{t:NT}{u u' v':NM}{w w' w1:NL}
namespace Go.Ns
section
open Go Go.Conc
open Go.Nk (Ban Z6 trap Vb LS)
variable [Ban] [Pf] [FsW]
open Pf
def H7(v:NM)(w:NL):∃o w1 c,stepG (Z6 P fs) NC (G (trap.finish v) []) w= .ended o w1 c:=⟨_,_,_,rfl⟩
def mv(c:List PanicEntry)(w:NL):∃o w1 e,stepG (Z6 P fs) NC (G (trap.raise c) []) w= .ended o w1 e:=⟨_,_,_,rfl⟩
def nA(y:FO fr)(A:fr.mode≠.run)(p:fr.defers=[]):(∃o w1 e,stepG (Z6 P fs) NC (G fr [trap]) w= .ended o w1 e)\/
 ∃g w1 e,stepG (Z6 P fs) NC (G fr [trap]) w= .go (G g []) w1 e/\∀w,∃o w1 e,stepG (Z6 P fs) NC (G g []) w= .ended o w1 e:=by
 obtain⟨fn,c,e1,e2,e3,e4,_⟩:=y.wf;have j:(Z6 P fs).funcs[fr.fn]? =J fn:=e1;unfold stepG G;dsimp only;cases A8:fr.mode with
 |run=>exact absurd A8 A
 |panicking z=>
  have k1:fr.catches (Z6 P fs)=ND:=by simp[Frame.catches,j]
  simp only[unwind,p,A8,k1,YR,VF];exact .inr ⟨trap.raise z,w,_,rfl,mv z⟩
 |returning=>
  simp only[unwind,p,A8,j];rcases hx:(results fn fr.tmps).runT (Z6 P fs) w #[]with⟨x,e⟩;cases x with|ok v w1=>exact .inr ⟨trap.finish v,w1,_,by simp only[doReturn,y.kind];rfl,H7 v⟩|halt h w1=>left;cases h<;>exact⟨_,_,_,rfl⟩
def pu{B:Nat}{e:Event}(h:EvW B e):EvL (λ_=>False) B e:=⟨λ_ _ h=>h.elim,h.2.1,h.2.2,h.1⟩
def carry:∀(n:Nat){fr j:NN}{l z:List NN}{w w':NL}{t:Trace},runN (Z6 P fs) n (lone fr (l++[trap]) (clean Wob w))= .next (lone j (z++[trap]) w')->SO fr l->PW w->Past (λ_=>False) w.heap.size t->(∀op∈t,op.g=0)->
 ∃y A,w'=clean Wob y/\Jn Wob w y/\runNT P n (crowd #[G fr l] w I) t=(.next (crowd #[G j z] y I),A)/\Past (λ_=>False) y.heap.size A/\(∀op∈A,op.g=0)/\w.heap.size<=y.heap.size:=by
 intro n
 induction n with
 |zero=>
  intro fr j l z w w' t h V O T H;simp only[runN,UK]at h;have K:fr=j/\l++[trap]=z++[trap]/\clean Wob w=w':=by
   simp only[lone,Machine.mk.injEq,Array.mk.injEq,SU,Goroutine.mk.injEq]at h;exact⟨h.2.1.1.1,h.2.1.1.2.1,h.1⟩
  obtain⟨rfl,F,rfl⟩:=K;obtain rfl:=List.append_cancel_right F;exact⟨w,t,rfl,Jn.refl _ _,rfl,T,H,XA _⟩
 |succ n ih=>
  intro fr j l z w w' t h V O T H;rcases jJ (w:=w) (bot:=[trap]) (bot':=[]) V O with(⟨o,w1,C,p⟩|⟨c,l1,w1,_,E,K,F,h3,W,X,h6⟩)|⟨rfl,hm,Y⟩
  .simp only[runN,LS p]at h;cases h
  .simp only[runN,Vb K]at h;have e:stepT P (crowd #[G fr l] w I)=(.next (crowd #[G c l1] w1 I),MemOp.ofEvents 0 fr.fn fr.place E):=by
    rw[<-QU,stepT_solo rfl,QU];rw[TB,TB]at F;have:=RY (P:=P) (gs:= #[G fr l]) (sl:=I) (i:=0) (g:=G fr l) rfl (show stepG P (0==0) (G fr l) w=_ from F);simp only[TD,VG,VX]at this;exact this
   have Fr:=(T.mono X).own (fn:=fr.fn) (pos:=fr.place) λe p=>pu (h6 e p)
   obtain⟨y,A,q0,q9,q1,q2,q3,q4⟩:=ih (t:=t++MemOp.ofEvents 0 fr.fn fr.place E) h h3 (O.jn W) Fr λop A4=>by
    rcases UX.1 A4 with A4|A4
    .exact H op A4
    .obtain⟨e,_,rfl⟩:=XR A4;rfl
   exact⟨y,A,q0,W.trans q9,by simp only[runNT,e];exact q1,q2,q3,XC X q4⟩
  .exfalso;have L:∀{c:NN}{w1:NL},(∀w,∃o w1 C,stepG (Z6 P fs) NC (G c []) w= .ended o w1 C)->runN (Z6 P fs) n (lone c [] w1)= .next (lone j (z++[trap]) w')->False:=by
    intro c w1 p h;cases n with
    |zero=>
     simp only[runN,UK,lone,Machine.mk.injEq,Array.mk.injEq,SU,Goroutine.mk.injEq]at h;have:=h.2.1.1.2.1;simp at this
    |succ n=>
     obtain⟨o,y,C,p⟩:=p w1;simp only[runN,LS p]at h;cases h
   rcases nA (w:=clean Wob w) V.fo hm Y with⟨o,w1,C,p⟩|⟨c,w1,C,p,hx⟩
   .simp only[YJ,runN,LS p]at h;cases h
   .simp only[YJ,runN,Vb p]at h;exact L hx h
end
section
open Go Go.Conc
open Go.Nk (Ban)
open Go.Extern
variable [Ban] [Cx]
instance (a n acc):S (Bytes.loadBytes a n acc):=by
 induction n generalizing a acc with|zero=>exact .of (Bytes.loadBytes.eq_def a 0 acc)|succ n _=>exact .of (Bytes.loadBytes.eq_def a (n+1) acc)
instance (v):S (Bytes.bytesOf v):= .of (Bytes.bytesOf.eq_def v)
instance (v):S (Bytes.asByte v):= .of (Bytes.asByte.eq_def v)
instance (n):S (globalAddr n):=by
 unfold globalAddr;refine S.prog rfl ?_;split<;>infer_instance
instance :S BytealgIndex.maxLen:= .of (BytealgIndex.maxLen.eq_def)
instance (a):S (AbiNoEscape.same a):=by
 unfold AbiNoEscape.same;obtain⟨l⟩:=a;rcases l with _|⟨x,_|⟨y,l⟩⟩
 rotate_left
 .exact inferInstanceAs (S (pure _))
 all_goals exact inferInstanceAs (S (stuck _))
instance (a):S (BytealgIndexByte.indexByte a):=by
 unfold BytealgIndexByte.indexByte;obtain⟨l⟩:=a;rcases l with _|⟨x,_|⟨y,_|⟨z,l⟩⟩⟩
 rotate_left 2
 .exact S.of rfl (S.bindT (X:=Bytes.bytesOf x) inferInstance λb=>S.bindT (X:=Bytes.asByte y) inferInstance λc=> .of rfl)
 all_goals exact inferInstanceAs (S (stuck _))
instance (a):S (BytealgCount.count a):=by
 unfold BytealgCount.count;obtain⟨l⟩:=a;rcases l with _|⟨x,_|⟨y,_|⟨z,l⟩⟩⟩
 rotate_left 2
 .exact S.of rfl (S.bindT (X:=Bytes.bytesOf x) inferInstance λb=>S.bindT (X:=Bytes.asByte y) inferInstance λc=> .of rfl)
 all_goals exact inferInstanceAs (S (stuck _))
instance (a):S (BytealgIndex.index a):=by
 unfold BytealgIndex.index;obtain⟨l⟩:=a;rcases l with _|⟨x,_|⟨y,_|⟨z,l⟩⟩⟩
 rotate_left 2
 .exact S.of rfl (S.bindT (X:=Bytes.bytesOf x) inferInstance λb=>S.bindT (X:=Bytes.bytesOf y) inferInstance λc=>S.bindT (X:=BytealgIndex.maxLen) inferInstance λm=> .of rfl)
 all_goals exact inferInstanceAs (S (stuck _))
instance (p r a):S (BytealgMakeNoZero.makeNoZero p r a):=by
 unfold BytealgMakeNoZero.makeNoZero;obtain⟨l⟩:=a;rcases l with _|⟨x,_|⟨y,l⟩⟩
 rotate_left
 .cases x with
  |int k n=>
   cases k with
   |i64=>
    obtain⟨l⟩:=r;rcases l with _|⟨t,l⟩
    .exact inferInstanceAs (S (stuck _))
    .exact S.of rfl (S.bindT (X:=underlying t) inferInstance λd=> .of rfl)
   |_=>exact inferInstanceAs (S (stuck _))
  |_=>exact inferInstanceAs (S (stuck _))
 all_goals exact inferInstanceAs (S (stuck _))
end
section
open Go Go.Conc
open Go.Nk (Ban)
open Go.Nk (Z6 PN Xb)
open Go.Extern
section
variable [Ban](P:NO)(fs:Array Func)
def withF_methodsOfAPack:∀d,(Z6 P fs).methodsOfAPack d=P.methodsOfAPack d
 |0=>rfl
 |d+1=>by
  funext t;simp only[Program.methodsOfAPack,withF_methodsOfAPack d,Xb,IE];rfl
def withF_namesPacked:∀d,(Z6 P fs).namesPacked d=P.namesPacked d
 |0=>rfl
 |d+1=>by
  funext t;simp only[Program.namesPacked,withF_namesPacked d,PN,IE];rfl
end
variable [Ban] [Cx]
instance (t):S (Rtype.handle t):= .of (Rtype.handle.eq_def t)
instance (t):S (Rtype.ofHandle t):= .of (Rtype.ofHandle.eq_def t)
instance (t):S (cutType t):= .of (cutType.eq_def t)
instance (s t):S (Rtype.noPack s t):=by
 unfold Rtype.noPack;exact S.prog (by rw[IE]) (.of rfl)
instance (s t):S (Rtype.noPackMethods s t):=by
 unfold Rtype.noPackMethods;exact S.prog (by simp only[withF_methodsOfAPack]) (.of rfl)
instance (s t):S (Rtype.noPackNamed s t):=by
 unfold Rtype.noPackNamed;exact S.prog (by simp only[withF_namesPacked]) (.of rfl)
instance (t):S (Rtype.spelt t):= .of (Rtype.spelt.eq_def t)
instance (t):S (Rtype.under t):= .of (Rtype.under.eq_def t)
instance (t):S (Rtype.kind t):= .of (Rtype.kind.eq_def t)
instance (t):S (Rtype.hasName t):= .of (Rtype.hasName.eq_def t)
instance (t):S (Rtype.elem? t):= .of (Rtype.elem?.eq_def t)
instance (t u):S (Rtype.implements t u):= .of (Rtype.implements.eq_def t u)
instance (t u):S (Rtype.directlyAssignable t u):= .of (Rtype.directlyAssignable.eq_def t u)
instance {α:Type}(s:String):S (panicString s:Sem α):= .of (panicString.eq_def s)
instance (t):S (ReflectliteType.toType t):= .of (ReflectliteType.toType.eq_def t)
instance (v):S (ReflectliteType.ofRtype v):=by
 cases v with
 |agg c=>
  obtain⟨l⟩:=c;rcases l with _|⟨x,_|⟨y,l⟩⟩
  rotate_left
  .exact S.of (ReflectliteType.ofRtype.eq_def (NJ #[x])) (S.bindT (X:=Rtype.ofHandle x) inferInstance λt=>S.bindT (X:=Rtype.noPack _ t) inferInstance λ_=>inferInstance)
  all_goals exact inferInstanceAs (S (stuck _))
 |_=>exact inferInstanceAs (S (stuck _))
instance (a):S (ReflectliteType.typeOf a):=by
 obtain⟨l⟩:=a;rcases l with _|⟨x,_|⟨y,l⟩⟩
 rotate_left
 .cases x<;>first|exact inferInstanceAs (S (ReflectliteType.toType _))|exact inferInstanceAs (S (pure _))|exact inferInstanceAs (S (stuck _))
 all_goals exact inferInstanceAs (S (stuck _))
instance (t):S (ReflectliteType.elem t):= .of (ReflectliteType.elem.eq_def t)
instance (t u):S (ReflectliteType.implements_ t u):= .of (ReflectliteType.implements_.eq_def t u)
instance (t u):S (ReflectliteType.assignableTo t u):= .of (ReflectliteType.assignableTo.eq_def t u)
theorem S.one{f:NM->Sem NM}{g:Array NM->Sem NM}(h:∀x,g #[x]=f x)(e:g #[]=stuck m)(j:∀x y l,g ⟨x::y::l⟩=stuck m)(c:∀x,S (f x))(a):S (g a):=by
 obtain⟨l⟩:=a;rcases l with _|⟨x,_|⟨y,l⟩⟩
 .exact .of e inferInstance
 .exact .of (h x) (c x)
 .exact .of (j x y l) inferInstance
instance (f:NT->Sem NM)[∀t,S (f t)](a):S (ReflectliteType.method f a):=S.one (f:=λr=>ReflectliteType.ofRtype r>>=f) (λ_=>rfl) rfl (λ_ _ _=>rfl) (λ_=>inferInstance) a
instance (f:NT->Sem NM)[∀t,S (f t)](a):S (ReflectliteType.abiMethod f a):=S.one (f:=λh=>do let t<-Rtype.ofHandle h;Rtype.noPack "a method of abi.Type" t;f t) (λ_=>rfl) rfl (λ_ _ _=>rfl) (λ_=>inferInstance) a
instance (s)(f:NT->NT->Sem Bool)[∀t u,S (f t u)](a):S (ReflectliteType.relation s f a):=by
 obtain⟨l⟩:=a;rcases l with _|⟨x,_|⟨y,_|⟨z,l⟩⟩⟩
 rotate_left 2
 .cases y with
  |nilIface=>exact inferInstanceAs (S (panicString _))
  |iface t u=>exact S.of (Y:=do pure (.bool (<-f (<-ReflectliteType.ofRtype u) (<-ReflectliteType.ofRtype x)))) rfl
  |_=>exact inferInstanceAs (S (stuck _))
 all_goals exact inferInstanceAs (S (stuck _))
instance (t a n):S (ReflectliteValue.mk t a n):= .of (ReflectliteValue.mk.eq_def t a n)
instance (v):S (ReflectliteValue.unpack v):= .of (ReflectliteValue.unpack.eq_def v)
instance {α:Type}(m k):S (ReflectliteValue.valueError m k:Sem α):= .of (ReflectliteValue.valueError.eq_def m k)
instance (v):S (ReflectliteValue.partsAny v):=by
 have e:∀(h:NM)(a:NP)(n:Int),S (do pure (J (<-Rtype.ofHandle h,a,n.toNat))):=λh a n=> .of rfl
 cases v with
 |agg c=>
  obtain⟨l⟩:=c;rcases l with _|⟨h,_|⟨p,_|⟨f,_|⟨z,l⟩⟩⟩⟩
  rotate_left 3
  .cases f with
   |int k n=>
    cases k with
    |u64=>
     cases p with
     |pointer o=>rcases n with(_|n)|n<;>cases o<;>first|exact e _ _ _|exact inferInstanceAs (S (pure I))|exact inferInstanceAs (S (stuck _))
     |_=>rcases n with(_|n)|n<;>first|exact inferInstanceAs (S (pure I))|exact inferInstanceAs (S (stuck _))
    |_=>cases p with
     |pointer o=>cases o<;>exact inferInstanceAs (S (stuck _))
     |_=>exact inferInstanceAs (S (stuck _))
   |_=>cases p with
    |pointer o=>cases o<;>exact inferInstanceAs (S (stuck _))
    |_=>exact inferInstanceAs (S (stuck _))
  all_goals exact inferInstanceAs (S (stuck _))
 |_=>exact inferInstanceAs (S (stuck _))
instance (v):S (ReflectliteValue.parts v):= .of (ReflectliteValue.parts.eq_def v)
instance (z:Sem NM)(f:NT->NP->Nat->Nat->Sem NM)[S z][∀t a n k,S (f t a n k)](a):S (ReflectliteValue.method z f a):=S.one (f:=λv=>do match<-ReflectliteValue.parts v with|none=>z|some (t,a,fl)=>f t a fl (fl % 32)) (λ_=>rfl) rfl (λ_ _ _=>rfl) (λ_=> .of rfl) a
instance (z:Sem NM)(f:NT->NP->Nat->Nat->Sem NM)[S z][∀t a n k,S (f t a n k)](a):S (ReflectliteValue.methodAny z f a):=S.one (f:=λv=>do match<-ReflectliteValue.partsAny v with|none=>z|some (t,a,fl)=>f t a fl (fl % 32)) (λ_=>rfl) rfl (λ_ _ _=>rfl) (λ_=> .of rfl) a
instance (t a n k):S (ReflectliteValue.isNil t a n k):= .of (ReflectliteValue.isNil.eq_def t a n k)
instance (t a n k):S (ReflectliteValue.elem t a n k):= .of (ReflectliteValue.elem.eq_def t a n k)
instance (a):S (ReflectliteValue.set a):=by
 obtain⟨l⟩:=a;rcases l with _|⟨v,_|⟨x,_|⟨z,l⟩⟩⟩
 rotate_left 2
 .refine S.of rfl (S.bindT (X:=ReflectliteValue.parts v) inferInstance λp=>S.bindT (X:=ReflectliteValue.parts x) inferInstance λq=> ?_);rcases p with _|⟨d,a,_⟩<;>rcases q with _|⟨s,b,_⟩<;>exact .of rfl
 all_goals exact inferInstanceAs (S (stuck _))
end
end Go.Ns
namespace Go.Proofs.Tryp
section
open Go Go.Nk Go.Ns
open Go.Proofs.Tryq (Tw gp stub keptList Z7 theBan)
attribute [local instance] theBan
def bare:List Nat:=[183,184,189,211,223,88,89,90,133,134,135,249,262,264,265]
def more:List Nat:=[4,7,9,11,14,16,37,38,39,44,45,46,47,50,80,84,85,86,87,120,121,122,123,124,125,126,127,128,129,130,131,132,148,149,150,151,152,153,154,155,156,157,158,159,160,161,185,186,187,188,190,191,192,193,194,195,196,197,198,199,200,201,202,209,210,212,213,214,215,216,222,224,225,226,227,231,232,203,217,218,219,220,221,228,229,230,233,234,252,253,255,256,3,8,10,12,15,40,41,42,48,49,51,81,91,92,93,94,95,96,136]
def kept:List Nat:=keptList++more
noncomputable def fs:Array Func:=Tryz.prog.funcs.mapIdx λi f=>if kept.contains i||bare.contains i then f else stub
def same(h:(kept.contains i||bare.contains i)=NC):fs[i]? =Tryz.prog.funcs[i]? :=by
 unfold fs;rw[Array.getElem?_mapIdx];cases Tryz.prog.funcs[i]? with|none=>rfl|some f=>simp only[XN,h,XY]
@[reducible] noncomputable def k3:Tw:=⟨fs,λi hi=>same (by
  rw[VS.2 (show i∈kept from QI _ hi),QM])⟩
noncomputable abbrev prog:NO:= @gp k3
noncomputable instance pf:Pf:=⟨Tryz.prog,fs⟩
noncomputable def Bs(i:Nat):Bool:=match Tryz.prog.funcs[i]? with
 |some fn=>(match fn.body with|some c=>codeW c&& !(fn.name== "runtime.NumGoroutine")|none=>ND)
 |none=>ND
def kept_all:kept.all Bs=NC:=OB
def wf(h:kept.contains f=NC):WF f:=by
 have e:=YL.1 kept_all f (VS.1 h);unfold Bs at e;split at e
 .rename_i fn hfn;split at e
  .rename_i c hc;simp only[YG,XZ]at e;exact⟨fn,c,(same (by rw[h,QM])).trans hfn,hfn,hc,e.1,e.2⟩
  .cases e
 .cases e
def xf{e:Array NM->Sem NM}(h:bare.contains f=NC)(c:Tryz.prog.funcs[f]? =J fn)(j:fn.body=I)(z:(fn.name== "runtime.NumGoroutine")=ND)(p:Extern.findNext fn=I)(y:Extern.find fn=J e)(g:∀a,S (e a)):XF f:=
 ⟨fn,e,(same (by rw[h,Bool.or_true])).trans c,c,j,z,p,y,g⟩
def oF(h:f∈bare):XF f:=by
 simp only[bare,XG,XO,UE]at h;rcases h with rfl|rfl|rfl|rfl|rfl|rfl|rfl|rfl|rfl|rfl|rfl|rfl|rfl|rfl|rfl
 .exact xf (fn:=Tryz.f183) (e:=Extern.AbiNoEscape.same) OC OB OB OB OB OB inferInstance
 .exact xf (fn:=Tryz.f184) (e:=Extern.BytealgMakeNoZero.makeNoZero Tryz.f184.params Tryz.f184.resultTypes) OC OB OB OB OB OB inferInstance
 .exact xf (fn:=Tryz.f189) (e:=Extern.BytealgIndexByte.indexByte) OC OB OB OB OB OB inferInstance
 .exact xf (fn:=Tryz.f211) (e:=Extern.BytealgCount.count) OC OB OB OB OB OB inferInstance
 .exact xf (fn:=Tryz.f223) (e:=Extern.BytealgIndex.index) OC OB OB OB OB OB inferInstance
 .exact xf (fn:=Tryz.f88) (e:=λc=>Extern.ReflectliteValue.unpack (c.getD 0 (.tuple #[]))) OC OB OB OB OB OB inferInstance
 .exact xf (fn:=Tryz.f89) (e:=Extern.ReflectliteValue.methodAny (Extern.ReflectliteValue.valueError "reflectlite.Value.Type" 0) λt _ _ _=>Extern.ReflectliteType.toType t) OC OB OB OB OB OB inferInstance
 .exact xf (fn:=Tryz.f90) (e:=Extern.ReflectliteValue.method (Extern.ReflectliteValue.valueError "reflectlite.Value.IsNil" 0) Extern.ReflectliteValue.isNil) OC OB OB OB OB OB inferInstance
 .exact xf (fn:=Tryz.f133) (e:=Extern.ReflectliteType.typeOf) OC OB OB OB OB OB inferInstance
 .exact xf (fn:=Tryz.f134) (e:=Extern.ReflectliteValue.method (Extern.ReflectliteValue.valueError "reflectlite.Value.Elem" 0) Extern.ReflectliteValue.elem) OC OB OB OB OB OB inferInstance
 .exact xf (fn:=Tryz.f135) (e:=Extern.ReflectliteValue.set) OC OB OB OB OB OB inferInstance
 .exact xf (fn:=Tryz.f249) (e:=Extern.ReflectliteType.abiMethod λt=>do pure (NE .u8 (<-Extern.Rtype.kind t))) OC OB OB OB OB OB inferInstance
 .exact xf (fn:=Tryz.f262) (e:=Extern.ReflectliteType.relation "AssignableTo" Extern.ReflectliteType.assignableTo) OC OB OB OB OB OB inferInstance
 .exact xf (fn:=Tryz.f264) (e:=Extern.ReflectliteType.method Extern.ReflectliteType.elem) OC OB OB OB OB OB inferInstance
 .exact xf (fn:=Tryz.f265) (e:=Extern.ReflectliteType.relation "Implements" Extern.ReflectliteType.implements_) OC OB OB OB OB OB inferInstance
instance :FsW:=⟨λf c h=>(by
 by_cases e:kept.contains f=NC
 .exact .inr (.inl (wf e))
 .by_cases hb:bare.contains f=NC
  .exact .inr (.inr (oF (VS.1 hb)))
  .left
   change fs[f]? =J c at h
   unfold fs at h;rw[Array.getElem?_mapIdx]at h;cases hf:Tryz.prog.funcs[f]? with
   |none=>rw[hf]at h;cases h
   |some g=>
    rw[hf]at h;simp only[XN,e,hb,Bool.or_self,YR,VF,XM]at h;subst h;show O0 stub=NC
    kernel_rfl),OB⟩
def iM[T:Tw]{n:Nat}{fn:Func}(h:T.fs[n]? =J fn):gp.funcs[n]? =J fn:=h
def ZV(h:(kept.contains n||bare.contains n)=NC)(c:Tryz.prog.funcs[n]? =J fn):prog.funcs[n]? =J fn:=iM (T:=k3) ((same h).trans c)
class Kq(n:Nat):Prop where
 h:kept.contains n=NC
def fq{f:Func}[k:Kq n](h:Tryz.prog.funcs[n]? =J f):prog.funcs[n]? =J f:=ZV (by rw[k.h,QM]) h
@[simp] def MN (n:Nat) [k:Kq n] (a w):(callFunc n a).run prog w= .ok (.enter n a) w:=by
  obtain⟨fn,c,_,c,g,_,e⟩:=wf k.h;exact Z7 (fq c) e (by rw[g];rfl) a w
instance :Kq 7:=⟨rfl⟩
instance :Kq 9:=⟨rfl⟩
instance :Kq 11:=⟨rfl⟩
instance :Kq 12:=⟨rfl⟩
instance :Kq 14:=⟨rfl⟩
instance :Kq 15:=⟨rfl⟩
instance :Kq 16:=⟨rfl⟩
instance :Kq 37:=⟨rfl⟩
instance :Kq 38:=⟨rfl⟩
instance :Kq 39:=⟨rfl⟩
instance :Kq 44:=⟨rfl⟩
instance :Kq 45:=⟨rfl⟩
instance :Kq 46:=⟨rfl⟩
instance :Kq 47:=⟨rfl⟩
instance :Kq 48:=⟨rfl⟩
instance :Kq 49:=⟨rfl⟩
instance :Kq 50:=⟨rfl⟩
instance :Kq 51:=⟨rfl⟩
instance :Kq 80:=⟨rfl⟩
instance :Kq 85:=⟨rfl⟩
instance :Kq 86:=⟨rfl⟩
instance :Kq 87:=⟨rfl⟩
instance :Kq 92:=⟨rfl⟩
instance :Kq 93:=⟨rfl⟩
instance :Kq 94:=⟨rfl⟩
instance :Kq 95:=⟨rfl⟩
instance :Kq 96:=⟨rfl⟩
instance :Kq 124:=⟨rfl⟩
instance :Kq 125:=⟨rfl⟩
instance :Kq 126:=⟨rfl⟩
instance :Kq 127:=⟨rfl⟩
instance :Kq 128:=⟨rfl⟩
instance :Kq 129:=⟨rfl⟩
instance :Kq 130:=⟨rfl⟩
instance :Kq 131:=⟨rfl⟩
instance :Kq 136:=⟨rfl⟩
instance :Kq 157:=⟨rfl⟩
instance :Kq 158:=⟨rfl⟩
instance :Kq 159:=⟨rfl⟩
instance :Kq 160:=⟨rfl⟩
instance :Kq 252:=⟨rfl⟩
instance :Kq 253:=⟨rfl⟩
instance :Kq 255:=⟨rfl⟩
instance :Kq 256:=⟨rfl⟩
end
section
open Go Go.Nk Go.Shelf
def ren:Ren where
 f:=fun
  |102=>87|209=>132|207=>161|156=>80|165=>120|166=>121|169=>122|240=>148|241=>149|276=>183|277=>184
  |146=>126|221=>155|268=>190|138=>191|143=>192|195=>209|197=>210|218=>211|219=>212|260=>222|217=>154|225=>223|224=>224|267=>225|266=>189|314=>231
  |145=>157|220=>193
  |171=>44|243=>84|246=>123|283=>150|284=>151|285=>152|286=>153|129=>186|317=>185|318=>187|319=>188|320=>145|337=>180|338=>181
  |172=>160|244=>202|245=>203|247=>217|279=>218|280=>219|281=>220|282=>221|287=>228|316=>229|205=>230|321=>233|322=>234
  |160=>159|232=>196|231=>195|227=>197|234=>199|233=>198|236=>201|235=>200|228=>214|271=>216|151=>215|120=>227|152=>226|137=>125|119=>232
  |110=>127|109=>156|103=>158|210=>194|206=>213|n=>n
 t:=fun
  |31=>85|9=>9|3=>3|4=>4|0=>0|20=>20|72=>204|76=>206|70=>201|37=>202|75=>91|127=>248|164=>155|5=>5|80=>208
  |105=>304|21=>21|46=>191|119=>320|139=>323|138=>322|146=>324|51=>241|59=>254
  |2=>2|171=>249|53=>148|173=>251|212=>283|213=>284|232=>301|233=>302
  |117=>290|116=>289|124=>293
  |167=>307|85=>308|168=>310|175=>314|210=>318|145=>330|143=>328|24=>259|n=>n
 g:=fun
  |1=>7|3=>10|4=>11|17=>4|18=>5|19=>6|15=>8|16=>9|n=>n
def lJ:Lays.n156 prog ren:=by
 constructor
 all_goals first|(with_reducible refine ZV (n:=_) ?_ ?_)<;>kernel_rfl|(intros;kernel_rfl)
def lX0:Builder.X72 prog ren:=by
 constructor
 all_goals first|(with_reducible refine ZV (n:=_) ?_ ?_)<;>kernel_rfl|(intros;kernel_rfl)
def lX:Builder.Extra prog ren:=by
 constructor
 all_goals first|exact lX0|decide|(intros;kernel_rfl)
def lTS:Lays.n102 prog ren:=by
 constructor
 all_goals first|(with_reducible refine ZV (n:=_) ?_ ?_)<;>kernel_rfl|(intros;kernel_rfl)
def lSp:Lays.n146 prog ren:=by
 constructor
 all_goals first|(with_reducible refine ZV (n:=_) ?_ ?_)<;>kernel_rfl|(intros;kernel_rfl)
def lC:Lays.n145 prog ren:=by
 constructor
 all_goals first|(with_reducible refine ZV (n:=_) ?_ ?_)<;>kernel_rfl|(intros;kernel_rfl)
def lI0:Lays.n171 prog ren:=by
 constructor
 all_goals first|(with_reducible refine ZV (n:=_) ?_ ?_)<;>kernel_rfl|(intros;kernel_rfl)
def lI:LaysM.n171 prog ren:=by
 constructor
 all_goals first|exact lI0|(intros;kernel_rfl)
def lA:Lays.n172 prog ren:=by
 constructor
 all_goals first|(with_reducible refine ZV (n:=_) ?_ ?_)<;>kernel_rfl|(intros;kernel_rfl)
def lT:Lays.n160 prog ren:=by
 constructor
 all_goals first|(with_reducible refine ZV (n:=_) ?_ ?_)<;>kernel_rfl|(intros;kernel_rfl)
def lCo:Lays.n110 prog ren:=by
 constructor
 all_goals first|(with_reducible refine ZV (n:=_) ?_ ?_)<;>kernel_rfl|(intros;kernel_rfl)
def lCp:Lays.n103 prog ren:=by
 constructor
 all_goals first|(with_reducible refine ZV (n:=_) ?_ ?_)<;>kernel_rfl|(intros;kernel_rfl)
end
end Go.Proofs.Tryp
namespace Go.Proofs.Tryq
open Go Go.Nk Go.RowKit
def ji(a b c m:Int)(e:Option NP)(n g:Nat)(L:List Sf)(w:NL)(j:L.length=n)(z:Meas w)(y:RawA w e L)(s:Nat)(h:w.heap[s]? =J (U #[a,b,c,m,NG e n g] 26)):
 NW prog 100 #[Z (J s)] w (OI (NE NF (Zp a b c m L)) w):=by
 have p:=IZ a b c m e n g L w j z y;have q0:=Z0 h 0;have q1:=Z0 h 1;have q2:=Z0 h 2;have q3:=Z0 h 3;have q4:=Z0 h 4;simp only[YC,YA,YB]at q0 q1 q2 q3 q4;go_enter fk Tryz.func100,Tryz.ntmps100;go_wp2_with (first|go_at_call 36;refine p.r λ_ p=> ?_);go_ret;exact⟨rfl,p⟩
def eG(a b c m:Int)(e:Option NP)(n g:Nat)(bl:Option NP)(k cl:Nat)(l:List Int)(w:NL)(A:n<=20)(j:l.length=k)(p:k<=100)(y:RawI w bl l)(s t:Nat)
 (z:w.heap[s]? =J (U #[.func (.func 99) #[NJ #[a,b,c,m,NG e n g]] #[]] 176))(h:w.heap[t]? =J (U #[NG bl k cl] 57)):
 NW prog 101 #[Z (J s),Z (J t)] w (OI (NE NF (Zq n l)) w):=by
 have C:=eH a b c m e n g bl k cl l w A j p y;have q0:=Z0 z 0;have q1:=Z0 h 0;simp only[YC,YA,YB]at q0 q1;go_enter fk Tryz.func101,Tryz.ntmps101;go_wp2_with (first|go_at_call 99;refine C.r λ_ C=> ?_);go_ret;exact⟨rfl,C⟩
def Zo(a b c m:Int)(L:List Sf)(l:List Int):Int:=firstV [Zp a b c m L,Zq L.length l]
def J7(a b c m:Int)(e:Option NP)(n h:Nat)(L:List Sf)(bl:Option NP)(k cl:Nat)(l:List Int)(w:NL)(H:L.length=n)(hn:n<=20)(O:l.length=k)(V:k<=100)(K:Meas w)(hS:RawA w e L)(Y:RawI w bl l):
 NW prog 55 #[NJ #[a,b,c,m,NG e n h],NG bl k cl] w (OI (.tuple #[NJ #[a,b,c,m,NG e n h],NE NF (Zo a b c m L l)]) w):=by
 have y:Ext w (((((w.alloc (U #[a,b,c,m,NG e n h] 26)).alloc (U #[NG bl k cl] 57)).alloc (U OG 117)).alloc (U #[a,b,c,m,NG e n h] 117)).alloc (U #[.func (.func 99) #[NJ #[a,b,c,m,NG e n h]] #[]] 176)):=((((((Ext.rfl' w).alloc _).alloc _).alloc _).alloc _).alloc _);have z:(((((w.alloc (U #[a,b,c,m,NG e n h] 26)).alloc (U #[NG bl k cl] 57)).alloc (U OG 117)).alloc (U #[a,b,c,m,NG e n h] 117)).alloc (U #[.func (.func 99) #[NJ #[a,b,c,m,NG e n h]] #[]] 176)).heap[w.heap.size]? =J (U #[a,b,c,m,NG e n h] 26):=by
  simp only[Z3,Z2];rw[XB OA,XB OA,XB OA,XB OA,YZ trivial]
 have C:(((((w.alloc (U #[a,b,c,m,NG e n h] 26)).alloc (U #[NG bl k cl] 57)).alloc (U OG 117)).alloc (U #[a,b,c,m,NG e n h] 117)).alloc (U #[.func (.func 99) #[NJ #[a,b,c,m,NG e n h]] #[]] 176)).heap[w.heap.size+1]? =J (U #[NG bl k cl] 57):=by
  simp only[Z3,Z2];rw[XB OA,XB OA,XB OA,YZ trivial]
 have j:(((((w.alloc (U #[a,b,c,m,NG e n h] 26)).alloc (U #[NG bl k cl] 57)).alloc (U OG 117)).alloc (U #[a,b,c,m,NG e n h] 117)).alloc (U #[.func (.func 99) #[NJ #[a,b,c,m,NG e n h]] #[]] 176)).heap[w.heap.size+1+1]? =J (U OG 117):=by
  simp only[Z3,Z2];rw[XB OA,XB OA,YZ trivial]
 have p:(((((w.alloc (U #[a,b,c,m,NG e n h] 26)).alloc (U #[NG bl k cl] 57)).alloc (U OG 117)).alloc (U #[a,b,c,m,NG e n h] 117)).alloc (U #[.func (.func 99) #[NJ #[a,b,c,m,NG e n h]] #[]] 176)).heap[w.heap.size+1+1+1]? =J (U #[a,b,c,m,NG e n h] 117):=by
  simp only[Z3,Z2];rw[XB OA,YZ trivial]
 have A:(((((w.alloc (U #[a,b,c,m,NG e n h] 26)).alloc (U #[NG bl k cl] 57)).alloc (U OG 117)).alloc (U #[a,b,c,m,NG e n h] 117)).alloc (U #[.func (.func 99) #[NJ #[a,b,c,m,NG e n h]] #[]] 176)).heap[w.heap.size+1+1+1+1]? =J (U #[.func (.func 99) #[NJ #[a,b,c,m,NG e n h]] #[]] 176):=by
  simp only[Z3,Z2];rw[YZ trivial]
 have E:∀w1,Ext w w1->w1.heap[w.heap.size]? =J (U #[a,b,c,m,NG e n h] 26)->w1.heap[w.heap.size+1]? =J (U #[NG bl k cl] 57)->w1.heap[w.heap.size+1+1+1+1]? =J (U #[.func (.func 99) #[NJ #[a,b,c,m,NG e n h]] #[]] 176)->∀(W:NL)(g:Nat),Ext w1 W->W.heap[g]? =J (U #[.func (.func 100) #[] #[Z (J w.heap.size)],.func (.func 101) #[] #[Z (J ⟨w.heap.size+1+1+1+1,0,I⟩),Z (J ⟨w.heap.size+1,0,I⟩)]] 129)->
  NW prog 61 #[NG (J g) 2 2] W (OI (NE NF (Zo a b c m L l)) W):=by
  intro w1 y z C A W g F T;rw[show Zo a b c m L l=firstV [Zp a b c m L,Zq n l] by rw[Zo,H]];refine Hu g 2 2 (λi=>if i=0 then 100 else 101) (λi=> #[]) (λi=>if i=0 then #[Z (J w.heap.size)]else #[Z (J ⟨w.heap.size+1+1+1+1,0,I⟩),Z (J ⟨w.heap.size+1,0,I⟩)]) [Zp a b c m L,Zq n l] rfl OA W ?_ ?_ ?_
  .intro i hi;rw[Z0 T];obtain rfl|rfl:i=0\/i=1:=OA
   .rfl
   .rfl
  .intro i hi args w';obtain rfl|rfl:i=0\/i=1:=OA
   .simp[go_sem]
   .simp[go_sem]
  .intro i x hx w' hE';have g:=F.trans hE'
   match i,hx with
   |0,hx=>
    obtain rfl:=YT hx;exact ji a b c m e n h L w' H (K.ext (y.trans g)) (hS.ext (y.trans g)) _ (g.get z)
   |1,hx=>
    obtain rfl:=YT hx;exact eG a b c m e n h bl k cl l w' hn O V (Y.ext (y.trans g)) _ _ (g.get A) (g.get C)
 generalize Zo a b c m L l=f at E⊢;go_enter fk Tryz.func55,Tryz.ntmps55;go_wp2;generalize World.alloc _ (U #[.func (.func 99) #[NJ #[a,b,c,m,NG e n h]] #[]] 176)=w1 at y z C j p A⊢;have W:=E w1 y z C A;clear E;have q0:=Z0 p 0;have q1:=Z0 p 1;have q2:=Z0 p 2;have q3:=Z0 p 3;have q4:=Z0 p 4;simp only[YC,YA,YB]at q0 q1 q2 q3 q4;have z0:=Z8 j 0;have X:=Z8 j 1;have T:=Z8 j 2;have z3:=Z8 j 3;have z4:=Z8 j 4;have E:=Z0 j 0;have z:=Z0 j 1;have F:=Z0 j 2;have A:=Z0 j 3;have C:=Z0 j 4;simp only[YC,YA,YB]at E z F A C;have p:¬w.heap.size+1+1=w.heap.size+1+1+1:=OA
 go_region_held3 (λw'=>w'.cell? ⟨w.heap.size+1+1+1,0,I⟩=J (NE NF a)/\w'.cell? ⟨w.heap.size+1+1+1,1,I⟩=J (NE NF b)/\w'.cell? ⟨w.heap.size+1+1+1,2,I⟩=J (NE NF c)/\w'.cell? ⟨w.heap.size+1+1+1,3,I⟩=J (NE NF m)/\w'.cell? ⟨w.heap.size+1+1+1,4,I⟩=J (NG e n h)) (go_keep) (first
  |(go_at_call 61;refine(W _ _ OF (by exact(Z3 _ _ _).trans (YZ rfl))).r λW p=> ?_
    have g:Ext w1 W:=Ext.trans OF p;have p:=g.get j;have z0:=Z8 p 0;have X:=Z8 p 1;have T:=Z8 p 2;have z3:=Z8 p 3;have z4:=Z8 p 4;have E:=Z0 p 0;have z:=Z0 p 1;have F:=Z0 p 2;have A:=Z0 p 3;have C:=Z0 p 4;simp only[YC,YA,YB]at E z F A C;have j:=g.cellS q0;have j:=g.cellS q1;have j:=g.cellS q2;have j:=g.cellS q3;have j:=g.cellS q4))
 all_goals
  go_wp2;have j:w.heap.size<=w.heap.size+1+1:=OA
  have z:=Zb (Zb (Zb (Zb (Zb p (i:=0) (NE NF a)) (i:=1) (NE NF b)) (i:=2) (NE NF c)) (i:=3) (NE NF m)) (i:=4) (NG e n h);have C:=Z0 z 0;have E:=Z0 z 1;have A:=Z0 z 2;have F:=Z0 z 3;have p:=Z0 z 4;simp at C E A F p;refine VE (v:= .tuple #[NJ #[a,b,c,m,NG e n h],f]) ((MW rfl _ _ _).trans ?_) rfl ⟨rfl,(((((y.trans g).setCell _ _ j).setCell _ _ j).setCell _ _ j).setCell _ _ j).setCell _ _ j⟩;simp[go_sem,C,E,A,F,p]
end Go.Proofs.Tryq
section
namespace Go.Nk
open Go Go.Region
open Go.Proofs.Tryq (Ext Z3 Z2)
variable {P:NO}{Q:Exit->Act->NL->Prop}
def eC{id:Nat}(h:P.follows .mixedOrders=NC)(y:LN ops=NC)(c:(Nat->Bool)->Act->NL->Prop)(A:c (λ_=>ND) a w.drew)
 (step:∀i o,ops[i]? =J o->∀ℓ a w,ℓ i=ND->(∀k∈ahead o,ℓ k=NC)->c ℓ a w->wpOp P ops Q i (λz w'=>c (upd ℓ i) z w') a w)
 (g:∀ℓ a w,(∀i,i<ops.size->ℓ i=NC)->c ℓ a w->Q .normal a w):(Code.region id ops NC).wp P Q a w:=by
 refine wp_region_any h (dx y c step g ops.size _ a _ OD ?_ ?_)
 .have:=List.countP_le_length (p:=λi=> !(Array.replicate ops.size ND).getD i ND) (l:=List.range ops.size);simpa using this
 .have e:(λj=>(Array.replicate ops.size ND).getD j ND)=λ_=>ND:=by
   funext j;simp only[Array.getD_eq_getD_getElem?,Array.getElem?_replicate];split<;>rfl
  rw[e];exact A
def AllIx{α:Type}(p:Nat->α->Prop):Nat->List α->Prop
 |_,[]=>True
 |k,x::l=>p k x/\AllIx p (k+1) l
def AllIx.get{α:Type}{p:Nat->α->Prop}:∀{l:List α}{k:Nat},AllIx p k l->∀i x,l[i]? =J x->p (k+i) x
 |[],_,_,i,x,h=>by simp at h
 |y::l,k,⟨h1,h2⟩,i,x,h=>by
  cases i with
  |zero=>simp at h;subst h;exact h1
  |succ i=>
   have:=h2.get i x (by simpa using h);rw[show k+(i+1)=k+1+i by omega];exact this
def kU{v:NM}(h:d<a.tmps.size)(t:Tmp):(a.put (J d) v).tmps.getD t NQ=if t=d then v else a.tmps.getD t NQ:=by
 have e:(a.put (J d) v).tmps=a.tmps.setIfInBounds d v:=rfl;rw[e];simp only[Array.getD_eq_getD_getElem?,Array.getElem?_setIfInBounds];by_cases c:d=t
 .subst c;simp[h]
 .rw[XB c,XB (λe=>c e.symm)]
def DO(a:Act)(d:Option Tmp)(v:NM):(a.put d v).tmps.size=a.tmps.size:=by
 cases d with|none=>rfl|some d=>simp[Act.put]
def put_defers(a:Act)(d:Option Tmp)(v:NM):(a.put d v).defers=a.defers:=by
 cases d<;>rfl
structure RI(n:Nat)(Dl:List (Option Tmp))(S:List (Option NM))(L0:Tmp->NM)(M:(Nat->Bool)->(Tmp->NM)->NL->Prop)(ℓ:Nat->Bool)(a:Act)(w:NL):Prop where
 defers:a.defers=[]
 size:a.tmps.size=n
 vals:∀i t v,Dl[i]? =J (J t)->S[i]? =J (J v)->ℓ i=NC->a.tmps.getD t NQ=v
 out:∀t,(∀i,Dl[i]? =J (J t)->ℓ i=ND)->a.tmps.getD t NQ=L0 t
 mem:M ℓ (λt=>a.tmps.getD t NQ) w
variable {Dl:List (Option Tmp)}{S:List (Option NM)}{L0:Tmp->NM}{M:(Nat->Bool)->(Tmp->NM)->NL->Prop}
def RI.start(c:a.defers=[])(g:a.tmps.size=n)(e:M (λ_=>ND) (λt=>a.tmps.getD t NQ) w):RI n Dl S (λt=>a.tmps.getD t NQ) M (λ_=>ND) a w:=
 ⟨c,g,λ_ _ _ _ _ h=>(by cases h),λ_ _=>rfl,e⟩
def apart_of:∀{Dl:List (Option Tmp)},(Dl.filterMap id).Nodup->∀{i j:Nat}{t:Tmp},Dl[i]? =J (J t)->Dl[j]? =J (J t)->i=j
 |[],_,i,j,t,h,_=>by simp at h
 |x::l,hn,i,j,t,h1,h2=>by
  cases x with
  |none=>
   have c:(l.filterMap id).Nodup:=hn;cases i with
   |zero=>simp at h1
   |succ i=>
    cases j with
    |zero=>simp at h2
    |succ j=>rw[apart_of c (i:=i) (j:=j) (t:=t) (by simpa using h1) (by simpa using h2)]
  |some x=>
   have c:(x::l.filterMap id).Nodup:=hn;rw[List.nodup_cons]at c;have e:∀{i:Nat},l[i]? =J (J x)->x∈l.filterMap id:=fun{i} h=>List.mem_filterMap.2 ⟨J x,YQ h,rfl⟩
   cases i with
   |zero=>
    simp at h1;subst h1;cases j with|zero=>rfl|succ j=>exact absurd (e (i:=j) (by simpa using h2)) c.1
   |succ i=>
    cases j with
    |zero=>
     simp at h2;subst h2;exact absurd (e (i:=i) (by simpa using h1)) c.1
    |succ j=>rw[apart_of c.2 (i:=i) (j:=j) (t:=t) (by simpa using h1) (by simpa using h2)]
def RI.put(h:RI n Dl S L0 M ℓ a w){d:Tmp}(A:(Dl.filterMap id).Nodup)(hi:Dl[i]? =J (J d))(C:d<n){v:NM}(y:∀v',S[i]? =J (J v')->v=v')
 (z:M (upd ℓ i) (λt=>if t=d then v else a.tmps.getD t NQ) w'):RI n Dl S L0 M (upd ℓ i) (a.put (J d) v) w':=by
 have g:=kU (a:=a) (v:=v) (by rw[h.size];exact C);refine⟨by rw[put_defers];exact h.defers,by rw[DO];exact h.size,?_,?_,?_⟩
 .intro j t v' c hv hl;rw[g];split
  .rename_i e;subst e;have:=apart_of A hi c;subst this;exact y v' hv
  .rename_i e;refine h.vals j t v' c hv ?_;rw[upd_ne]at hl
   .exact hl
   .rintro rfl;rw[hi]at c;simp at c;exact e c.symm
 .intro t ht;rw[g];split
  .rename_i e;subst e;have:=ht i hi;rw[HL]at this;cases this
  .refine h.out t λj c=> ?_
   have p:j≠i:=by
    rintro rfl;have:=ht j c;rw[HL]at this;cases this
   have:=ht j c
   rwa [upd_ne p]at this
 .have e:(λt=>(a.put (J d) v).tmps.getD t NQ)=λt=>if t=d then v else a.tmps.getD t NQ:=funext g
  rw[e];exact z
def RI.skip(h:RI n Dl S L0 M ℓ a w)(hi:Dl[i]? =J I)(g:M (upd ℓ i) (λt=>a.tmps.getD t NQ) w'):RI n Dl S L0 M (upd ℓ i) a w':=by
 refine⟨h.defers,h.size,?_,?_,g⟩
 .intro j t v' c hv hl;refine h.vals j t v' c hv ?_;rw[upd_ne]at hl
  .exact hl
  .rintro rfl;rw[hi]at c;cases c
 .intro t ht;refine h.out t λj c=> ?_
  have e:j≠i:=by rintro rfl;rw[hi]at c;cases c
  have:=ht j c
  rwa [upd_ne e]at this
def EM{K:Act->NL->Prop}(e:ops[i]? =J o)(c:o.guard=I)(h:o.wp P a w K Q):wpOp P ops Q i K a w:=by
 unfold wpOp;simp only[e,Region.wanted,c,XY];exact .inl h
def RI.det(h:RI n Dl S L0 M ℓ a w)(e:ops[i]? =J o)(A:o.guard=I){d:Tmp}(c:o.dst=J d)(y:(Dl.filterMap id).Nodup)(hi:Dl[i]? =J (J d))(z:d<n){v:NM}(g:∀v',S[i]? =J (J v')->v=v')
 (C:(NU a.eval o).run P w= .ok (.value v) w')(p:M (upd ℓ i) (λt=>if t=d then v else a.tmps.getD t NQ) w'):wpOp P ops Q i (λj w'=>RI n Dl S L0 M (upd ℓ i) j w') a w:=by
 refine EM e A ?_;unfold Oper.wp;rw[C,QN,c];exact h.put y hi z g p
def RI.v(h:RI n Dl S L0 M ℓ a w){A:List Nat}(c:∀k∈A,ℓ k=NC)(i t:Nat){v:NM}(g:Dl[i]? =J (J t):=by rfl)(e:S[i]? =J (J v):=by rfl)(j:i∈A:=by decide):a.tmps.getD t NQ=v:=h.vals i t v g e (c i j)
def RI.dt(h:RI n Dl S L0 M ℓ a w)(e:ops[i]? =J o:=by rfl)(y:o.guard=I:=by rfl){d:Tmp}(c:o.dst=J d:=by rfl)(z:(Dl.filterMap id).Nodup:=by decide)(hi:Dl[i]? =J (J d):=by rfl)(p:d<n:=by decide){v:NM}(j:S[i]? =J (J v):=by rfl)
 (r:(NU a.eval o).run P w= .ok (.value v) w')(m:M (upd ℓ i) (λt=>if t=d then v else a.tmps.getD t NQ) w'):wpOp P ops Q i (λg w'=>RI n Dl S L0 M (upd ℓ i) g w') a w:=
 h.det e y c z hi p (λv' g=>YT (YT (j.symm.trans g))) r m
def RI.eff(h:RI n Dl S L0 M ℓ a w)(e:ops[i]? =J o)(p:o.guard=I)(c:o.dst=I)(hi:Dl[i]? =J I)
 (y:(NU a.eval o).run P w= .ok .skip w')(j:M (upd ℓ i) (λt=>a.tmps.getD t NQ) w'):wpOp P ops Q i (λg w'=>RI n Dl S L0 M (upd ℓ i) g w') a w:=by
 refine EM e p ?_;unfold Oper.wp;rw[y,Oper.upon_skip,c];exact h.skip hi j
def RI.call(h:RI n Dl S L0 M ℓ a w)(j:ops[i]? =J o)(A:o.guard=I){d:Tmp}(c:o.dst=J d)(C:(Dl.filterMap id).Nodup)(hi:Dl[i]? =J (J d))(z:d<n){f:FuncId}{args:Array NM}
 (g:(NU a.eval o).run P w= .ok (.enter f args) w)
 (y:NW P f args w λe w'=>∃v,e= .returned v/\(∀v',S[i]? =J (J v')->v=v')/\M (upd ℓ i) (λt=>if t=d then v else a.tmps.getD t NQ) w'):wpOp P ops Q i (λp w'=>RI n Dl S L0 M (upd ℓ i) p w') a w:=by
 refine EM j A ?_;unfold Oper.wp;rw[g,Oper.upon_enter,c];refine y.mono ?_;rintro e _ ⟨v,rfl,e,p⟩;exact h.put C hi z e p
def qT{arr:Array NM}(h:arr.size=n):arr=((List.range n).map λt=>arr.getD t NQ).toArray:=by
 apply Array.ext
 .simp[h]
 .intro i h1 h2;simp[Array.getD_eq_getD_getElem?,YN h1]
def oh(c:a.defers=[])(h:a.tmps.size=n):a={tmps:=((List.range n).map λt=>a.tmps.getD t NQ).toArray,defers:=[]}:=by
 cases a;simp only at c h;subst c;rw[<-qT h]
structure Bx where
 al:Nat
 t:Tmp
 st:Nat
 z:Array NM
 fin:Array NM
 ty:NT
def Bxs(w1:NL)(B:List Bx)(ℓ:Nat->Bool)(x:Tmp->NM)(w:NL):Prop:=
 Ext w1 w/\(∀e∈B,ℓ e.al=NC->∃b,x e.t= Z (J ⟨b,0,I⟩)/\w1.heap.size<=b/\w.heap[b]? =J (U (if ℓ e.st then e.fin else e.z) e.ty))/\
 (∀e∈B,∀c∈B,e.t≠c.t->ℓ e.al=NC->ℓ c.al=NC->x e.t≠x c.t)/\∀e∈B,ℓ e.st=NC->ℓ e.al=NC
variable {B:List Bx}{x:Tmp->NM}
def Bxs.start(w1:NL)(B:List Bx)(x:Tmp->NM):Bxs w1 B (λ_=>ND) x w1.drew:=
 ⟨(Ext.rfl' w1).drew,λ_ _ h=>by(cases h),λ_ _ _ _ _ h=>by(cases h),λ_ _ h=>by(cases h)⟩
def farB(B:List Bx)(i:Nat)(d:Tmp):Bool:=B.all λe=>e.al !=i&&e.st !=i&&e.t !=d
def Bxs.keep(h:Bxs w1 B ℓ x w)(e:Ext w w'){d:Tmp}{v:NM}(F:farB B i d=NC):Bxs w1 B (upd ℓ i) (λt=>if t=d then v else x t) w':=by
 obtain⟨c,C,H,z⟩:=h
 have y:∀e∈B,e.al≠i/\e.st≠i/\e.t≠d:=λe g=>by
  have:=YL.1 F e g;simp at this;exact⟨this.1.1,this.1.2,this.2⟩
 refine⟨c.trans e,?_,?_,λc j g=>by obtain⟨p,A,_⟩:=y c j;rw[upd_ne A]at g;rw[upd_ne p];exact z c j g⟩
 .intro c j g;obtain⟨p,A,z⟩:=y c j;rw[upd_ne p]at g;obtain⟨b,K,E,L⟩:=C c j g;refine⟨b,by simp only;rw[XB z];exact K,E,?_⟩;rw[upd_ne A];exact e.get L
 .intro c j c' hc' Ab g hl';obtain⟨p,_,z⟩:=y c j;obtain⟨C,_,A⟩:=y c' hc';rw[upd_ne p]at g;rw[upd_ne C]at hl';simp only;rw[XB z,XB A];exact H c j c' hc' Ab g hl'
def Bxs.k(h:Bxs w1 B ℓ x w){d:Tmp}{v:NM}(c:farB B i d=NC:=by rfl):Bxs w1 B (upd ℓ i) (λt=>if t=d then v else x t) w:=h.keep (Ext.rfl' _) c
def mT(B:List Bx)(i:Nat)(d:Tmp):Bool:=B.all λe=>(e.al==i)==(e.t==d)&&e.st !=i
def Bxs.make(h:Bxs w1 B ℓ x w){c:Bx}(hc:c∈B)(hi:c.al=i)(Mv:ℓ i=ND)(hf:mT B i c.t=NC)(Ht:∀e∈B,e.al=i->e.z=c.z/\e.ty=c.ty/\e.st=c.st):
 Bxs w1 B (upd ℓ i) (λt=>if t=c.t then Z (J w.heap.size)else x t) (w.alloc (U c.z c.ty)):=by
 obtain⟨Y,V,h3,X⟩:=h
 have K:∀e∈B,((e.al=i)↔(e.t=c.t))/\e.st≠i:=λe p=>by
  have:=YL.1 hf e p;simp at this;refine⟨?_,this.2⟩;have h:=this.1;constructor
  .intro g;simpa[g]using h
  .intro g;simpa[g]using h
 have Al:ℓ c.st=ND:=by
  cases hb':ℓ c.st
  .rfl
  .have:=X c hc hb';rw[hi,Mv]at this;cases this
 refine⟨Y.alloc _,?_,?_,λe p y=>by
  obtain⟨_,O⟩:=K e p;rw[upd_ne O]at y;have:=X e p y;by_cases g:e.al=i
  .rw[g];exact HL _ _
  .rw[upd_ne g];exact this⟩
 .intro e p y;obtain⟨F,O⟩:=K e p;by_cases g:e.al=i
  .obtain⟨z1,z2,z3⟩:=Ht e p g;refine⟨w.heap.size,by simp only;rw[YZ (F.1 g)],Y.size,?_⟩;rw[upd_ne O,z3,Al,Z3,YZ rfl,z1,z2];rfl
  .rw[upd_ne g]at y;obtain⟨b,L,Aw,T⟩:=V e p y;refine⟨b,by simp only;rw[XB (λe2=>g (F.2 e2))];exact L,Aw,?_⟩;rw[upd_ne O];exact((Ext.rfl' w).alloc _).get T
 .have key:∀e∈B,e.al≠i->ℓ e.al=NC->x e.t≠Z (J w.heap.size):=by
   intro e p g y hx;obtain⟨b,L,_,T⟩:=V e p y;rw[hx]at L;simp at L;have:=(YF.1 T).1;omega
  intro e p H E W y A;obtain⟨F,_⟩:=K e p;obtain⟨C,_⟩:=K H E;simp only;by_cases g:e.al=i
  .have j:H.al≠i:=λh=>W ((F.1 g).trans (C.1 h).symm)
   rw[upd_ne j]at A;rw[YZ (F.1 g),XB (λh=>j (C.2 h))];exact λh=>key H E j A h.symm
  .rw[upd_ne g]at y;rw[XB (λh=>g (F.2 h))];by_cases j:H.al=i
   .rw[YZ (C.1 j)];exact key e p g y
   .rw[upd_ne j]at A;rw[XB (λh=>j (C.2 h))];exact h3 e p H E W y A
def AF{v:NM}(h:w.heap[b]? =J (U #[u,v] t)):
 (((w.setCell b u').setCell ⟨b,1,I⟩ v').heap[b]? =J (U #[u',v'] t))/\(∀k,k≠b->((w.setCell b u').setCell ⟨b,1,I⟩ v').heap[k]? =w.heap[k]?)/\w.heap.size<=((w.setCell b u').setCell ⟨b,1,I⟩ v').heap.size/\((w.setCell b u').setCell ⟨b,1,I⟩ v').tape=w.tape/\((w.setCell b u').setCell ⟨b,1,I⟩ v').os=w.os/\((w.setCell b u').setCell ⟨b,1,I⟩ v').output=w.output:=
 ⟨Go.Proofs.Tryq.set_pair h u' v',λk c=>(Go.Proofs.Tryq.set_ne (w:=w.setCell _ _) c _).trans (Go.Proofs.Tryq.set_ne c _),by
   have e:=VT w b u';have c:=VT (w.setCell b u') ⟨b,1,I⟩ v';rw[c.size,e.size];exact⟨XA _,c.tape.trans e.tape,c.os.trans e.os,c.output.trans e.output⟩⟩
def fillB(B:List Bx)(i:Nat)(d:Tmp):Bool:=B.all λe=>e.al !=i&&((e.st==i)==(e.t==d))
def Bxs.fill(h:Bxs w1 B ℓ x w){c:Bx}(hc:c∈B)(hi:c.st=i)(C:ℓ c.al=NC)(hf:fillB B i c.t=NC)(T:∀e∈B,e.st=i->e.al=c.al/\e.fin=c.fin/\e.ty=c.ty){b:Nat}(H:x c.t= Z (J b))
 (hs:w.heap.size<=w'.heap.size)(W:∀k,k≠b->w'.heap[k]? =w.heap[k]?)(ht:w'.tape=w.tape)(K:w'.os=w.os)(Gw:w'.output=w.output)(hb:w'.heap[b]? =J (U c.fin c.ty)):
 Bxs w1 B (upd ℓ i) x w':=by
 obtain⟨y,O,X,h4⟩:=h
 have z:∀e∈B,e.al≠i/\((e.st=i)↔(e.t=c.t)):=λe g=>by
  have:=YL.1 hf e g;simp at this;refine⟨this.1,?_⟩;have h:=this.2;constructor
  .intro ha;simpa[ha]using h
  .intro ha;simpa[ha]using h
 obtain⟨_,F,Aw,_⟩:=O c hc C;rw[H]at F;simp at F;subst F
 refine⟨⟨XC y.size hs,λk hk=>(W k OA).trans (y.old k hk),ht.trans y.tape,K.trans y.os,Gw.trans y.output⟩,?_,?_,λe g j=>by
  obtain⟨L,_⟩:=z e g;rw[upd_ne L];by_cases p:e.st=i
  .rw[(T e g p).1];exact C
  .rw[upd_ne p]at j;exact h4 e g j⟩
 .intro e g j;obtain⟨L,Y⟩:=z e g;rw[upd_ne L]at j;by_cases p:e.st=i
  .obtain⟨y1,y2,y3⟩:=T e g p;refine⟨b,by rw[Y.1 p];exact H,Aw,?_⟩;rw[p,HL,hb,y2,y3];rfl
  .rw[upd_ne p];obtain⟨E,V,c2,c3⟩:=O e g j;refine⟨E,V,c2,?_⟩;have A:E≠b:=by
    rintro rfl;have:=X e g c hc (λh=>p (Y.2 h)) j C;rw[V,H]at this;exact this rfl
   rw[W E A];exact c3
 .intro e g e' he' A j hl';rw[upd_ne (z e g).1]at j;rw[upd_ne (z e' he').1]at hl';exact X e g e' he' A j hl'
end Go.Nk
namespace Go.Nk
open Go Go.Region
def AllIx.arr{p:Nat->Oper->Prop}(h:AllIx p 0 ops.toList):∀i o,ops[i]? =J o->p i o:=by
 intro i o c;have:=h.get i o (by rw[Array.getElem?_toList];exact c);rw[VD]at this;exact this
def RI.at_out{Dl:List (Option Tmp)}{S:List (Option NM)}{L0:Tmp->NM}{M:(Nat->Bool)->(Tmp->NM)->NL->Prop}(h:RI n Dl S L0 M ℓ a w)(t:Tmp)(c:Dl.contains (J t)=ND):a.tmps.getD t NQ=L0 t:=
 h.out t λi hi=>by
  have:=YQ hi;rw[<-VS]at this;rw[this]at c;cases c
end Go.Nk
end
namespace Go.Proofs.Tryq
open Go Go.Nk Go.RowKit
def Tg(N:Int)(p q:Int×Int):Int:=if p.2 - q.1<=N/\q.2 - p.1<=N then 1 else if N<max p.1 q.1 - min p.2 q.2 then 2 else 0
def U1(a b c:Int)(x y:Sf)(k:Nat):Int:=Tg (alw a b c k) (spA x k) (spA y k)
def Xn{p:Int×Int}(h:ZF p=NC):0<=p.1/\p.1<=p.2/\p.2<=9999:=by simpa[ZF]using h
def GZ(a b c m N:Int)(y p n K u f g o:Nat)(E C z A:Int)(i j:Nat)(w:NL)(hu:u<3)(F2:y<w.heap.size)(hi:i<n)(hj:j<n)(hn:n<=20)
 (g0:w.cell? ⟨2,u*2,I⟩=J (.func (.func f) #[] #[]))(g1:w.cell? ⟨2,u*2+1,I⟩=J (.func (.func g) #[] #[]))
 (hf:∀(b p:Nat)(w:NL),NW prog f #[Z (J ⟨b,p,I⟩)] w (OJ (Z (J ⟨b,p+o,I⟩)) w))
 (hg:∀w,NW prog g #[NJ #[a,b,c,m]] w (OI (NE NF N) w))
 (Hs:∀args w,(callFunc f args).run prog w= .ok (.enter f args) w)(a3:∀args w,(callFunc g args).run prog w= .ok (.enter g args) w)
 (xl:w.cell? ⟨y,p+i*7+o,I⟩=J (NE NF E))(xh:w.cell? ⟨y,p+i*7+o+1,I⟩=J (NE NF C))(yl:w.cell? ⟨y,p+j*7+o,I⟩=J (NE NF z))(yh:w.cell? ⟨y,p+j*7+o+1,I⟩=J (NE NF A))
 (hN:0<=N/\N<=9999)(x1:0<=E)(x2:E<=C)(x3:C<=9999)(y1:0<=z)(y2:z<=A)(y3:A<=9999):
 NW prog 104 #[NJ #[a,b,c,m,NG (J ⟨y,p,I⟩) n K],i,j,u] w (OI (NE NF (Tg N (E,C) (z,A))) w):=by
 have Mv:2<w.heap.size:=by
  unfold World.cell? at g0;split at g0
  .rename_i hh;exact Z5 hh
  .cases g0
 have Oo:∀(v:NL)(o:Obj)(T:Nat),2<v.heap.size->(v.alloc o).cell? ⟨2,T,I⟩=v.cell? ⟨2,T,I⟩:=λv o T h=>World.cell?_alloc_lt _ _ _ h
 obtain⟨_,_⟩:=hN;have G6:(i:Int)<(n:Int):=OA
 have Nh:(j:Int)<(n:Int):=OA
 have Ue:(u:Int)<3:=OA
 have H:Hid (Tg N (E,C) (z,A)=Tg N (E,C) (z,A)):=rfl;generalize hr:Tg N (E,C) (z,A)=r at⊢;rw[hr]at H;replace H:Hid (r=Tg N (E,C) (z,A)):=hr.symm;clear hr;go_enter fk Tryz.func104,Tryz.ntmps104;go_wp2;have Af:Ext w _:=((Ext.rfl' w).alloc (U #[a,b,c,m,NG (J ⟨y,p,I⟩) n K] 117)).alloc (U #[.func (.func f) #[] #[],.func (.func g) #[] #[]] 196);have Jg:((w.alloc (U #[a,b,c,m,NG (J ⟨y,p,I⟩) n K] 117)).alloc (U #[.func (.func f) #[] #[],.func (.func g) #[] #[]] 196)).heap[w.heap.size]? =J (U #[a,b,c,m,NG (J ⟨y,p,I⟩) n K] 117):=by
  simp only[Z3,Z2];rw[XB OA,YZ trivial]
 have Be:((w.alloc (U #[a,b,c,m,NG (J ⟨y,p,I⟩) n K] 117)).alloc (U #[.func (.func f) #[] #[],.func (.func g) #[] #[]] 196)).heap[w.heap.size+1]? =J (U #[.func (.func f) #[] #[],.func (.func g) #[] #[]] 196):=by
  simp only[Z3,Z2];rw[YZ trivial]
 clear Oo g0 g1;replace xl:=Af.cellS xl;replace xh:=Af.cellS xh;replace yl:=Af.cellS yl;replace yh:=Af.cellS yh;generalize World.alloc _ (U #[.func (.func f) #[] #[],.func (.func g) #[] #[]] 196)=w1 at Af Jg Be xl xh yl yh⊢;have q0:=Z0 Jg 0;have q1:=Z0 Jg 1;have q2:=Z0 Jg 2;have q3:=Z0 Jg 3;have q4:=Z0 Jg 4;have p0:=Z0 Be 0;have p1:=Z0 Be 1;simp only[YC,YA,YB]at q0 q1 q2 q3 q4 p0 p1;have Mm:=Z5 Be;refine eC OB OB (RI 73 [J 16,J 17,J 18,J 19,J 20,J 21,J 22,J 23,J 24,J 25,J 26,J 27,J 28,J 29,J 30,J 31,J 32,J 33,J 34,J 35,J 36,J 37,J 38,J 39,J 40,J 41,J 10,J 11,I,I,J 12] [J (Z (J ⟨w.heap.size+1,0,I⟩)),J (.func (.func f) #[] #[]),J (Z (J w.heap.size)),J (Z (J ⟨w.heap.size,4,I⟩)),J (NG (J ⟨y,p,I⟩) n K),J (NE NF i),J (Z (J ⟨y,p+i*7,I⟩)),J (Z (J ⟨y,p+i*7+o,I⟩)),J (Z (J ⟨y,p+i*7+o,I⟩)),J (NJ #[E,C]),J (Z (J ⟨w.heap.size+1,0,I⟩)),J (.func (.func f) #[] #[]),J (Z (J w.heap.size)),J (Z (J ⟨w.heap.size,4,I⟩)),J (NG (J ⟨y,p,I⟩) n K),J (NE NF j),J (Z (J ⟨y,p+j*7,I⟩)),J (Z (J ⟨y,p+j*7+o,I⟩)),J (Z (J ⟨y,p+j*7+o,I⟩)),J (NJ #[z,A]),J (Z (J ⟨w.heap.size+1,1,I⟩)),J (.func (.func g) #[] #[]),J (Z (J w.heap.size)),J (Z (J w.heap.size)),J (NJ #[a,b,c,m]),J (NE NF N),I,I,I,I,J (NE NF N)] _ (Bxs w1 [⟨26,10,28,OH,#[E,C],49⟩,⟨27,11,29,OH,#[z,A],49⟩])) (RI.start rfl rfl (Bxs.start w1 _ _)) (AllIx.arr ⟨?_,?_,?_,?_,?_,?_,?_,?_,?_,?_,?_,?_,?_,?_,?_,?_,?_,?_,?_,?_,?_,?_,?_,?_,?_,?_,?_,?_,?_,?_,?_,trivial⟩) ?_
 .intro ℓ aq W hl hp h;have e9:aq.tmps.getD 9 NQ= Z (J ⟨w.heap.size+1,0,I⟩):=h.at_out 9 rfl;exact h.dt (r:=by simp[go_sem,NU,Act.eval,e9]) (m:=h.mem.k)
 .intro ℓ aq W hl hp h;have b2:=h.v hp 0 16;have F:=h.mem.1.cellS p0;exact h.dt (r:=by simp[go_sem,NU,Act.eval,b2,F]) (m:=h.mem.k)
 .intro ℓ aq W hl hp h;have e4:aq.tmps.getD 4 NQ= Z (J w.heap.size):=h.at_out 4 rfl;exact h.dt (r:=by simp[go_sem,NU,Act.eval,e4]) (m:=h.mem.k)
 .intro ℓ aq W hl hp h;have a0:=h.v hp 2 18;exact h.dt (r:=by simp[go_sem,NU,Act.eval,a0]) (m:=h.mem.k)
 .intro ℓ aq W hl hp h;have c4:=h.v hp 3 19;have F:=h.mem.1.cellS q4;exact h.dt (r:=by simp[go_sem,NU,Act.eval,c4,F]) (m:=h.mem.k)
 .intro ℓ aq W hl hp h;have e1:aq.tmps.getD 1 NQ= NE NF i:=h.at_out 1 rfl;exact h.dt (r:=by simp[go_sem,NU,Act.eval,e1]) (m:=h.mem.k)
 .intro ℓ aq W hl hp h;have a7:=h.v hp 4 20;have b5:=h.v hp 5 21;exact h.dt (r:=by simp[go_sem,NU,Act.eval,a7,b5,Nat.not_le.2 hi]) (m:=h.mem.k)
 .intro ℓ aq W hl hp h;have d2:=h.v hp 1 17;have b3:=h.v hp 6 22;refine h.call rfl rfl rfl OC rfl OC (f:=f) (args:= #[Z (J ⟨y,p+i*7,I⟩)]) (by simp[go_sem,NU,Act.eval,d2,b3,Hs]) ?_;refine(hf _ _ _).r λW' hE=> ?_;subst hE;exact⟨Z (J ⟨y,p+i*7+o,I⟩),rfl,(λv' Y=>YT (YT Y)),h.mem.keep (Ext.rfl' _) rfl⟩
 .intro ℓ aq W hl hp h;have b4:=h.v hp 7 23;exact h.dt (r:=by simp[go_sem,NU,Act.eval,b4]) (m:=h.mem.k)
 .intro ℓ aq W hl hp h;have b6:=h.v hp 8 24;have F:=h.mem.1.cellS xl;have c1:=h.mem.1.cellS xh;exact h.dt (r:=by simp[go_sem,NU,Act.eval,b6,F,c1]) (m:=h.mem.k)
 .intro ℓ aq W hl hp h;have e9:aq.tmps.getD 9 NQ= Z (J ⟨w.heap.size+1,0,I⟩):=h.at_out 9 rfl;exact h.dt (r:=by simp[go_sem,NU,Act.eval,e9]) (m:=h.mem.k)
 .intro ℓ aq W hl hp h;have d0:=h.v hp 10 26;have F:=h.mem.1.cellS p0;exact h.dt (r:=by simp[go_sem,NU,Act.eval,d0,F]) (m:=h.mem.k)
 .intro ℓ aq W hl hp h;have e4:aq.tmps.getD 4 NQ= Z (J w.heap.size):=h.at_out 4 rfl;exact h.dt (r:=by simp[go_sem,NU,Act.eval,e4]) (m:=h.mem.k)
 .intro ℓ aq W hl hp h;have a5:=h.v hp 12 28;exact h.dt (r:=by simp[go_sem,NU,Act.eval,a5]) (m:=h.mem.k)
 .intro ℓ aq W hl hp h;have a2:=h.v hp 13 29;have F:=h.mem.1.cellS q4;exact h.dt (r:=by simp[go_sem,NU,Act.eval,a2,F]) (m:=h.mem.k)
 .intro ℓ aq W hl hp h;have e2:aq.tmps.getD 2 NQ= NE NF j:=h.at_out 2 rfl;exact h.dt (r:=by simp[go_sem,NU,Act.eval,e2]) (m:=h.mem.k)
 .intro ℓ aq W hl hp h;have c6:=h.v hp 14 30;have b7:=h.v hp 15 31;exact h.dt (r:=by simp[go_sem,NU,Act.eval,c6,b7,Nat.not_le.2 hj]) (m:=h.mem.k)
 .intro ℓ aq W hl hp h;have a6:=h.v hp 11 27;have c5:=h.v hp 16 32;refine h.call rfl rfl rfl OC rfl OC (f:=f) (args:= #[Z (J ⟨y,p+j*7,I⟩)]) (by simp[go_sem,NU,Act.eval,a6,c5,Hs]) ?_;refine(hf _ _ _).r λW' hE=> ?_;subst hE;exact⟨Z (J ⟨y,p+j*7+o,I⟩),rfl,(λv' Y=>YT (YT Y)),h.mem.keep (Ext.rfl' _) rfl⟩
 .intro ℓ aq W hl hp h;have a8:=h.v hp 17 33;exact h.dt (r:=by simp[go_sem,NU,Act.eval,a8]) (m:=h.mem.k)
 .intro ℓ aq W hl hp h;have a1:=h.v hp 18 34;have F:=h.mem.1.cellS yl;have c1:=h.mem.1.cellS yh;exact h.dt (r:=by simp[go_sem,NU,Act.eval,a1,F,c1]) (m:=h.mem.k)
 .intro ℓ aq W hl hp h;have e9:aq.tmps.getD 9 NQ= Z (J ⟨w.heap.size+1,0,I⟩):=h.at_out 9 rfl;exact h.dt (r:=by simp[go_sem,NU,Act.eval,e9]) (m:=h.mem.k)
 .intro ℓ aq W hl hp h;have c8:=h.v hp 20 36;have F:=h.mem.1.cellS p1;exact h.dt (r:=by simp[go_sem,NU,Act.eval,c8,F]) (m:=h.mem.k)
 .intro ℓ aq W hl hp h;have e4:aq.tmps.getD 4 NQ= Z (J w.heap.size):=h.at_out 4 rfl;exact h.dt (r:=by simp[go_sem,NU,Act.eval,e4]) (m:=h.mem.k)
 .intro ℓ aq W hl hp h;have a9:=h.v hp 22 38;exact h.dt (r:=by simp[go_sem,NU,Act.eval,a9]) (m:=h.mem.k)
 .intro ℓ aq W hl hp h;have c7:=h.v hp 23 39;have F:=h.mem.1.cellS q0;have c1:=h.mem.1.cellS q1;have c2:=h.mem.1.cellS q2;have c3:=h.mem.1.cellS q3;exact h.dt (r:=by simp[go_sem,NU,Act.eval,c7,F,c1,c2,c3]) (m:=h.mem.k)
 .intro ℓ aq W hl hp h;have d1:=h.v hp 21 37;have b8:=h.v hp 24 40;refine h.call rfl rfl rfl OC rfl OC (f:=g) (args:= #[NJ #[a,b,c,m]]) (by simp[go_sem,NU,Act.eval,d1,b8,a3]) ?_;refine(hg _).r λW' hE=> ?_;exact⟨NE NF N,rfl,(λv' Y=>YT (YT Y)),h.mem.keep hE rfl⟩
 .intro ℓ aq W hl hp h;exact h.det rfl rfl rfl OC rfl OC (λv' Y=>by simp at Y) OE (h.mem.make (c:=⟨26,10,28,OH,#[E,C],49⟩) OD rfl hl rfl (by intro e V hs;simp only[XG,XO,UE]at V;rcases V with rfl|rfl<;>first|exact⟨rfl,rfl,rfl⟩|(simp at hs)))
 .intro ℓ aq W hl hp h;exact h.det rfl rfl rfl OC rfl OC (λv' Y=>by simp at Y) OE (h.mem.make (c:=⟨27,11,29,OH,#[z,A],49⟩) OD rfl hl rfl (by intro e V hs;simp only[XG,XO,UE]at V;rcases V with rfl|rfl<;>first|exact⟨rfl,rfl,rfl⟩|(simp at hs)))
 .intro ℓ aq W hl hp h;have d3:=h.v hp 9 25;obtain⟨b9,x9,l9,O⟩:=h.mem.2.1 ⟨26,10,28,OH,#[E,C],49⟩ OD (hp 26 OC);dsimp only at x9 O;rw[hl]at O;replace O:W.heap[b9]? =J (U OH 49):=O;have L:=AF (u':= NE NF E) (v':= NE NF C) O;have X:=Zc O;exact h.eff rfl rfl rfl rfl (by simp[go_sem,NU,Act.eval,x9,X.1,X.2.1,X.2.2.1,X.2.2.2,d3]) (h.mem.fill (c:=⟨26,10,28,OH,#[E,C],49⟩) OD rfl (hp 26 OC) rfl (by intro e V hs;simp only[XG,XO,UE]at V;rcases V with rfl|rfl<;>first|exact⟨rfl,rfl,rfl⟩|(simp at hs)) x9 L.2.2.1 L.2.1 L.2.2.2.1 L.2.2.2.2.1 L.2.2.2.2.2 L.1)
 .intro ℓ aq W hl hp h;have c9:=h.v hp 19 35;obtain⟨b9,x9,l9,O⟩:=h.mem.2.1 ⟨27,11,29,OH,#[z,A],49⟩ OD (hp 27 OC);dsimp only at x9 O;rw[hl]at O;replace O:W.heap[b9]? =J (U OH 49):=O;have L:=AF (u':= NE NF z) (v':= NE NF A) O;have X:=Zc O;exact h.eff rfl rfl rfl rfl (by simp[go_sem,NU,Act.eval,x9,X.1,X.2.1,X.2.2.1,X.2.2.2,c9]) (h.mem.fill (c:=⟨27,11,29,OH,#[z,A],49⟩) OD rfl (hp 27 OC) rfl (by intro e V hs;simp only[XG,XO,UE]at V;rcases V with rfl|rfl<;>first|exact⟨rfl,rfl,rfl⟩|(simp at hs)) x9 L.2.2.1 L.2.1 L.2.2.2.1 L.2.2.2.2.1 L.2.2.2.2.2 L.1)
 .intro ℓ aq W hl hp h;have a4:=h.v hp 25 41;exact h.dt (r:=by simp[go_sem,NU,Act.eval,a4]) (m:=h.mem.k)
 .intro ℓ aq W Au h;obtain⟨b0,x0,_,m0⟩:=h.mem.2.1 ⟨26,10,28,OH,#[E,C],49⟩ OD (Au 26 OC);dsimp only at x0 m0;rw[Au 28 OC]at m0;replace m0:W.heap[b0]? =J (U #[E,C] 49):=m0;obtain⟨b1,x1,_,m1⟩:=h.mem.2.1 ⟨27,11,29,OH,#[z,A],49⟩ OD (Au 27 OC);dsimp only at x1 m1;rw[Au 29 OC]at m1;replace m1:W.heap[b1]? =J (U #[z,A] 49):=m1;have Bj:=h.mem.1;have ea:=oh h.defers h.size;simp only[List.range,List.range.loop,List.map]at ea;rw[ea];clear ea;rw[(show aq.tmps.getD 1 NQ= NE NF i from h.at_out 1 rfl),(show aq.tmps.getD 2 NQ= NE NF j from h.at_out 2 rfl),(show aq.tmps.getD 4 NQ= Z (J w.heap.size)from h.at_out 4 rfl),(show aq.tmps.getD 9 NQ= Z (J ⟨w.heap.size+1,0,I⟩)from h.at_out 9 rfl),(show aq.tmps.getD 12 NQ= NE NF N from h.vals 30 12 _ rfl rfl (Au 30 OC)),x0,x1];iterate 66 generalize aq.tmps.getD _ NQ=u
  clear h Au;have A2:=Af.trans Bj;have g0:=Zc m0;have d7:=g0.1;have d6:=g0.2.1;have g1:=Zc m1;have d5:=g1.1;have d4:=g1.2.1;clear g0 g1;go_wp2
  all_goals
   go_ret;refine⟨ZK ?_,A2⟩;have HH:=H.out;simp only[Tg]at HH;rw[HH]
   (split<;>try split)
   all_goals first|rfl|(exfalso;simp at*;omega)
def ey(a b c m:Int)(h e n g:Nat)(x y:Sf)(i j:Nat)(w:NL)(C:Meas w)(K:h<w.heap.size)(hi:i<n)(H:j<n)(L:n<=20)
 (E:ShaftAt w h (e+i*7) x)(A:ShaftAt w h (e+j*7) y)(F:0<=a/\a<=9999)(p:ZF (spA x 0)=NC)(z:ZF (spA y 0)=NC):
 NW prog 104 #[NJ #[a,b,c,m,NG (J ⟨h,e,I⟩) n g],i,j,NE NF 0] w (OI (NE NF (U1 a b c x y 0)) w):=
 GZ a b c m a h e n g 0 279 280 1 x.a0 x.a1 y.a0 y.a1 i j w OA K hi H L (C 0 OA) (C 1 OA) aG (dH a b c m) (Sm 279) (Sm 280) E.k1 E.k2 A.k1 A.k2 F (Xn p).1 (Xn p).2.1 (Xn p).2.2 (Xn z).1 (Xn z).2.1 (Xn z).2.2
def gO(a b c m:Int)(h e n g:Nat)(x y:Sf)(i j:Nat)(w:NL)(C:Meas w)(K:h<w.heap.size)(hi:i<n)(H:j<n)(L:n<=20)
 (E:ShaftAt w h (e+i*7) x)(A:ShaftAt w h (e+j*7) y)(F:0<=b/\b<=9999)(p:ZF (spA x 1)=NC)(z:ZF (spA y 1)=NC):
 NW prog 104 #[NJ #[a,b,c,m,NG (J ⟨h,e,I⟩) n g],i,j,NE NF 1] w (OI (NE NF (U1 a b c x y 1)) w):=
 GZ a b c m b h e n g 1 281 282 3 x.b0 x.b1 y.b0 y.b1 i j w OA K hi H L (C 2 OA) (C 3 OA) BS (AO a b c m) (Sm 281) (Sm 282) E.k3 E.k4 A.k3 A.k4 F (Xn p).1 (Xn p).2.1 (Xn p).2.2 (Xn z).1 (Xn z).2.1 (Xn z).2.2
def jj(a b c m:Int)(h e n g:Nat)(x y:Sf)(i j:Nat)(w:NL)(C:Meas w)(K:h<w.heap.size)(hi:i<n)(H:j<n)(L:n<=20)
 (E:ShaftAt w h (e+i*7) x)(A:ShaftAt w h (e+j*7) y)(F:0<=c/\c<=9999)(p:ZF (spA x 2)=NC)(z:ZF (spA y 2)=NC):
 NW prog 104 #[NJ #[a,b,c,m,NG (J ⟨h,e,I⟩) n g],i,j,NE NF 2] w (OI (NE NF (U1 a b c x y 2)) w):=
 GZ a b c m c h e n g 2 283 284 5 x.c0 x.c1 y.c0 y.c1 i j w OA K hi H L (C 4 OA) (C 5 OA) ak (aL a b c m) (Sm 283) (Sm 284) E.k5 E.k6 A.k5 A.k6 F (Xn p).1 (Xn p).2.1 (Xn p).2.2 (Xn z).1 (Xn z).2.1 (Xn z).2.2
end Go.Proofs.Tryq
