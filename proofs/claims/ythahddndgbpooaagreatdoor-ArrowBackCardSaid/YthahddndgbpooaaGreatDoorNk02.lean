import Derived.Test.YthahddndgbpooaaGreatDoorNkA
import Derived.Test.YthahddndgbpooaaGreatDoorNk01
set_option linter.all false
open Go
variable {z z':Array Value}{Λ:Loop->Prop}{L L':Nat->Prop}{P:Program}{t:TypeId}{x x' y y':Value}
namespace Go.Nk
variable [Ban]
theorem Z6f(P:Program)(fs:Array Func):∀n t u,(Z6 P fs).alikeButTags n t u=P.alikeButTags n t u:=by
 intro n
 induction n with
 |zero=>intro t u;rfl
 |succ n ih=>intro t u;simp only[Program.alikeButTags,ih];rfl
theorem Z2F(P:Program)(fs:Array Func)(t:TypeId):(Z6 P fs).stoodInHeld t=P.stoodInHeld t:=by
 unfold Program.stoodInHeld Program.stoodInAs;simp only[Z6f];rfl
theorem Z2G(P:Program)(fs:Array Func):∀n t,(Z6 P fs).eqGuardType n t=P.eqGuardType n t:=by
 intro n
 induction n with
 |zero=>intro t;rfl
 |succ n ih=>
  intro t;have e:(Z6 P fs).eqGuardType n=P.eqGuardType n:=funext ih;simp only[Program.eqGuardType,e];rfl
def Z75(P:Program):Nat->TypeId->Bool
 |0,_=>false
 |n+1,t=>match P.underlying t with
  |some .bool|some (.int _)|some .string|some (.slice _)|some (.map _ _)|some (.func _ _ _)=>true
  |some (.struct fs)=>fs.toList.all λf=>Z75 P n f.type
  |some (.array _ e)=>Z75 P n e
  |_=>false
section
variable {fs:Array Func}{ρ:Nat->Nat}
variable {α β γ δ σ σ':Type}{A:(Nat->Prop)->α->β->Prop}{B:(Nat->Prop)->γ->δ->Prop}
theorem ZcH(op:BinOp)(k yk:IntKind)(x y:Int):Q P fs Λ P.globals.size ρ L (VR ρ) (Op.shift op k x yk y) (Op.shift op k x yk y):=by
 unfold Op.shift;refine Q.ite UO (λ_=>Z02 _ rfl) (λ_=> ?_);cases op<;>first|exact Q.pure (.int _ _)|exact Q.stuck
theorem Z41(op:BinOp)(k:IntKind)(x y:Int):Q P fs Λ P.globals.size ρ L (VR ρ) (Op.intArith op k x y) (Op.intArith op k x y):=by
 unfold Op.intArith;cases op<;>first|exact Q.pure (.int _ _)|exact Q.stuck
theorem ZaW(op:BinOp)(k:IntKind)(x y:Int):Q P fs Λ P.globals.size ρ L (VR ρ) (Op.intDiv op k x y) (Op.intDiv op k x y):=by
 unfold Op.intDiv;refine Q.ite UO (λ_=>Z02 _ rfl) (λ_=> ?_);cases op<;>first|exact Q.pure (.int _ _)|exact Q.stuck
theorem Z5l(op:BinOp)(k:IntKind)(x y:Int):Q P fs Λ P.globals.size ρ L (VR ρ) (Op.intBits op k x y) (Op.intBits op k x y):=by
 unfold Op.intBits;cases op<;>first|exact Q.pure (.int _ _)|exact Q.stuck
theorem ZaX(op:BinOp)(x y:Int):Q P fs Λ P.globals.size ρ L (VR ρ) (Op.intCmp op x y) (Op.intCmp op x y):=by
 unfold Op.intCmp;cases op<;>first|exact Q.pure (.bool _)|exact Q.stuck
theorem Z2H(op:BinOp)(x y:ByteArray):Q P fs Λ P.globals.size ρ L (VR ρ) (Op.stringOp op x y) (Op.stringOp op x y):=by
 unfold Op.stringOp;cases op<;>first|exact Q.pure (.bool _)|exact Q.stuck|exact Q.ite UO (λ_=>Q.unsupported (by simp)) (λ_=>Q.pure (.string _))
theorem ZcI(op:UnOp){v v':Value}(hv:VRel ρ L v v'):Q P fs Λ P.globals.size ρ L (VR ρ) (Op.unary op v) (Op.unary op v'):=by
 cases hv with
 |int k n=>
  cases op with
  |neg=>simp only[Op.unary];exact Z41 _ _ _ _
  |xor=>simp only[Op.unary];exact Z5l _ _ _ _
  |_=>exact Q.stuck
 |bool b=>
  cases op with
  |not=>exact Q.pure (.bool _)
  |_=>exact Q.stuck
 |ptr _=>
  cases op with
  |neg|xor=>exact Q.unsupported (u:= .addressObserved) (by simp)
  |_=>exact Q.stuck
 |_=>cases op<;>exact Q.stuck
inductive StR(R:(Nat->Prop)->σ->σ'->Prop)(L:Nat->Prop):ForInStep σ->ForInStep σ'->Prop
 |done {s s'}:R L s s'->StR R L (.done s) (.done s')
 |yield {s s'}:R L s s'->StR R L (.yield s) (.yield s')
theorem Z2l(R:(Nat->Prop)->σ->σ'->Prop)(f:γ->σ->Sem (ForInStep σ))(g:γ->σ'->Sem (ForInStep σ')):∀(l:List γ)(L:Nat->Prop),
 (∀x∈l,∀(L':Nat->Prop) s s',(∀b,L b->L' b)->R L' s s'->Q P fs Λ P.globals.size ρ L' (StR R) (f x s) (g x s'))->∀s s',R L s s'->Q P fs Λ P.globals.size ρ L R (forIn l s f) (forIn l s' g):=by
 intro l
 induction l with
 |nil=>intro L _ s s' h;simp only[List.forIn_nil];exact Q.pure h
 |cons x l ih=>
  intro L hf s s' h;simp only[List.forIn_cons];refine(hf x YY L s s' (λ_ h=>h) h).bind ?_;intro r r' L1 g1 hr;cases hr with
  |done h=>exact Q.pure h
  |yield h=>exact ih L1 (λy hy L' s s' hL=>hf y (YW _ hy) L' s s' (λb hb=>hL b (g1 b hb))) _ _ h
theorem q_equalIn:∀(n:Nat)(L:Nat->Prop)(t:TypeId){x x' y y':Value},Z75 P n t=true->VRel ρ L x x'->VRel ρ L y y'->Q P fs Λ P.globals.size ρ L EQ (Op.equalIn n t x y) (Op.equalIn n t x' y'):=by
 intro n
 induction n with
 |zero=>intro L t x x' y y' h;simp[Z75] at h
 |succ n ih=>
  intro L t x x' y y' ht hx hy;unfold Op.equalIn;refine(Za t).bind ?_;rintro d _ L1 g1 ⟨rfl,hd⟩;simp only[Z75,hd] at ht;replace hx:=hx.up g1;replace hy:=hy.up g1;cases d with
  |bool=>
   cases hx with
   |bool _=>
    cases hy with
    |bool _=>exact Q.pure rfl
    |_=>exact Q.stuck
   |_=>exact Q.stuck
  |string=>
   cases hx with
   |string _=>
    cases hy with
    |string _=>exact Q.pure rfl
    |_=>exact Q.stuck
   |_=>exact Q.stuck
  |int k0=>
   cases hx with
   |int k a=>
    cases hy with
    |int k' b=>exact Q.ite UO (λ_=>Q.pure rfl) (λ_=>Q.stuck)
    |ptr h=>
     cases a with
     |ofNat m=>cases m with
      |zero=>exact Q.pure rfl
      |succ m=>exact Q.unsupported (u:= .addressObserved) (by simp)
     |negSucc m=>exact Q.unsupported (u:= .addressObserved) (by simp)
    |nilPtr=>
     cases a with
     |ofNat m=>cases m with
      |zero=>exact Q.unsupported (u:= .addressObserved) (by simp)
      |succ m=>exact Q.unsupported (u:= .addressObserved) (by simp)
     |negSucc m=>exact Q.unsupported (u:= .addressObserved) (by simp)
    |_=>
     cases a with
     |ofNat m=>cases m<;>exact Q.stuck
     |negSucc m=>exact Q.stuck
   | @ptr a ha=>
     cases hy with
     |int k' b=>
      cases b with
      |ofNat m=>cases m with
       |zero=>exact Q.pure rfl
       |succ m=>exact Q.unsupported (u:= .addressObserved) (by simp)
      |negSucc m=>exact Q.unsupported (u:= .addressObserved) (by simp)
     | @ptr b hb=>
       dsimp only;refine(Z06 a ha).bind ?_;rintro⟨a1,l1⟩ _ L2 g2 ⟨rfl,Id⟩;refine(Z06 b (g2 _ hb)).bind ?_;rintro⟨b1,l2⟩ _ L3 g3 ⟨rfl,B9⟩;refine Q.good λhK=>Q.program ?_
       refine Q.ite ?_ (λ_=> ?_) (λ_=> ?_)
       ·have h1:=hK.block (g3 _ Id) B9;have h2:=hK.2 _ (g3 _ Id);constructor
        ·exact λh=>have h:=RQ.1 h;RQ.2 ⟨XW.2 (h1.2 (XW.1 h.1)),XX (h2.2 (TR h.2))⟩
        ·exact λh=>have h:=RQ.1 h;RQ.2 ⟨XW.2 (h1.1 (XW.1 h.1)),XX (h2.1 (TR h.2))⟩
       ·refine(Z2k a1 (g3 _ Id)).bind ?_;rintro x _ L4 g4 rfl;refine(Z2k b1 (g4 _ B9)).bind ?_;rintro y _ L5 g5 rfl;exact Q.pure rfl
       ·refine(Z0n t).bind ?_;rintro i _ L4 g4 ⟨rfl,_⟩;have heq:=λhK=>Good.addr (ρ:=ρ) (G:=P.globals.size) (L:=L4) hK (g4 _ (g3 _ Id)) (g4 _ B9)
        refine Q.good λhK=> ?_
        have fin:Q P fs Λ P.globals.size ρ L4 EQ (if(a1==b1)=true then Pure.pure true else Go.unsupported (α:=Bool) .addressObserved) (if(Zl ρ a1==Zl ρ b1)=true then Pure.pure true else Go.unsupported .addressObserved):=
         Q.ite ⟨λh=>XW.2 ((heq hK).2 (XW.1 h)),λh=>XW.2 ((heq hK).1 (XW.1 h))⟩ (λ_=>Q.pure rfl) (λ_=>Q.unsupported (by simp))
        split
        ·exact fin
        ·exact Q.unsupported (by simp)
     |nilPtr=>exact Q.unsupported (u:= .addressObserved) (by simp)
     |_=>exact Q.unsupported (u:= .addressObserved) (by simp)
   |nilPtr=>
    cases hy with
    |int k' b=>cases b with
     |ofNat m=>cases m<;>exact Q.unsupported (u:= .addressObserved) (by simp)
     |negSucc m=>exact Q.unsupported (u:= .addressObserved) (by simp)
    |_=>exact Q.unsupported (u:= .addressObserved) (by simp)
   |_=>
    cases hy with
    |ptr _|nilPtr=>exact Q.unsupported (u:= .addressObserved) (by simp)
    |_=>exact Q.stuck
  |slice _=>
   cases hx with
   |nilSlice _ _=>
    cases hy with
    |nilSlice _ _|slice _ _ _=>exact Q.pure rfl
    |_=>exact Q.stuck
   |slice _ _ _=>
    cases hy with
    |nilSlice _ _=>exact Q.pure rfl
    |_=>exact Q.stuck
   |_=>exact Q.stuck
  |map _ _=>
   cases hx with
   |nilMap=>
    cases hy with
    |nilMap|map _=>exact Q.pure rfl
    |_=>exact Q.stuck
   |map _=>
    cases hy with
    |nilMap=>exact Q.pure rfl
    |_=>exact Q.stuck
   |_=>exact Q.stuck
  |func _ _ _=>
   cases hx with
   |nilFunc=>
    cases hy with
    |nilFunc|meth _|func _ _ _ _ _|yield _ _ _ _ _=>exact Q.pure rfl
    |_=>exact Q.stuck
   |meth _|func _ _ _ _ _|yield _ _ _ _ _=>
    cases hy with
    |nilFunc=>exact Q.pure rfl
    |_=>exact Q.stuck
   |_=>exact Q.stuck
  |struct fields=>
   cases hx with
   | @agg xs xs' C4 Aw=>
     cases hy with
     | @agg ys ys' hy1 hy2=>
       dsimp only;refine Q.program ?_;refine Q.ite (by rw[Z2F]) (λ_=>Q.bindUnsupported (u:= .noEntry _) (by simp)) (λ_=> ?_);rw[<-RD,<-RD];refine Q.bind (A:=EQ) (Z2l EQ _ _ _ _ ?_ _ _ rfl) ?_
       ·rintro f hf L2 s _ g2 rfl;refine Q.ite UO (λ_=> ?_) (λ_=>Q.pure (.yield rfl));refine(Z1E f.type (AR.up ⟨C4,Aw⟩ g2) f.offset).bind ?_;intro p p' L3 g3 hp;refine(Z1E f.type (AR.up (L':=L3) ⟨hy1,hy2⟩ λb hb=>g3 b (g2 b hb)) f.offset).bind ?_;intro r r' L4 g4 hr;refine(ih L4 f.type (YL.1 ht f hf) (hp.up g4) hr).bind ?_;rintro b _ L5 g5 rfl;cases b
        ·exact Q.pure (.done rfl)
        ·exact Q.pure (.yield rfl)
       ·rintro r _ L2 g2 rfl;obtain⟨o,u⟩:=r;cases o<;>exact Q.pure rfl
     |_=>exact Q.stuck
   |_=>exact Q.stuck
  |array len elem=>
   cases hx with
   | @agg xs xs' C4 Aw=>
     cases hy with
     | @agg ys ys' hy1 hy2=>
       dsimp only;refine(Z0e elem).bind ?_;rintro sz _ L2' g2' rfl;rw[VK,VK];refine Q.bind (A:=EQ) (Z2l EQ _ _ _ _ ?_ _ _ rfl) ?_
       ·rintro i hi L2 s _ g2 rfl;refine(Z1E elem (AR.up (L':=L2) ⟨C4,Aw⟩ λb hb=>g2 b (g2' b hb)) _).bind ?_;intro p p' L3 g3 hp;refine(Z1E elem (AR.up (L':=L3) ⟨hy1,hy2⟩ λb hb=>g3 b (g2 b (g2' b hb))) _).bind ?_;intro r r' L4 g4 hr;refine(ih L4 elem ht (hp.up g4) hr).bind ?_;rintro b _ L5 g5 rfl;cases b
        ·exact Q.pure (.done rfl)
        ·exact Q.pure (.yield rfl)
       ·rintro r _ L2 g2 rfl;obtain⟨o,u⟩:=r;cases o<;>exact Q.pure rfl
     |_=>exact Q.stuck
   |_=>exact Q.stuck
  |_=>simp at ht
theorem Z90(t:TypeId){x x' y y':Value}(ht:Z75 P Op.maxDepth t=true)(hx:VRel ρ L x x')(hy:VRel ρ L y y'):Q P fs Λ P.globals.size ρ L EQ (Op.equal t x y) (Op.equal t x' y'):=q_equalIn _ _ _ ht hx hy
theorem q_eqGuardIn:∀(n:Nat)(L:Nat->Prop)(t:TypeId){x x' y y':Value},VRel ρ L x x'->VRel ρ L y y'->Q P fs Λ P.globals.size ρ L EQ (Op.eqGuardIn n t x y) (Op.eqGuardIn n t x' y'):=by
 intro n
 induction n with
 |zero=>exact λL t x x' y y' _ _=>Q.unsupported (by simp)
 |succ n ih=>
  intro L t x x' y y' hx hy;unfold Op.eqGuardIn;refine(Za t).bind ?_;rintro d _ L1 g1 ⟨rfl,hd⟩;replace hx:=hx.up g1;replace hy:=hy.up g1;cases d with
  |interface ms=>
   cases hx with
   |hole hh hw=>cases x'<;>first|exact Q.pure rfl|(cases hw;done)
   |nilIface=>
    cases hy with
    |hole hh hw=>cases y'<;>first|exact Q.pure rfl|(cases hw;done)
    |nilIface=>exact Q.pure rfl
    |_=>exact Q.pure rfl
   |_=>exact Q.pure rfl
  |struct fields=>
   cases hx with
   |hole hh hw=>cases x'<;>first|exact Q.pure rfl|(cases hw;done)
   | @agg xs xs' C4 Aw=>
     cases hy with
     |hole hh hw=>cases y'<;>first|exact Q.pure rfl|(cases hw;done)
     | @agg ys ys' hy1 hy2=>
       dsimp only;rw[<-RD,<-RD];refine Q.bind (A:=EQ) (Z2l EQ _ _ _ _ ?_ _ _ rfl) ?_
       ·rintro f hf L2 s _ g2 rfl;refine Q.ite UO (λ_=> ?_) (λ_=>Q.pure (.yield rfl));refine(Z1E f.type (AR.up ⟨C4,Aw⟩ g2) f.offset).bind ?_;intro p p' L3 g3 hp;refine(Z1E f.type (AR.up (L':=L3) ⟨hy1,hy2⟩ λb hb=>g3 b (g2 b hb)) f.offset).bind ?_;intro r r' L4 g4 hr;refine(ih L4 f.type (hp.up g4) hr).bind ?_;rintro b _ L5 g5 rfl;cases b
        ·exact Q.pure (.yield rfl)
        ·exact Q.pure (.done rfl)
       ·rintro r _ L2 g2 rfl;obtain⟨o,u⟩:=r;cases o<;>exact Q.pure rfl
     |_=>exact Q.pure rfl
   |_=>exact Q.pure rfl
  |array len elem=>
   cases hx with
   |hole hh hw=>cases x'<;>first|exact Q.pure rfl|(cases hw;done)
   | @agg xs xs' C4 Aw=>
     cases hy with
     |hole hh hw=>cases y'<;>first|exact Q.pure rfl|(cases hw;done)
     | @agg ys ys' hy1 hy2=>
       dsimp only;refine(Z0e elem).bind ?_;rintro sz _ L2' g2' rfl;rw[VK,VK];refine Q.bind (A:=EQ) (Z2l EQ _ _ _ _ ?_ _ _ rfl) ?_
       ·rintro i hi L2 s _ g2 rfl;refine(Z1E elem (AR.up (L':=L2) ⟨C4,Aw⟩ λb hb=>g2 b (g2' b hb)) _).bind ?_;intro p p' L3 g3 hp;refine(Z1E elem (AR.up (L':=L3) ⟨hy1,hy2⟩ λb hb=>g3 b (g2 b (g2' b hb))) _).bind ?_;intro r r' L4 g4 hr;refine(ih L4 elem (hp.up g4) hr).bind ?_;rintro b _ L5 g5 rfl;cases b
        ·exact Q.pure (.yield rfl)
        ·exact Q.pure (.done rfl)
       ·rintro r _ L2 g2 rfl;obtain⟨o,u⟩:=r;cases o<;>exact Q.pure rfl
     |_=>exact Q.pure rfl
   |_=>exact Q.pure rfl
  |_=>exact Q.pure rfl
theorem Z91(op:BinOp)(t:TypeId)(x y:Operand){a a' b b':Value}(ha:VRel ρ L a a')(hb:VRel ρ L b b'):Q P fs Λ P.globals.size ρ L (TT (α:=Unit) (β:=Unit)) (eqGuard op t x y a b) (eqGuard op t x y a' b'):=by
 unfold eqGuard;refine Q.ite UO (λ_=>Q.pure trivial) (λ_=> ?_);cases ha with
 |hole hh hw=>cases a'<;>first|exact Q.pure trivial|(cases hw;done)
 |nilIface=>
  cases hb with
  |hole hh hw=>cases b'<;>first|exact Q.pure trivial|(cases hw;done)
  |nilIface=>
   dsimp only;refine Q.ite UO (λ_=>Q.pure trivial) (λ_=> ?_);refine(q_eqGuardIn _ L t .nilIface .nilIface).bind ?_;rintro c _ L1 g1 rfl;exact Q.ite UO (λ_=>Q.unsupported (by simp)) (λ_=>Q.pure trivial)
  |_=>exact Q.pure trivial
 |agg h1 h2=>
  cases hb with
  |hole hh hw=>cases b'<;>first|exact Q.pure trivial|(cases hw;done)
  |agg k1 k2=>
   dsimp only;refine Q.program (Q.program ?_);refine Q.ite (by rw[Z2G];rfl) (λ_=>Q.pure trivial) (λ_=> ?_);refine(q_eqGuardIn _ L t (.agg h1 h2) (.agg k1 k2)).bind ?_;rintro c _ L1 g1 rfl;exact Q.ite UO (λ_=>Q.unsupported (by simp)) (λ_=>Q.pure trivial)
  |_=>exact Q.pure trivial
 |_=>exact Q.pure trivial
def ZaY(P:Program)(op:BinOp)(t:TypeId):Bool:=
 match op with
 | .eql| .neq=>Z75 P Op.maxDepth t
 |_=>true
theorem Zi(t:TypeId){x x' y y':Value}(ht:Z75 P Op.maxDepth t=true)(hx:VRel ρ L x x')(hy:VRel ρ L y y')(f:Bool->Bool):
 Q P fs Λ P.globals.size ρ L (VR ρ) (do Pure.pure (Value.bool (f (<-Op.equal t x y)))) (do Pure.pure (Value.bool (f (<-Op.equal t x' y')))):=by
 refine(Z90 t ht hx hy).bind ?_;rintro b _ L1 g1 rfl;exact Q.pure (.bool _)
theorem ZaZ(op:BinOp)(t:TypeId)(k k':IntKind)(a b:Int):Q P fs Λ P.globals.size ρ L (VR ρ) (binOp op t (.int k a) (.int k' b)) (binOp op t (.int k a) (.int k' b)):=by
 cases op<;>simp only[binOp]<;>first
  |exact ZcH _ _ _ _ _
  |exact Q.ite UO (λ_=>Q.stuck) (λ_=>by first|exact Z41 _ _ _ _|exact ZaW _ _ _ _|exact Z5l _ _ _ _|exact ZaX _ _ _)
theorem Z76(k:IntKind)(m:Int){a:Addr}(ha:L a.block):Q P fs Λ P.globals.size ρ L (VR ρ) (do Op.addrMod k (<-behindNumber a).1 (m+1)) (do Op.addrMod k (<-behindNumber (Zl ρ a)).1 (m+1)):=by
 refine(Z06 a ha).bind ?_;rintro⟨a1,l1⟩ _ L2 g2 ⟨rfl,Id⟩;exact Z5k k a1 _ Id
theorem Zb0(k:IntKind)(m:Int){a:Addr}(ha:L a.block):Q P fs Λ P.globals.size ρ L (VR ρ) (do Op.addrMod k (<-behindNumber a).1 m) (do Op.addrMod k (<-behindNumber (Zl ρ a)).1 m):=by
 refine(Z06 a ha).bind ?_;rintro⟨a1,l1⟩ _ L2 g2 ⟨rfl,Id⟩;exact Z5k k a1 _ Id
theorem Z77(t:TypeId){x x' y y':Value}(hx:VRel ρ L x x')(hy:VRel ρ L y y'):
 Q P fs Λ P.globals.size ρ L (VR ρ) (do if(<-underlying t) matches .unsafePointer then movedPointer t x y else movedNumber t x y) (do if(<-underlying t) matches .unsafePointer then movedPointer t x' y' else movedNumber t x' y'):=by
 refine(Za t).bind ?_;rintro d _ L1 g1 ⟨rfl,_⟩;exact Q.ite UO (λ_=>Z3S t (hx.up g1) (hy.up g1)) (λ_=>Z0E t (hx.up g1) (hy.up g1))
theorem Zb1{a b:Addr}(ha:L a.block)(hb:L b.block):Q P fs Λ P.globals.size ρ L (VR ρ) (do Op.addrSub .u64 (<-behindNumber a).1 (<-behindNumber b).1) (do Op.addrSub .u64 (<-behindNumber (Zl ρ a)).1 (<-behindNumber (Zl ρ b)).1):=by
 refine(Z06 a ha).bind ?_;rintro⟨a1,l1⟩ _ L2 g2 ⟨rfl,Id⟩;refine(Z06 b (g2 _ hb)).bind ?_;rintro⟨b1,l2⟩ _ L3 g3 ⟨rfl,B9⟩;exact Z8Y _ _ _ (g3 _ Id) B9
theorem Z36(op:BinOp){a b:Addr}(ha:L a.block)(hb:L b.block):Q P fs Λ P.globals.size ρ L (VR ρ) (do Op.addrCmp op (<-behindNumber a).1 (<-behindNumber b).1) (do Op.addrCmp op (<-behindNumber (Zl ρ a)).1 (<-behindNumber (Zl ρ b)).1):=by
 refine(Z06 a ha).bind ?_;rintro⟨a1,l1⟩ _ L2 g2 ⟨rfl,Id⟩;refine(Z06 b (g2 _ hb)).bind ?_;rintro⟨b1,l2⟩ _ L3 g3 ⟨rfl,B9⟩;exact Z8Z op _ _ (g3 _ Id) B9
theorem Zb2{g:TypeDesc->Sem γ}{Y:Sem δ}(h:∀d,P.underlying t=some d->Q P fs Λ P.globals.size ρ L B (g d) Y):Q P fs Λ P.globals.size ρ L B (underlying t>>=g) Y:=by
 intro hK N;refine SEqv.programL ?_;show SEqv _ _ _ _ _ _ _ _ (((match (Z6 P fs).underlying t with|some d=>Pure.pure d|none=>stuck "no such type" :Sem TypeDesc))>>=g) Y;rw[Z0J];cases hd:P.underlying t with
 |none=>exact Q.bindStuck (P:=P) (fs:=fs) hK N
 |some d=>exact h d hd hK N
theorem q_equalIn_hole:∀(n:Nat)(t:TypeId),Z75 P n t=true->∀{x y:Value},x=undef\/y=undef->∀{f:Bool->Sem γ}{Y:Sem δ},Q P fs Λ P.globals.size ρ L B (Op.equalIn n t x y>>=f) Y:=by
 intro n t ht x y h f Y;cases n with
 |zero=>simp[Z75] at ht
 |succ n=>
  unfold Op.equalIn;rw[bind_assoc];refine Zb2 λd hd=> ?_
  simp only[Z75,hd] at ht;rcases h with rfl|rfl
  ·cases d<;>first|(cases ht;done)|exact Q.bindStuck|exact Q.bindUnsupported (u:= .addressObserved) (by simp)|(cases y<;>first|exact Q.bindStuck|exact Q.bindUnsupported (u:= .addressObserved) (by simp)|(rename_i a;cases a<;>first|exact Q.bindStuck|exact Q.bindUnsupported (u:= .addressObserved) (by simp))|(rename_i a l c;cases a<;>first|exact Q.bindStuck|exact Q.bindUnsupported (u:= .addressObserved) (by simp)))
  ·cases d<;>first|(cases ht;done)|exact Q.bindStuck|exact Q.bindUnsupported (u:= .addressObserved) (by simp)|(cases x<;>first|exact Q.bindStuck|exact Q.bindUnsupported (u:= .addressObserved) (by simp)|(rename_i a;cases a<;>first|exact Q.bindStuck|exact Q.bindUnsupported (u:= .addressObserved) (by simp))|(rename_i a l c;cases a<;>first|exact Q.bindStuck|exact Q.bindUnsupported (u:= .addressObserved) (by simp)))
theorem Z5m(t:TypeId)(x:Value):binOp .eql t x undef=(do Pure.pure (.bool (id (<-Op.equal t x undef))))/\binOp .neq t x undef=(do Pure.pure (.bool (not (<-Op.equal t x undef)))):=by
 constructor<;>cases x<;>rfl
theorem Z5n(t:TypeId)(y:Value):binOp .eql t undef y=(do Pure.pure (.bool (id (<-Op.equal t undef y))))/\binOp .neq t undef y=(do Pure.pure (.bool (not (<-Op.equal t undef y)))):=by
 constructor<;>cases y<;>rfl
theorem Z92(op:BinOp)(t:TypeId){x' y y':Value}(ht:ZaY P op t=true)(hh:Ban.holes=true)(hw:wild x'=true)(hy:VRel ρ L y y'):Q P fs Λ P.globals.size ρ L (VR ρ) (binOp op t undef y) (binOp op t x' y'):=by
 have Bo:VRel ρ L undef x':= .hole hh hw;have Bm:=hy;by_cases h1:op= .eql
 ·subst h1;rw[(Z5n t y).1];exact q_equalIn_hole _ t ht (.inl rfl)
 by_cases h2:op= .neq
 ·subst h2;rw[(Z5n t y).2];exact q_equalIn_hole _ t ht (.inl rfl)
 cases op<;>first|exact absurd rfl h1|exact absurd rfl h2|(cases y<;>first|exact Q.stuck|exact Q.unsupported (u:= .addressObserved) (by simp)|(rename_i a;cases a<;>first|exact Q.stuck|exact Q.unsupported (u:= .addressObserved) (by simp)))
theorem Z1G(op:BinOp)(t:TypeId){x x' y':Value}(ht:ZaY P op t=true)(hx:VRel ρ L x x')(hh:Ban.holes=true)(hw:wild y'=true):Q P fs Λ P.globals.size ρ L (VR ρ) (binOp op t x undef) (binOp op t x' y'):=by
 have Bm:VRel ρ L undef y':= .hole hh hw;by_cases h1:op= .eql
 ·subst h1;rw[(Z5m t x).1];exact q_equalIn_hole _ t ht (.inr rfl)
 by_cases h2:op= .neq
 ·subst h2;rw[(Z5m t x).2];exact q_equalIn_hole _ t ht (.inr rfl)
 cases op<;>first|exact absurd rfl h1|exact absurd rfl h2|(cases x<;>first|exact Q.stuck|exact Q.unsupported (u:= .addressObserved) (by simp)|(rename_i a;cases a<;>first|exact Q.stuck|exact Q.unsupported (u:= .addressObserved) (by simp)))
theorem ZcJ(op:BinOp)(t:TypeId){x x' y y':Value}(ht:ZaY P op t=true)(hx:VRel ρ L x x')(hy:VRel ρ L y y'):Q P fs Λ P.globals.size ρ L (VR ρ) (binOp op t x y) (binOp op t x' y'):=by
 have Bo:=hx;have Bm:=hy;cases hx with
 |hole hh hw=>exact Z92 op t ht hh hw Bm
 |int k a=>
  cases hy with
  |hole hh hw=>exact Z1G op t ht Bo hh hw
  |int k' b=>exact ZaZ op t k k' a b
  |ptr h=>
   cases op with
   |eql=>exact Zi t ht Bo Bm id
   |neq=>exact Zi t ht Bo Bm not
   |add=>exact Z0E t Bm Bo
   |and=>exact Z76 k a h
   |_=>exact Q.unsupported (u:= .addressObserved) (by simp)
  |nilPtr=>
   cases op with
   |eql=>exact Zi t ht Bo Bm id
   |neq=>exact Zi t ht Bo Bm not
   |add=>exact Z0E t Bm Bo
   |_=>exact Q.unsupported (u:= .addressObserved) (by simp)
  |_=>
   cases op with
   |eql=>exact Zi t ht Bo Bm id
   |neq=>exact Zi t ht Bo Bm not
   |_=>exact Q.stuck
 |string a=>
  cases hy with
  |hole hh hw=>exact Z1G op t ht Bo hh hw
  |string b=>cases op<;>(simp only[binOp];exact Z2H _ a b)
  |ptr h=>
   cases op with
   |eql=>exact Zi t ht Bo Bm id
   |neq=>exact Zi t ht Bo Bm not
   |_=>exact Q.unsupported (u:= .addressObserved) (by simp)
  |nilPtr=>
   cases op with
   |eql=>exact Zi t ht Bo Bm id
   |neq=>exact Zi t ht Bo Bm not
   |_=>exact Q.unsupported (u:= .addressObserved) (by simp)
  |_=>
   cases op with
   |eql=>exact Zi t ht Bo Bm id
   |neq=>exact Zi t ht Bo Bm not
   |_=>exact Q.stuck
 |ptr ha=>
  cases hy with
  |hole hh hw=>exact Z1G op t ht Bo hh hw
  |int k b=>
   cases op with
   |eql=>exact Zi t ht Bo Bm id
   |neq=>exact Zi t ht Bo Bm not
   |add=>exact Z77 t Bo Bm
   |sub=>exact Z0E t Bo (.int k (-b))
   |rem=>exact Zb0 k b ha
   |and=>exact Z76 k b ha
   |_=>exact Q.unsupported (u:= .addressObserved) (by simp)
  |ptr hb=>
   cases op with
   |eql=>exact Zi t ht Bo Bm id
   |neq=>exact Zi t ht Bo Bm not
   |sub=>exact Zb1 ha hb
   |lss=>exact Z36 _ ha hb
   |leq=>exact Z36 _ ha hb
   |gtr=>exact Z36 _ ha hb
   |geq=>exact Z36 _ ha hb
   |_=>exact Q.unsupported (u:= .addressObserved) (by simp)
  |_=>
   cases op with
   |eql=>exact Zi t ht Bo Bm id
   |neq=>exact Zi t ht Bo Bm not
   |_=>exact Q.unsupported (u:= .addressObserved) (by simp)
 |nilPtr=>
  cases hy with
  |hole hh hw=>exact Z1G op t ht Bo hh hw
  |int k b=>
   cases op with
   |eql=>exact Zi t ht Bo Bm id
   |neq=>exact Zi t ht Bo Bm not
   |add=>exact Z77 t Bo Bm
   |sub=>exact Z0E t Bo (.int k (-b))
   |_=>exact Q.unsupported (u:= .addressObserved) (by simp)
  |_=>
   cases op with
   |eql=>exact Zi t ht Bo Bm id
   |neq=>exact Zi t ht Bo Bm not
   |_=>exact Q.unsupported (u:= .addressObserved) (by simp)
 |_=>
  cases hy with
  |hole hh hw=>exact Z1G op t ht Bo hh hw
  |ptr hb=>
   cases op with
   |eql=>exact Zi t ht Bo Bm id
   |neq=>exact Zi t ht Bo Bm not
   |_=>exact Q.unsupported (u:= .addressObserved) (by simp)
  |nilPtr=>
   cases op with
   |eql=>exact Zi t ht Bo Bm id
   |neq=>exact Zi t ht Bo Bm not
   |_=>exact Q.unsupported (u:= .addressObserved) (by simp)
  |_=>
   cases op with
   |eql=>exact Zi t ht Bo Bm id
   |neq=>exact Zi t ht Bo Bm not
   |_=>exact Q.stuck
end
def Z93(P:Program)(src dst:TypeId):Bool:=
 match P.underlying src,P.underlying dst with
 |some (.int _),some (.int _)=>true
 |some .string,some (.slice e)=>(match P.underlying e with|some (.int .u8)=>true|_=>false)
 |_,_=>false
def ZcK(P:Program)(ts:Array TypeId):Bool:=
 match ts[0]?,ts[1]? with
 |some s,some x=>(match P.underlying s with|some (.slice e)=>Z1v P e|_=>false)&&(match P.underlying x with|some (.int _)=>false|_=>true)
 |_,_=>false
def ZcL(P:Program)(ts:Array TypeId):Bool:=
 match ts[0]? with
 |some t=>(match P.underlying t with|some (.chan _ _)=>false|_=>true)
 |_=>false
section
variable {fs:Array Func}{ρ:Nat->Nat}
variable {α β γ δ σ σ':Type}{A:(Nat->Prop)->α->β->Prop}{B:(Nat->Prop)->γ->δ->Prop}
theorem Z78(s:ByteArray):AR ρ L (s.data.map λb=>Value.int .u8 b.toNat) (s.data.map λb=>Value.int .u8 b.toNat):=
 AR.mk rfl λi v v' h1 h2=>by
  rw[h1] at h2;cases h2;simp only[Array.getElem?_map,XT] at h1;obtain⟨x,_,rfl⟩:=h1;exact .int _ _
theorem Z3o(e:TypeId)(s:ByteArray):Q P fs Λ P.globals.size ρ L (VR ρ) (Conv.stringToBytes e s) (Conv.stringToBytes e s):=by
 unfold Conv.stringToBytes;refine Q.choose.bind ?_;rintro cap _ L1 g1 rfl;intro hK N;refine .new (.cells (AR.append (Z78 s) (AR.replicate _ (.int _ _))) λ_=>rfl) (λ_ h=>by cases h) λr hK1=> ?_
 refine .shape (.inr rfl) λo=> ?_
 cases o with
 |none=>exact .pure (.slice (a:=⟨r,0,none⟩) _ _ (.inr rfl))
 |some x=>exact .freeze (a:=⟨r,x.2,none⟩) (.inr rfl) (.pure (.slice (a:=⟨r,0,none⟩) _ _ (.inr rfl)))
theorem Z94(src dst:TypeId){v v':Value}(ht:Z93 P src dst=true)(hv:VRel ρ L v v'):Q P fs Λ P.globals.size ρ L (VR ρ) (convert src dst v) (convert src dst v'):=by
 unfold convert;refine(Za src).bind ?_;rintro d1 _ L1 g1 ⟨rfl,h1⟩;refine(Za dst).bind ?_;rintro d2 _ L2 g2 ⟨rfl,h2⟩;simp only[Z93,h1,h2] at ht;cases d1 with
 |int k1=>
  cases d2 with
  |int k2=>
   cases hv with
   |int k n=>exact Q.pure (.int _ _)
   |ptr h=>exact Q.unsupported (u:= .addressObserved) (by simp)
   |_=>exact Q.unsupported (u:= .noEntry _) (by simp)
  |_=>simp at ht
 |string=>
  cases d2 with
  |slice e=>
   cases hv with
   |string s=>
    dsimp only;refine(Za e).bind ?_;rintro d3 _ L3 g3 ⟨rfl,h3⟩;simp only[h3] at ht;split at ht
    ·rename_i heq;cases heq;exact Z3o e s
    ·cases ht
   |_=>exact Q.unsupported (u:= .noEntry _) (by simp)
  |_=>simp at ht
 |_=>simp at ht
theorem EsRel.length:∀{l l':List MapEntry},EsRel ρ L l l'->l.length=l'.length:=by
 intro l l' h
 induction h with
 |nil=>rfl
 |cons _ _ ih=>simp[ih]
theorem q_len(ts:Array TypeId)(t:TypeId){args args':Array Value}(ht:ZcL P ts=true)(ha:AR ρ L args args'):Q P fs Λ P.globals.size ρ L (VR ρ) (Builtin.len_ ts t args) (Builtin.len_ ts t args'):=by
 unfold Builtin.len_;unfold ZcL at ht;cases h0:ts[0]? with
 |none=>exact Q.stuck
 |some t0=>
  cases h1:args[0]? with
  |none=>exact Q.stuck
  |some x=>
   obtain⟨x',h1',hx⟩:=ha.get h1;rw[h1'];dsimp only;refine(Za t0).bind ?_;rintro d _ L1 g1 ⟨rfl,hd⟩;simp only[h0,hd] at ht;have hx:=hx.up g1;cases d with
   |chan _ _=>simp at ht
   |string=>
    cases hx with
    |string s=>exact Q.pure (.int _ _)
    |_=>exact Q.stuck
   |array n e=>exact Q.pure (.int _ _)
   |pointer e=>
    refine(Za e).bind ?_;rintro d2 _ L2 g2 ⟨rfl,hd2⟩;cases d2 with
    |array n e=>exact Q.pure (.int _ _)
    |_=>exact Q.stuck
   |slice e=>
    cases hx with
    |nilSlice l c|slice l c _=>exact Q.pure (.int _ _)
    |_=>exact Q.stuck
   |map k e=>
    cases hx with
    |nilMap=>exact Q.pure (.int _ _)
    |map hr=>
     intro hK N;refine .getObj hr λL' o o' hL hK' ho Gj=> ?_
     cases ho with
     | @map es es' c h=>
       have e:es.size=es'.size:=h.length;show SEqv _ _ _ _ _ _ _ _ (Sem.pure (goInt es.size)) (Sem.pure (goInt es'.size));rw[<-e];exact .pure (.int _ _)
     |_=>exact .bad trivial
    |_=>exact Q.stuck
   |_=>exact Q.stuck
theorem ZdM(hx:VRel ρ L x x')(hy:VRel ρ L y y'):Q P fs Λ P.globals.size ρ L (VR ρ) (Builtin.max2 x y) (Builtin.max2 x' y'):=by
 cases hx with
 |int k a=>
  cases hy with
  |int k' b=>exact Q.pure (.int _ _)
  |ptr _=>exact Q.unsupported (u:= .addressObserved) (by simp)
  |_=>exact Q.stuck
 |string s=>
  cases hy with
  |string s'=>
   unfold Builtin.max2;refine(Z2H _ _ _).bind ?_;intro v v' L1 g1 hv;refine(Z4w hv).bind ?_;rintro b _ L2 g2 rfl;exact Q.pure (.string _)
  |ptr _=>exact Q.unsupported (u:= .addressObserved) (by simp)
  |_=>exact Q.stuck
 |ptr _=>exact Q.unsupported (u:= .addressObserved) (by simp)
 |_=>
  cases hy with
  |ptr _=>exact Q.unsupported (u:= .addressObserved) (by simp)
  |_=>exact Q.stuck
theorem ZdN(hx:VRel ρ L x x')(hy:VRel ρ L y y'):Q P fs Λ P.globals.size ρ L (VR ρ) (Builtin.min2 x y) (Builtin.min2 x' y'):=by
 cases hx with
 |int k a=>
  cases hy with
  |int k' b=>exact Q.pure (.int _ _)
  |ptr _=>exact Q.unsupported (u:= .addressObserved) (by simp)
  |_=>exact Q.stuck
 |string s=>
  cases hy with
  |string s'=>
   unfold Builtin.min2;refine(Z2H _ _ _).bind ?_;intro v v' L1 g1 hv;refine(Z4w hv).bind ?_;rintro b _ L2 g2 rfl;exact Q.pure (.string _)
  |ptr _=>exact Q.unsupported (u:= .addressObserved) (by simp)
  |_=>exact Q.stuck
 |ptr _=>exact Q.unsupported (u:= .addressObserved) (by simp)
 |_=>
  cases hy with
  |ptr _=>exact Q.unsupported (u:= .addressObserved) (by simp)
  |_=>exact Q.stuck
theorem Z79(f:Value->Value->Sem Value)(hf:∀(L:Nat->Prop){x x' y y':Value},VRel ρ L x x'->VRel ρ L y y'->Q P fs Λ P.globals.size ρ L (VR ρ) (f x y) (f x' y')):
 ∀{l l':List Value}(L:Nat->Prop){x x':Value},VRel ρ L x x'->VsRel ρ L l l'->Q P fs Λ P.globals.size ρ L (VR ρ) (l.foldlM f x) (l'.foldlM f x'):=by
 intro l
 induction l with
 |nil=>intro l' L x x' hx h;cases h;exact Q.pure hx
 |cons y l ih=>
  intro l' L x x' hx h;cases h with
  |cons h1 h2=>
   simp only[List.foldlM_cons];refine(hf L hx h1).bind ?_;intro v v' L1 g1 hv;exact ih L1 hv (h2.up g1)
theorem q_max(ts:Array TypeId)(t:TypeId){args args':Array Value}(ha:AR ρ L args args'):Q P fs Λ P.globals.size ρ L (VR ρ) (Builtin.max_ ts t args) (Builtin.max_ ts t args'):=by
 unfold Builtin.max_;have h:=ha.list;cases h:args.toList with
 |nil=>exact Q.stuck
 |cons x l=>
  rename_i h0;rw[h] at h0;cases h':args'.toList with
  |nil=>rw[h'] at h0;cases h0
  |cons x' l'=>
   rw[h'] at h0;cases h0 with
   |cons h1 h2=>exact Z79 _ (λL=>ZdM) L h1 h2
theorem q_min(ts:Array TypeId)(t:TypeId){args args':Array Value}(ha:AR ρ L args args'):Q P fs Λ P.globals.size ρ L (VR ρ) (Builtin.min_ ts t args) (Builtin.min_ ts t args'):=by
 unfold Builtin.min_;have h:=ha.list;cases h:args.toList with
 |nil=>exact Q.stuck
 |cons x l=>
  rename_i h0;rw[h] at h0;cases h':args'.toList with
  |nil=>rw[h'] at h0;cases h0
  |cons x' l'=>
   rw[h'] at h0;cases h0 with
   |cons h1 h2=>exact Z79 _ (λL=>ZdN) L h1 h2
theorem ZcM(h:VRel ρ L x x'):Q P fs Λ P.globals.size ρ L EQ (Builtin.lenOf x) (Builtin.lenOf x'):=by
 cases h with
 |nilSlice _ _|slice _ _ _|string _=>exact Q.pure rfl
 |_=>exact Q.stuck
theorem Z1H(size n:Nat){x x':Value}(h:VRel ρ L x x'):Q P fs Λ P.globals.size ρ L (AR ρ) (Builtin.firstCells size n x) (Builtin.firstCells size n x'):=by
 cases h with
 |nilSlice _ _=>exact Q.pure AR.nil
 |slice _ _ h=>exact Z3m _ _ h
 |string s=>exact Q.pure (Z78 _)
 |_=>exact Q.stuck
theorem Z5o(h:AR ρ L z z')(n:Nat):AR ρ L (Builtin.zeroCells z n) (Builtin.zeroCells z' n):=by
 unfold Builtin.zeroCells;have:=Z35 (n:=n*z.size) h;rw[show n*z'.size=n*z.size by rw[h.1]];exact this
inductive Peek{α:Type}:Sem α->Prop
 |pure (a):Peek (.pure a)
 |shape {r k}:(∀s,Peek (k s))->Peek (.shape r k)
 |frozen {a k}:(∀s,Peek (k s))->Peek (.frozen a k)
theorem Peek.bind{X:Sem γ}{f:γ->Sem α}(h:Peek X)(hf:∀a,Peek (f a)):Peek (X>>=f):=by
 show Peek (X.bind f)
 induction h with
 |pure a=>exact hf a
 |shape _ ih=>exact .shape ih
 |frozen _ ih=>exact .frozen ih
theorem ZdO{X:Sem γ}{f:γ->Sem α}{Y:Sem β}(h:Peek X)(hf:∀a,Q P fs Λ P.globals.size ρ L A (f a) Y):Q P fs Λ P.globals.size ρ L A (X>>=f) Y:=by
 intro hK N;show SEqv _ _ _ _ _ _ _ _ (X.bind f) Y
 induction h with
 |pure a=>exact hf a hK N
 |shape _ ih=>exact .shapeL ih
 |frozen _ ih=>exact .frozenL ih
theorem Z1I(a:Addr)(n:Nat):Peek (Builtin.holdsCells a n):=by
 unfold Builtin.holdsCells;refine .shape λs=> ?_
 cases s<;>exact .pure _
theorem Z4y(size l n:Nat)(base:Option Addr)(x:Value):Peek (Builtin.mayShare size l n base x):=by
 unfold Builtin.mayShare;have h2:Peek (match x with| .slice (some b) _ _=>do Pure.pure (!(<-Builtin.holdsCells b (n*size))||base.any (·.block==b.block))|_=>Pure.pure false:Sem Bool):=by
  split
  ·exact(Z1I _ _).bind λ_=> .pure _
  ·exact .pure _
 cases base with
 |none=>exact Peek.bind (.pure _) λb=>by cases b<;>first|exact .pure _|exact h2
 |some a=>
  refine Peek.bind (X:=Builtin.holdsCells a (l*size)) (Z1I _ _) λb=> .frozen λfr=> ?_
  cases b<;>cases fr<;>first|exact .pure _|exact h2
inductive AOR(ρ:Nat->Nat)(L:Nat->Prop):Option Addr->Option Addr->Prop
 |none:AOR ρ L none none
 |some {a}:L a.block->AOR ρ L (some a) (some (Zl ρ a))
theorem AOR.up{a b:Option Addr}(h:AOR ρ L a b)(hL:∀b,L b->L' b):AOR ρ L' a b:=by
 cases h with
 |none=>exact .none
 |some h=>exact .some (hL _ h)
theorem AOR.slice{a b:Option Addr}(h:AOR ρ L a b)(l c:Nat):VRel ρ L (.slice a l c) (.slice b l c):=by
 cases h with
 |none=>exact .nilSlice l c
 |some h=>exact .slice l c h
theorem VRel.sliceOr{s s':Value}(h:VRel ρ L s s'):(∃a a' l c,s= .slice a l c/\s'= .slice a' l c/\AOR ρ L a a')\/∀a l c,s≠.slice a l c:=by
 cases h with
 |nilSlice l c=>exact .inl ⟨_,_,_,_,rfl,rfl,.none⟩
 |slice l c h=>exact .inl ⟨_,_,_,_,rfl,rfl,.some h⟩
 |_=>exact .inr λa l c h=>by cases h
theorem Zb3(ts:Array TypeId)(t:TypeId){args args':Array Value}(ht:ZcK P ts=true)(ha:AR ρ L args args'):Q P fs Λ P.globals.size ρ L (VR ρ) (Builtin.append_ ts t args) (Builtin.append_ ts t args'):=by
 unfold Builtin.append_;unfold ZcK at ht;cases h0:ts[0]? with
 |none=>exact Q.stuck
 |some t0=>
 cases h1:args[0]? with
 |none=>exact Q.stuck
 |some s=>
 cases h2:args[1]? with
 |none=>exact Q.stuck
 |some x=>
 obtain⟨s',h1',hs⟩:=ha.get h1;obtain⟨x',h2',hx⟩:=ha.get h2;rw[h1',h2'];dsimp only;cases h3:ts[1]? with
 |none=>simp[h3] at ht
 |some t1=>
 simp only[h0,h3,YG] at ht;obtain⟨V3,Hu⟩:=ht;refine(Za t0).bind ?_;rintro d _ L1 g1 ⟨rfl,hd⟩;rw[hd] at V3;cases d with
 |slice e=>
  have hs:=hs.up g1;have hx:=hx.up g1;dsimp only at V3⊢;rcases hs.sliceOr with⟨base,base',sLen,sCap,rfl,rfl,hb⟩|hn
  ·dsimp only;refine(Z0e e).bind ?_;rintro size _ L2 g2 rfl;refine(Za t1).bind ?_;rintro d1 _ L3 g3 ⟨rfl,Pj⟩;rw[Pj] at Hu;refine Q.bind (A:=λ_ a b=>a=false/\b=false) (Q.pure ?_) ?_
   ·cases d1<;>first|exact⟨rfl,rfl⟩|simp at Hu
   rintro z z' L3' g3' ⟨rfl,rfl⟩;simp only[YR,XZ,Bool.not_false,XQ,false_or];have Pk:=((hx.up g2).up g3).up g3';have C2:=((hb.up g2).up g3).up g3';refine(ZcM Pk).bind ?_;rintro n _ L4 g4 rfl;refine Q.ite UO (λ_=> ?_) (λ_=> ?_)
   ·refine(Z1H size n (Pk.up g4)).bind ?_;intro new new' L5 g5 Bn;have Nl:=(C2.up g4).up g5;cases Nl with
    |none=>exact Q.pure (.nilSlice _ _)
    | @some a ha=>
      dsimp only;rw[<-Z17];refine(Z2V _ 0 L5 (by rw[Z0v];exact ha) Bn.list).bind ?_;intro _ _ L6 g6 _;exact Q.pure (.slice _ _ (g6 _ ha))
   ·refine(Z0n e).bind ?_;rintro i _ L5 g5 ⟨rfl,hi⟩;refine Q.ite UO (λ_=>Z5j rfl) (λ_=> ?_);refine(Z0n e).bind ?_;rintro i2 _ L6 g6 ⟨rfl,Fw⟩;refine Q.ite UO (λ_=> ?_) (λ_=> ?_)
    ·rw[bind_assoc];refine ZdO (Z4y _ _ _ _ _) λb=> ?_
     cases b
     ·exact λ_ _=> .mark trivial
     ·exact Q.bindUnsupported (u:= .resourceLimit _) (by simp)
    ·refine Q.choose.bind ?_;rintro newCap _ L7 g7 rfl;refine(Z0n e).bind ?_;rintro i3 _ L8 g8 ⟨rfl,Kx⟩;refine(Z5g _).bind ?_;intro _ _ L9 g9 _;have gg:∀x,L4 x->L9 x:=λx hx=>g9 x (g8 x (g7 x (g6 x (g5 x hx))))
     refine(Z1H size sLen ((C2.up λx hx=>gg x (g4 x hx)).slice _ _)).bind ?_;intro old old' L10 g10 B6;refine(Z1H size n (Pk.up λx hx=>g10 x (gg x (g4 x hx)))).bind ?_;intro new new' L11 g11 Bn;refine(Z3Z e V3).bind ?_;intro zv zv' L12 g12 hzv;refine(Z2h e (AR.append (((B6.up g11).up g12).append (Bn.up g12)) (Z5o hzv.cells _))).bind ?_;rintro ad _ L13 g13 ⟨rfl,M7⟩;exact Q.pure (.slice _ _ M7)
  ·cases s<;>first|exact Q.stuck|exact absurd rfl (hn _ _ _)
 |_=>exact Q.stuck
end
def Z95(P:Program):Nat->TypeId->Bool
 |0,_=>false
 |n+1,t=>match P.underlying t with
  |some .bool|some (.int _)|some .string=>true
  |some (.array _ e)=>Z95 P n e
  |_=>false
def Z6g(P:Program)(t:TypeId):Bool:=
 match P.underlying t with
 |some (.map k e)=>Z95 P 5 k&&Z75 P Op.maxDepth k&&Z1v P e
 |_=>true
section
variable {fs:Array Func}{ρ:Nat->Nat}
variable {α β γ δ σ σ':Type}{A:(Nat->Prop)->α->β->Prop}{B:(Nat->Prop)->γ->δ->Prop}
theorem Z42(empty:Bool):∀(n m:Nat)(L:Nat->Prop)(t:TypeId){v v':Value},Z95 P m t=true->VRel ρ L v v'->Q P fs Λ P.globals.size ρ L (TT (α:=Unit) (β:=Unit)) (Instr.checkKey empty n t v) (Instr.checkKey empty n t v'):=by
 intro n
 induction n with
 |zero=>exact λm L t v v' _ _=>Q.unsupported (by simp)
 |succ n ih=>
  intro m L t v v' ht hv;unfold Instr.checkKey;refine(Za t).bind ?_;rintro d _ L1 g1 ⟨rfl,hd⟩;cases m with
  |zero=>simp[Z95] at ht
  |succ m=>
   simp only[Z95,hd] at ht;have hv:=hv.up g1;cases d with
   |array len e=>
    cases hv with
    | @agg cs cs' h1 h2=>
      dsimp only;rw[VK,VK];refine Q.bind (A:=EQ) (Z2l EQ _ _ _ _ ?_ _ _ rfl) λ_ _ _ _ _=>Q.pure trivial
      rintro i hi L2 s _ g2 rfl;refine(Z0e e).bind ?_;rintro sz _ L3 g3 rfl;refine(Z1E e (AR.up (L':=L3) ⟨h1,h2⟩ λb hb=>g3 b (g2 b hb)) _).bind ?_;intro p p' L4 g4 hp;refine(ih m L4 e ht hp).bind ?_;intro _ _ L5 g5 _;exact Q.pure (.yield rfl)
    |_=>exact Q.stuck
   |bool|string=>exact Q.pure trivial
   |int _=>exact Q.pure trivial
   |_=>simp at ht
theorem Z6h(d:TypeDesc){k k' e e':Value}(hk:VRel ρ L k k')(he:VRel ρ L e e'):Instr.sameNow d k' e'=Instr.sameNow d k e:=by
 cases d with
 |int _|string|bool=>
  cases hk with
  |int _ _|string _|bool _=>cases he with
   |hole _ hw=>cases e'<;>first|rfl|(cases hw;done)
   |_=>rfl
  |hole _ hw=>cases k'<;>first|rfl|(cases hw;done)
  |_=>rfl
 |_=>rfl
inductive FR(ρ:Nat->Nat)(L:Nat->Prop):Option (Nat×Value)->Option (Nat×Value)->Prop
 |none:FR ρ L none none
 |some {i v v'}:VRel ρ L v v'->FR ρ L (some (i,v)) (some (i,v'))
theorem ERel.up{L':Nat->Prop}{a b}(h:ERel ρ L a b)(hL:∀b,L b->L' b):ERel ρ L' a b:=⟨h.key.up hL,h.val.up hL,h.born⟩
theorem EsRel.up{L':Nat->Prop}{a b}(h:EsRel ρ L a b)(hL:∀b,L b->L' b):EsRel ρ L' a b:=by
 induction h with
 |nil=>exact .nil
 |cons h _ ih=>exact .cons (h.up hL) ih
theorem Z6i(d:TypeDesc){k k':Value}(hk:VRel ρ L k k'):∀{es es':List MapEntry}(i:Nat),EsRel ρ L es es'->
 (Instr.findNow d k es i=none/\Instr.findNow d k' es' i=none)\/∃a b,Instr.findNow d k es i=some a/\Instr.findNow d k' es' i=some b/\FR ρ L a b:=by
 intro es
 induction es with
 |nil=>intro es' i h;cases h;exact .inr ⟨_,_,rfl,rfl,.none⟩
 |cons e es ih=>
  intro es' i h;cases h with
  | @cons _ e' _ es' h1 h2=>
    simp only[Instr.findNow];rw[Z6h d hk h1.key];cases Instr.sameNow d k e.key with
    |none=>exact .inl ⟨rfl,rfl⟩
    |some b=>cases b with
     |true=>exact .inr ⟨_,_,rfl,rfl,.some h1.val⟩
     |false=>exact ih _ h2
theorem Z5p(t:TypeId)(ht:Z75 P Op.maxDepth t=true):∀{es es':List MapEntry}(i:Nat)(L:Nat->Prop){k k':Value},VRel ρ L k k'->EsRel ρ L es es'->
 Q P fs Λ P.globals.size ρ L (FR ρ) (Instr.findAsking t k es i) (Instr.findAsking t k' es' i):=by
 intro es
 induction es with
 |nil=>intro es' i L k k' hk h;cases h;exact Q.pure .none
 |cons e es ih=>
  intro es' i L k k' hk h;cases h with
  | @cons _ e' _ es' h1 h2=>
    simp only[Instr.findAsking];refine(Z90 t ht hk h1.key).bind ?_;rintro b _ L1 g1 rfl;exact Q.ite UO (λ_=>Q.pure (.some (h1.val.up g1))) (λ_=>ih _ L1 (hk.up g1) (h2.up g1))
theorem Z5q(t:TypeId)(ht:Z75 P Op.maxDepth t=true){es es':List MapEntry}{k k':Value}(hk:VRel ρ L k k')(h:EsRel ρ L es es'):
 Q P fs Λ P.globals.size ρ L (FR ρ) (Instr.findKey t k es) (Instr.findKey t k' es'):=by
 unfold Instr.findKey;refine(Za t).bind ?_;rintro d _ L1 g1 ⟨rfl,hd⟩;rcases Z6i d (hk.up g1) 0 (h.up g1) with⟨e1,e2⟩|⟨a,b,e1,e2,Cy⟩
 ·rw[e1,e2];exact Z5p t ht 0 L1 (hk.up g1) (h.up g1)
 ·rw[e1,e2];exact Q.pure Cy
theorem Zb4(t:TypeId)(ok:Bool){x x' k k':Value}(ht:Z6g P t=true)(hx:VRel ρ L x x')(hk:VRel ρ L k k'):Q P fs Λ P.globals.size ρ L (VR ρ) (Instr.lookup t x k ok) (Instr.lookup t x' k' ok):=by
 unfold Instr.lookup;refine(Za t).bind ?_;rintro d _ L1 g1 ⟨rfl,hd⟩;cases d with
 |map kt et=>
  simp only[Z6g,hd,YG] at ht;obtain⟨⟨Hu,Nm⟩,ht3⟩:=ht;have hx:=hx.up g1;have hk:=hk.up g1
  have fin:∀{L':Nat->Prop}(es es':Array MapEntry),(∀b,L1 b->L' b)->EsRel ρ L' es.toList es'.toList->Q P fs Λ P.globals.size ρ L' (VR ρ) (do
   Instr.checkKey es.isEmpty 10000 kt k
   let (v,o)<-match<-Instr.findKey kt k es.toList with
    |some (_,v)=>Pure.pure (v,true)
    |none=>Pure.pure (<-zeroValue et,false)
   Pure.pure (if ok then .tuple #[v,.bool o] else v)) (do
   Instr.checkKey es'.isEmpty 10000 kt k'
   let (v,o)<-match<-Instr.findKey kt k' es'.toList with
    |some (_,v)=>Pure.pure (v,true)
    |none=>Pure.pure (<-zeroValue et,false)
   Pure.pure (if ok then .tuple #[v,.bool o] else v)):=by
   intro L' es es' g h;have e:es'.isEmpty=es.isEmpty:=by
    have:=h.length;simp only[SZ] at this;simp[Array.isEmpty,this]
   rw[e];refine(Z42 _ 10000 5 L' kt Hu (hk.up g)).bind ?_;intro _ _ L2 g2 _;refine(Z5q kt Nm ((hk.up g).up g2) (h.up g2)).bind ?_;intro r r' L3 g3 hr;cases hr with
   |some hv=>
    refine Q.pure ?_;cases ok
    ·exact hv
    ·have:=(AR.one hv).push (.bool true);exact .tuple this.1 this.2
   |none=>
    refine(Z3Z et ht3).bind ?_;intro z z' L4 g4 hz;refine Q.pure ?_;cases ok
    ·exact hz
    ·have:=(AR.one hz).push (.bool false);exact .tuple this.1 this.2
  cases hx with
  |nilMap=>exact fin #[] #[] (λ_ h=>h) .nil
  | @map r hr=>
    intro hK N;refine .getObj hr λL' o o' hL hK' ho Gj=> ?_
    cases ho with
    |map h=>exact fin _ _ hL h hK' N
    |_=>exact .bad trivial
  |_=>exact Q.stuck
 |_=>exact Q.stuck
theorem Z6j(hK:Good ρ P.globals.size L):∀(n:Nat){x x' y y':Value},VRel ρ L x x'->VRel ρ L y y'->Instr.sameBits n x y=true->Instr.sameBits n x' y'=true:=by
 intro n
 induction n with
 |zero=>
  intro x x' y y' hx hy h;cases hx<;>cases hy<;>first|exact h|(simp[Instr.sameBits,Go.undef] at h;done)|skip
  rename_i a ha b hb;simp only[Instr.sameBits,XW,XJ] at h⊢;rw[h]
 |succ n ih=>
  intro x x' y y' hx hy h;cases hx<;>cases hy<;>first|exact h|(simp[Instr.sameBits,Go.undef] at h;done)|skip
  ·rename_i a ha b hb;simp only[Instr.sameBits,XW,XJ] at h⊢;rw[h]
  ·rename_i t v v' hv u w w' hw;simp only[Instr.sameBits,YG,XW] at h⊢;exact⟨h.1,ih hv hw h.2⟩
  ·rename_i a a' h1 h2 b b' k1 k2;simp only[Instr.sameBits,YG,XW] at h⊢;refine⟨by rw[<-h1,<-k1];exact h.1,?_⟩;have key:∀{l l' m m':List Value},VsRel ρ L l l'->VsRel ρ L m m'->(l.zip m).all (fun(x,y)=>Instr.sameBits n x y)=true->(l'.zip m').all (fun(x,y)=>Instr.sameBits n x y)=true:=by
    intro l
    induction l with
    |nil=>intro l' m m' h _ _;cases h;rfl
    |cons a l ihl=>
     intro l' m m' h hm hq;cases h with
     |cons ha hl=>
      cases hm with
      |nil=>rfl
      |cons hb hm=>
       simp only[SD,QI,YG] at hq⊢;exact⟨ih ha hb hq.1,ihl hl hm hq.2⟩
   exact key (AR.list ⟨h1,h2⟩) (AR.list ⟨k1,k2⟩) h.2
theorem Z7a{s t:ByteArray}(h:(s==t)=true):s=t:=by
 obtain⟨s⟩:=s;obtain⟨t⟩:=t;have:(s==t)=true:=h;rw[eq_of_beq this]
theorem sameBits_eq:∀(n:Nat){x y:Value},Instr.sameBits n x y=true->x=y:=by
 intro n
 induction n with
 |zero=>intro x y h;cases x<;>cases y<;>first|(simp[Instr.sameBits] at h;done)|exact SG Value.string (Z7a h)|(simp only[Instr.sameBits,YG,XW] at h;grind)
 |succ n ih=>
  intro x y h;cases x<;>cases y<;>first|(simp[Instr.sameBits] at h;done)|skip
  case agg.agg a b=>
   simp only[Instr.sameBits,YG,XW] at h;have key:∀{l m:List Value},l.length=m.length->(l.zip m).all (fun(x,y)=>Instr.sameBits n x y)=true->l=m:=by
    intro l
    induction l with
    |nil=>intro m hl _;cases m with|nil=>rfl|cons _ _=>simp at hl
    |cons a l ihl=>
     intro m hl hq;cases m with
     |nil=>simp at hl
     |cons b m=>
      simp only[SD,QI,YG] at hq;rw[ih hq.1,ihl (by simpa using hl) hq.2]
   have:=key (by simpa using h.1) h.2;rw[Array.toList_inj.1 this]
  case iface.iface t v u w=>
   simp only[Instr.sameBits,YG,XW] at h;rw[h.1,ih h.2]
  all_goals first|exact SG Value.string (Z7a h)|(simp only[Instr.sameBits,YG,XW] at h;grind)
theorem Z7b(p:Program)(old k:Value)(V:World):∃key d,(Instr.keyThatStays old k).run p V= .ok key {V with drawn:=V.drawn+d}/\(∀es,(Instr.keyThatStays old k).runT p V es=(.ok key {V with drawn:=V.drawn+d},es))/\
 ((Instr.sameBits 10000 old k=true/\key=k)\/(Instr.sameBits 10000 old k=false/\key=if(Question.extern "map.whichKeyStays" 2).cut (V.tape V.drawn (.extern "map.whichKeyStays" 2))=0 then k else old)):=by
 unfold Instr.keyThatStays;cases h:Instr.sameBits 10000 old k with
 |true=>exact⟨k,0,rfl,λ_=>rfl,.inl ⟨rfl,rfl⟩⟩
 |false=>exact⟨_,1,rfl,λ_=>rfl,.inr ⟨rfl,rfl⟩⟩
theorem EsRel.get{es es':Array MapEntry}(h:EsRel ρ L es.toList es'.toList)(i:Nat):(es[i]? =none/\es'[i]? =none)\/∃e e',es[i]? =some e/\es'[i]? =some e'/\ERel ρ L e e':=by
 have key:∀{l l':List MapEntry},EsRel ρ L l l'->∀i:Nat,(l[i]? =none/\l'[i]? =none)\/∃e e',l[i]? =some e/\l'[i]? =some e'/\ERel ρ L e e':=by
  intro l l' h
  induction h with
  |nil=>exact λi=> .inl ⟨by simp,by simp⟩
  |cons h _ ih=>
   intro i;cases i with
   |zero=>exact .inr ⟨_,_,rfl,rfl,h⟩
   |succ i=>simpa using ih i
 simpa using key h i
theorem EsRel.modify(f f':MapEntry->MapEntry)(hf:∀e e',ERel ρ L e e'->ERel ρ L (f e) (f' e')):∀{l l':List MapEntry}(i:Nat),EsRel ρ L l l'->EsRel ρ L (l.modify i f) (l'.modify i f'):=by
 intro l l' i h
 induction h generalizing i with
 |nil=>simp;exact .nil
 |cons h h' ih=>
  cases i with
  |zero=>exact .cons (hf _ _ h) h'
  |succ i=>exact .cons h (ih i)
theorem EsRel.push{l l':List MapEntry}{e e':MapEntry}(h:EsRel ρ L l l')(he:ERel ρ L e e'):EsRel ρ L (l++[e]) (l'++[e']):=by
 induction h with
 |nil=>exact .cons he .nil
 |cons h _ ih=>exact .cons h ih
theorem Z4z(r:Nat){o o':Obj}(hr:L r)(ho:ORel ρ L true o o')(hn:∀l,o= .loop l->Λ l)(hc:∀c e f,o≠.cells c e f):Q P fs Λ P.globals.size ρ L (TT (α:=Unit) (β:=Unit)) (setObj r o) (setObj (ρ r) o'):=λ_ _=> .setObj hr ho hn hc (.pure trivial)
def Z21(t:TypeId)(m k:Value):Sem (Nat×Array MapEntry×Nat×Option (Nat×Value)):=do
 let .map keyType _<-underlying t|stuck "MapUpdate: map type expected"
 match m with
 | .map none=>runtimePanic (.plain "assignment to entry in nil map")
 | .map (some r)=>
   let .map es clock<-getObj r|stuck "MapUpdate: map expected"
   Instr.checkKey false 10000 keyType k
   let x<-Instr.findKey keyType k es.toList
   pure (r,es,clock,x)
 |_=>stuck "MapUpdate: map expected"
def Z3p(k v:Value):Nat×Array MapEntry×Nat×Option (Nat×Value)->Sem Unit
 |(r,es,clock,some (i,_))=>do
  let key<-Instr.keyThatStays (((es[i]?).map (·.key)).getD k) k
  setObj r (.map (es.modify i λe=>{e with key,val:=v}) clock)
 |(r,es,clock,none)=>setObj r (.map (es.push {key:=k,val:=v,born:=clock}) (clock+1))
theorem Z1J(t:TypeId)(m k v:Value):Instr.mapUpdate t m k v=Z21 t m k>>=Z3p k v:=by
 unfold Instr.mapUpdate Z21;rw[bind_assoc];congr 1;funext d;cases d with
 |map kt et=>
  dsimp only;cases m with
  |map r=>
   cases r with
   |none=>rfl
   |some r=>
    dsimp only;rw[bind_assoc];congr 1;funext o;cases o with
    |map es clock=>
     dsimp only;rw[bind_assoc];congr 1;funext _;rw[bind_assoc];congr 1;funext x;rw[pure_bind];cases x with
     |none=>rfl
     |some x=>rfl
    |_=>rfl
  |_=>rfl
 |_=>rfl
structure UR(ρ:Nat->Nat)(L:Nat->Prop)(x y:Nat×Array MapEntry×Nat×Option (Nat×Value)):Prop where
 r:y.1=ρ x.1
 live:L x.1
 es:EsRel ρ L x.2.1.toList y.2.1.toList
 clock:y.2.2.1=x.2.2.1
 found:FR ρ L x.2.2.2 y.2.2.2
theorem Zb5(t:TypeId){m m' k k':Value}(ht:Z6g P t=true)(hm:VRel ρ L m m')(hk:VRel ρ L k k'):Q P fs Λ P.globals.size ρ L (UR ρ) (Z21 t m k) (Z21 t m' k'):=by
 unfold Z21;refine(Za t).bind ?_;rintro d _ L1 g1 ⟨rfl,hd⟩;cases d with
 |map kt et=>
  simp only[Z6g,hd,YG] at ht;obtain⟨⟨Hu,Nm⟩,ht3⟩:=ht;have hm:=hm.up g1;cases hm with
  |nilMap=>exact Z02 _ rfl
  | @map r hr=>
    intro hK N;refine .getObj hr λL2 o o' g2 hK' ho Gj=> ?_
    cases ho with
    | @map es es' clock h=>
      have Bh:=g2 _ hr
      refine(?_:Q P fs Λ P.globals.size ρ L2 (UR ρ) (do
       Instr.checkKey false 10000 kt k
       let x<-Instr.findKey kt k es.toList
       pure (r,es,clock,x)) (do
       Instr.checkKey false 10000 kt k'
       let x<-Instr.findKey kt k' es'.toList
       pure (ρ r,es',clock,x))) hK' N
      have Az:=(hk.up g1).up g2;refine(Z42 _ 10000 5 L2 kt Hu Az).bind ?_;intro _ _ L3 g3 _;refine(Z5q kt Nm (Az.up g3) (h.up g3)).bind ?_;intro x x' L4 g4 hx;exact Q.pure ⟨rfl,g4 _ (g3 _ Bh),(h.up g3).up g4,rfl,hx⟩
    |_=>exact .bad trivial
  |_=>exact Q.stuck
 |_=>exact Q.stuck
theorem EsRel.put{es es':Array MapEntry}(h:EsRel ρ L es.toList es'.toList)(i:Nat){k k' v v':Value}(hk:VRel ρ L k k')(hv:VRel ρ L v v'):
 EsRel ρ L (es.modify i λe=>{e with key:=k,val:=v}).toList (es'.modify i λe=>{e with key:=k',val:=v'}).toList:=by
 simp only[Array.toList_modify];exact EsRel.modify (λe=>{e with key:=k,val:=v}) (λe=>{e with key:=k',val:=v'}) (λe e' he=>⟨hk,hv,he.born⟩) i h
end
end Go.Nk
