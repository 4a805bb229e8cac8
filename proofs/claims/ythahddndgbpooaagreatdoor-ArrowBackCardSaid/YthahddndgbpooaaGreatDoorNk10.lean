import Derived.Test.YthahddndgbpooaaGreatDoorNkA
import Derived.Test.YthahddndgbpooaaGreatDoorNk09
import Derived.Laws.StructEq
set_option linter.all false
set_option maxRecDepth 100000
set_option maxHeartbeats 2000000
open Go
variable {a a':Act}{ops:Array Oper}{args:Array Value}{R:Exit->Act->World->Prop}{f:FuncId}{k0 k1 r0 r1 r2 r3:Int}{rs:List Int}{pre:List Nat}{B c4 c5 cap i j k m n4 n5 q t:Nat}{p:Nat->Nat}{A A':Nat->Prop}{obj:Obj}{o oi oq:Oper}{b4 b5:Option Addr}{P:Program}{u v x:Value}{W w w':World}
namespace Go.Nk
open Go.Region Go.Proofs.Tryq
section
def FQ:Exit->Act->World->Prop:=λ_ _ _=>False
def Zfw(R:Exit->Act->World->Prop):Exit->Act->World->Prop:=λe a w=>match e with
 | .normal=>R .normal a w
 |_=>False
theorem Zfm(h:R .normal a w):Zfw R .normal a w:=h
structure NoX(Q:Exit->Act->World->Prop):Prop where
 pan:∀c a w,¬Q (.panic c) a w
 out:¬LetsOut Q
theorem noFQ:NoX FQ:=⟨λ_ _ _ h=>h,fun⟨_,_,h⟩=>h⟩
theorem noN:NoX (Zfw R):=⟨λ_ _ _ h=>h,fun⟨_,_,h⟩=>h⟩
def anyE(P:Program)(ops:Array Oper)(R:Exit->Act->World->Prop)(t:Nat):Nat->Array Bool->Act->World->Prop
 |0,listed,a,w=>Region.ready .any ops listed=[]/\∀W,Ext w W->R .normal a W
 |n+1,listed,a,w=>∀W,Ext w W->(Region.ready .any ops listed=[]->R .normal a W)/\∀i∈Region.ready .any ops listed,
   (i<t->wpOp P ops FQ i (λa' W'=>Ext W W'/\anyE P ops R t n (listed.setIfInBounds i true) a' W') a W)/\(t<=i->wpOp P ops FQ i (wpAny P .any ops (Zfw R) n (listed.setIfInBounds i true)) a W)
theorem anyE.ext{n:Nat}{l:Array Bool}(h:anyE P ops R t n l a w)(e:Ext w W):anyE P ops R t n l a W:=by
 cases n with
 |zero=>exact⟨h.1,λW' h'=>h.2 W' (e.trans h')⟩
 |succ n=>exact λW' h'=>h W' (e.trans h')
theorem wp_FQ{Q:Exit->Act->World->Prop}(hQ:NoX Q){o:Oper}{a:Act}{w:World}{K K':Act->World->Prop}(hK:∀a w,K a w->K' a w)(h:o.wp P a w K Q):o.wp P a w K' R:=by
 unfold Oper.wp at*;generalize (execOp a.eval o).run P w=r at*;cases r with
 |ok n w'=>
  cases n<;>simp only[Oper.upon] at h⊢
  case enter f args=>
   refine Calls.mono h λe w'' he=> ?_
   cases e with
   |returned u=>exact hK _ _ he
   |panicked c=>exact(hQ.pan _ _ _ he).elim
   |outgrown=>exact(hQ.out he).elim
  case row row args=>exact Rows.mono h λu w'' he=>hK _ _ he
  all_goals exact hK _ _ h
 |halt x w'=>
  cases x<;>simp only[Oper.upon] at h⊢
  case panic u=>exact(hQ.pan _ _ _ h).elim
theorem Zf8{Q:Exit->Act->World->Prop}(hQ:NoX Q){i:Nat}{a:Act}{w:World}{K K':Act->World->Prop}(hK:∀a w,K a w->K' a w)(h:wpOp P ops Q i K a w):wpOp P ops R i K' a w:=by
 unfold wpOp at*;split
 ·rename_i ho;simp only[ho] at h;exact hK _ _ h
 ·rename_i o ho;simp only[ho] at h;split
  ·rename_i hw;simp only[hw,XQ] at h;rcases h with h|⟨_,h⟩
   ·exact .inl (wp_FQ hQ hK h)
   ·exact(hQ.out h).elim
  ·rename_i hw;simp only[hw] at h;exact hK _ _ h
theorem wpAny_only:∀(n:Nat)(l:Array Bool)(a:Act)(w:World),wpAny P .any ops (Zfw R) n l a w->wpAny P .any ops R n l a w
 |0,_,_,_,h=>h
 |n+1,_,_,_,h=>⟨h.1,λi hi=>Zf8 noN (λa' w' h'=>wpAny_only n _ a' w' h') (h.2 i hi)⟩
theorem wpAny_of_E:∀(n:Nat)(l:Array Bool)(a:Act)(w:World),anyE P ops R t n l a w->wpAny P .any ops R n l a w
 |0,_,_,w,h=>⟨h.1,h.2 w (Ext.rfl' w)⟩
 |n+1,_,_,w,h=>⟨λh0=>(h w (Ext.rfl' w)).1 h0,λi hi=>by
   rcases XY i t with ht|ht
   ·exact Zf8 noFQ (λa' w' h'=>wpAny_of_E n _ a' w' h'.2) (((h w (Ext.rfl' w)).2 i hi).1 ht)
   ·exact Zf8 noFQ (λa' w' h'=>wpAny_only n _ a' w' h') (((h w (Ext.rfl' w)).2 i hi).2 ht)⟩
def YV(P:Program)(o:Oper)(a:Act)(W:World)(v:Value):Prop:=match (execOp a.eval o).run P W with
 | .ok (.value u) W'=>u=v/\Ext W W'
 | .ok .skip W'=>v=undef/\Ext W W'
 | .ok (.enter f args) W'=>Ext W W'/\Calls P f args W' λe W''=>e= .returned v/\Ext W W''
 |_=>False
def YE(P:Program)(ops:Array Oper)(w:World)(o:Oper)(v:Value)(a:Act):Prop:=
 (Region.wanted o (yielded ops a.tmps)=true/\∀W,Ext w W->YV P o a W v)\/(Region.wanted o (yielded ops a.tmps)=false/\v=undef)
theorem YE.ext(h:YE P ops w o v a)(e:Ext w W):YE P ops W o v a:=
 h.imp (λh=>⟨h.1,λW' h'=>h.2 W' (e.trans h')⟩) id
theorem YE.same(hy:YE P ops w o v a)(he:execOp a'.eval o=execOp a.eval o)
 (hw:Region.wanted o (yielded ops a'.tmps)=Region.wanted o (yielded ops a.tmps)):YE P ops w o v a':=by
 unfold YE YV at*;rw[he,hw];exact hy
theorem YE.wpOp{i:Nat}{o:Oper}{v:Value}{a:Act}{w W:World}(hi:ops[i]? =some o)(hy:YE P ops w o v a)(hW:Ext w W){K:Act->World->Prop}{R:Exit->Act->World->Prop}(h:∀W',Ext W W'->K (a.put o.dst v) W'):wpOp P ops R i K a W:=by
 unfold Go.wpOp;simp only[hi];rcases hy with⟨hw,hv⟩|⟨hw,rfl⟩
 ·simp only[hw,XQ];refine .inl ?_;have h3:=hv W hW;unfold YV at h3;unfold Oper.wp;generalize (execOp a.eval o).run P W=r at*;cases r with
  |ok n w'=>
   cases n<;>simp only at h3<;>simp only[Oper.upon]
   case value u=>obtain⟨rfl,e⟩:=h3;exact h _ e
   case skip=>obtain⟨rfl,e⟩:=h3;exact h _ e
   case enter f args=>exact h3.2.mono λe w'' ⟨he,hw''⟩=>by subst he;exact h _ hw''
  |halt x w'=>simp only at h3
 ·simp only[hw,YR,XZ];exact h _ (Ext.rfl' _)
theorem ZeV{oj:Oper}(hj:ops[j]? =some oj)(D0:oi.apart ops oj=true)(X2:∀cs b,oj.op≠.select cs b){K:Act->World->Prop}{a:Act}{W:World}
 (h:wpOp P ops FQ j K (a.put oi.dst v) W):wpOp P ops FQ j (λa' w'=>(∃u d,a'={a with defers:=d}.put oj.dst u)/\K (a'.put oi.dst v) w') a W:=by
 obtain⟨h1,h2,h3⟩:=RY D0;unfold wpOp at*;simp only[hj] at*;rw[wanted_put oj a oi.dst v h1] at h;split
 ·rename_i hw;simp only[hw,XQ] at h;rcases h with h|⟨_,_,_,hl⟩
  case inr=>exact hl.elim
  refine .inl ?_;unfold Oper.wp at*;rw[execOp_put oj X2 a oi.dst v h1] at h;generalize (execOp a.eval oj).run P W=r at*;cases r with
  |ok n w'=>
   cases n<;>simp only[Oper.upon] at h⊢
   case value u=>exact⟨⟨u,a.defers,rfl⟩,by rw[<-TA a v u h2];exact h⟩
   case skip=>exact⟨⟨undef,a.defers,rfl⟩,by rw[<-TA a v undef h2];exact h⟩
   case defer d=>
    refine⟨⟨undef,d::a.defers,rfl⟩,?_⟩;rw[<-TA _ v undef h2,<-Act.put_defers];exact h
   case enter f args=>
    refine Calls.mono h λe w'' he=> ?_
    cases e with
    |returned u=>exact⟨⟨u,a.defers,rfl⟩,by rw[<-TA a v u h2];exact he⟩
    |panicked c=>exact he.elim
    |outgrown=>obtain⟨_,_,h⟩:=he;exact h.elim
   case row row args=>exact Rows.mono h λu w'' he=>⟨⟨u,a.defers,rfl⟩,by rw[<-TA a v u h2];exact he⟩
  |halt x w'=>
   cases x<;>simp only[Oper.upon] at h⊢
   case panic u=>exact h.elim
 ·rename_i hw;simp only[hw] at h;exact⟨⟨undef,a.defers,rfl⟩,by rw[<-TA a v undef h2];exact h⟩
theorem Zfz{oj:Oper}(hj:ops[j]? =some oj)(D0:oi.apart ops oj=true)(X2:∀cs b,oj.op≠.select cs b){K:Act->World->Prop}{a:Act}{W:World}
 (h:wpOp P ops FQ j K a W):wpOp P ops FQ j (λa' w'=>∃a'',a'=a''.put oi.dst v/\K a'' w') (a.put oi.dst v) W:=by
 obtain⟨h1,h2,h3⟩:=RY D0;unfold wpOp at*;simp only[hj] at*;rw[wanted_put oj a oi.dst v h1];split
 ·rename_i hw;simp only[hw,XQ] at h;rcases h with h|⟨_,_,_,hl⟩
  case inr=>exact hl.elim
  refine .inl ?_;unfold Oper.wp at*;rw[execOp_put oj X2 a oi.dst v h1];generalize (execOp a.eval oj).run P W=r at*;cases r with
  |ok n w'=>
   cases n<;>simp only[Oper.upon] at h⊢
   case value u=>exact⟨_,TA a v u h2,h⟩
   case skip=>exact⟨_,TA a v undef h2,h⟩
   case defer d=>exact⟨_,by rw[<-TA _ v undef h2];exact SG (λb:Act=>b.put oj.dst undef) (Act.put_defers ..),h⟩
   case enter f args=>
    refine Calls.mono h λe w'' he=> ?_
    cases e with
    |returned u=>exact⟨_,TA a v u h2,he⟩
    |panicked c=>exact he.elim
    |outgrown=>obtain⟨_,_,h⟩:=he;exact h.elim
   case row row args=>exact Rows.mono h λu w'' he=>⟨_,TA a v u h2,he⟩
  |halt x w'=>
   cases x<;>simp only[Oper.upon] at h⊢
   case panic u=>exact h.elim
 ·rename_i hw;simp only[hw] at h;exact⟨_,TA a v undef h2,h⟩
theorem YE.kept{oj:Oper}{d:List Deferred}(D0:oi.apart ops oj=true)(I0:∀cs b,oi.op≠.select cs b)(hy:YE P ops w oi v a):YE P ops w oi v ({a with defers:=d}.put oj.dst u):=by
 obtain⟨h1,h2,h3⟩:=RY D0;exact YE.same (YE.same hy rfl rfl:YE P ops w oi v {a with defers:=d}) (execOp_put oi I0 _ oj.dst u h3) (wanted_put oi _ oj.dst u h3)
def ZfH(ops:Array Oper)(t i:Nat):Bool:=(List.range ops.size).all λj=>decide (j<t)||match ops[j]? with|some o=>(ahead o).contains i|none=>true
theorem Zf2(h:i∈ahead o):∃e∈o.after,Region.binds .any e=true/\e.on=i:=by
 unfold ahead at h;obtain⟨e,he,rfl⟩:=VD.1 h;obtain⟨h1,h2⟩:=UP.1 he;exact⟨e,by simpa using h1,h2,rfl⟩
theorem Zfx{listed:Array Bool}(hs:ZfH ops t i=true)(hi:i∈Region.ready .any ops listed)(hj:j∈Region.ready .any ops listed):j<t:=by
 rcases XY j t with h|h
 ·exact h
 ·obtain⟨_,oj,Cb,Aq⟩:=UW.1 hj;have h1:=YL.1 hs j (YU.2 (YF.1 Cb).1);rw[Cb] at h1;simp only[UB,XG] at h1;rcases h1 with h1|h1
  ·omega
  ·obtain⟨e,he,hb,hon⟩:=Zf2 (by simpa using h1);have h3:=Aq e he hb;rw[hon] at h3;have h4:=(UW.1 hi).1;rcases XY i listed.size with h'|h'
   ·simp[h'] at h3 h4;rw[h3] at h4;cases h4
   ·simp[Array.getElem?_eq_none h'] at h3
def ZfA(o:Oper):Bool:=match o.op with
 | .move _| .assign _| .extract .. =>true
 |_=>false
theorem ZfK(h:(Instr.extract x k).run P w= .ok v w'):∀W,(Instr.extract x k).run P W= .ok v W:=by
 intro W;unfold Instr.extract at h⊢;cases x<;>simp only at h⊢<;>try (simp[stuck] at h;done)
 rename_i vs;cases hv:vs[k]? with
 |none=>rw[hv] at h;simp[stuck] at h
 |some u=>rw[hv] at h;simp at h⊢;exact h.1
theorem ZfL(ho:ZfA o=true){ev:Operand->Value}{w w':World}{v:Value}(h:(execOp ev o).run P w= .ok (.value v) w'):∀W,(execOp ev o).run P W= .ok (.value v) W:=by
 intro W;unfold ZfA at ho;unfold execOp at h⊢;split at ho<;>rename_i he<;>simp only[he] at h⊢
 ·simp at h⊢;exact h.1
 ·simp at h⊢;exact h.1
 ·rw[UM] at h⊢;cases hr:(Instr.extract (ev _) _).run P w with
  |ok u w1=>
   rw[hr] at h;rw[ZfK hr W];simp[Result.andThen] at h⊢;exact h.1
  |halt x w1=>rw[hr] at h;simp[Result.andThen] at h
 ·cases ho
def ZfI(ops:Array Oper)(t i:Nat):Bool:=ZfH ops t i||match ops[i]? with|some o=>ZfA o|none=>false
theorem YE.yields(hf:ZfA o=true)(hy:YE P ops w o v a):Yields P ops o v a:=by
 refine hy.imp (λh=>⟨h.1,?_⟩) id;have h1:=h.2 w (Ext.rfl' w);unfold YV at h1;cases hr:(execOp a.eval o).run P w with
 |ok n w'=>
  rw[hr] at h1;cases n<;>simp only at h1
  case value u=>obtain⟨rfl,_⟩:=h1;exact ZfL hf hr
  all_goals
   exfalso;unfold ZfA at hf;unfold execOp at hr;split at hf<;>rename_i he<;>simp only[he] at hr
   ·simp at hr
   ·simp at hr
   ·exact(by
     rw[UM] at hr;generalize (Instr.extract _ _).run P w=r at hr;cases r<;>simp[Result.andThen] at hr)
   ·cases hf
 |halt x w'=>rw[hr] at h1;simp only at h1
theorem ZeW{listed:Array Bool}{j:Nat}{oj:Oper}(hi:listed.getD i true=false)(Aq:∀e∈oj.after,Region.binds .any e=true->listed.getD e.on false=true):∀e∈oj.after,Region.binds .any e=true->e.on≠i:=λe he hb heq=>by
 have h1:=Aq e he hb;rw[heq] at h1;rcases XY i listed.size with h'|h'
 ·simp[h'] at hi h1;rw[hi] at h1;cases h1
 ·simp[Array.getElem?_eq_none h'] at h1
theorem ZeR(hi:ops[i]? =some oi)(De:∀(j:Nat)(o:Oper) cs b,ops[j]? =some o->o.op≠.select cs b)(Ai:ZfI ops t i=true)(hit:i<t):
 ∀(n:Nat)(listed:Array Bool)(a:Act)(w:World),
  (∀j oj,ops[j]? =some oj->j≠i->listed.getD j true=false->(∀e∈oj.after,Region.binds .any e=true->e.on≠i)->oi.apart ops oj=true)->
  i∈Region.ready .any ops listed->YE P ops w oi v a->anyE P ops R t n (listed.setIfInBounds i true) (a.put oi.dst v) w->anyE P ops R t (n+1) listed a w:=by
 intro n
 induction n with
 |zero=>
  intro listed a w _ hr hy H W hW;refine⟨λh=>(by rw[h] at hr;cases hr),λj hj=> ?_⟩;by_cases Ay:j=i
  ·subst Ay;exact⟨λ_=>hy.wpOp hi hW λW' hW'=>⟨hW',H.ext (hW.trans hW')⟩,λh=>by omega⟩
  ·have:=TE hj Ay;rw[H.1] at this;cases this
 |succ n ih=>
  intro listed a w Di hr hy H W hW;refine⟨λh=>(by rw[h] at hr;cases hr),λj hj=> ?_⟩;by_cases Ay:j=i
  ·subst Ay;exact⟨λ_=>hy.wpOp hi hW λW' hW'=>⟨hW',H.ext (hW.trans hW')⟩,λh=>by omega⟩
  ·obtain⟨Eg,oj,Cb,Aq⟩:=UW.1 hj;have D0:=Di j oj Cb Ay Eg (ZeW (j:=j) (UW.1 hr).1 Aq)
   have F7:∀k ok,ops[k]? =some ok->k≠i->(listed.setIfInBounds j true).getD k true=false->
    (∀e∈ok.after,Region.binds .any e=true->e.on≠i)->oi.apart ops ok=true:=λk ok hk Gu Kj Ez=>by
    refine Di k ok hk Gu ?_ Ez;by_cases Iv:j=k
    ·subst Iv;exact Eg
    ·rw[TW true Iv] at Kj;exact Kj
   refine⟨λX3=> ?_,λX3=> ?_⟩
   ·have h1:=((H W hW).2 j (TE hj Ay)).1 X3;refine RR (λa' w' h3=> ?_) (ZeV Cb D0 (λcs b=>De j oj cs b Cb) h1);obtain⟨⟨u,d,rfl⟩,h4,h5⟩:=h3;refine⟨h4,ih (listed.setIfInBounds j true) _ w' F7 (TE hr (SC Ay)) (YE.kept D0 (λcs b=>De i oi cs b hi) (hy.ext (hW.trans h4))) ?_⟩;rw[TF _ _ Ay];exact h5
   ·have Cs:ZfA oi=true:=by
     unfold ZfI at Ai;rw[UB] at Ai;rcases Ai with h|h
     ·have:=Zfx h hr hj;omega
     ·rw[hi] at h;exact h
    have h1:=((H W hW).2 j (TE hj Ay)).2 X3;refine RR (λa' w' h3=> ?_) (ZeV Cb D0 (λcs b=>De j oj cs b Cb) h1);obtain⟨⟨u,d,rfl⟩,h5⟩:=h3;refine wpAny_first hi De (λc a w h=>h.elim) n _ _ w' F7 (TE hr (SC Ay)) (YE.yields Cs (YE.kept D0 (λcs b=>De i oi cs b hi) hy)) ?_;rw[TF _ _ Ay];exact h5
def mark(n:Nat):List Nat->Array Bool
 |[]=>Array.replicate n false
 |k::l=>(mark n l).setIfInBounds k true
theorem ZfC(n:Nat)(l:List Nat):(mark n l).size=n:=by
 induction l with
 |nil=>simp[mark]
 |cons k l ih=>simp[mark,ih]
def LX(P:Program)(ops:Array Oper)(R:Exit->Act->World->Prop)(t:Nat)(l:List Nat)(a:Act)(w:World):Prop:=anyE P ops R t (ops.size - l.length) (mark ops.size l) a w
variable {l:List Nat}
def okT(ops:Array Oper)(_t:Nat):Bool:=Region.noSelect ops
def ZeS(ops:Array Oper)(t:Nat)(l:List Nat)(k:Nat):Bool:=decide (k<t)&&decide (l.length<ops.size)&&(Region.ready .any ops (mark ops.size l)).contains k&&Region.free .any ops (mark ops.size l) k&&ZfI ops t k
theorem Zf5(hs:okT ops t=true)(hi:ops[k]? =some o)(hf:ZeS ops t l k=true)(hy:YE P ops w o v a)(h:LX P ops R t (k::l) (a.put o.dst v) w):LX P ops R t l a w:=by
 unfold okT at hs;unfold ZeS at hf;simp only[YG,XG] at hf;obtain⟨⟨⟨⟨h1,h2⟩,h3⟩,h4⟩,h5⟩:=hf;unfold LX at*;rw[show ops.size - l.length=(ops.size - (k::l).length)+1 by simp only[YP];omega];exact ZeR hi (RU hs) h5 h1 _ _ a w (Region.free_spec hi h4) (by simpa using h3) hy h
theorem ZeX(k:Nat){o:Oper}{v:Value}{a:Act}{w:World}{f:FuncId}{args:Array Value}(hs:okT ops t=true)(hi:ops[k]? =some o)(hf:ZeS ops t l k=true)(hw:Region.wanted o (yielded ops a.tmps)=true)
 (hr:∀W,(execOp a.eval o).run P W= .ok (.enter f args) W)(hc:∀W,Ext w W->Calls P f args W λe W'=>e= .returned v/\Ext W W')(h:LX P ops R t (k::l) (a.put o.dst v) w):LX P ops R t l a w:=
 Zf5 hs hi hf (.inl ⟨hw,λW hW=>by unfold YV;rw[hr W];exact⟨Ext.rfl' W,hc W hW⟩⟩) h
theorem Zfa(k:Nat){o:Oper}{a:Act}{w:World}(hi:ops[k]? =some o)(hb:(decide (k<t)&&decide (l.length<ops.size)&&Region.ready .any ops (mark ops.size l)==[k])=true)(hw:Region.wanted o (yielded ops a.tmps)=true)
 (h:∀W,Ext w W->o.wp P a W (λa' W'=>Ext W W'/\LX P ops R t (k::l) a' W') FQ):LX P ops R t l a w:=by
 simp only[YG,XG,XW] at hb;unfold LX at*;rw[show ops.size - l.length=(ops.size - (k::l).length)+1 by simp only[YP];omega];refine λW hW=>⟨λh0=>(by rw[h0] at hb;cases hb.2),λi hi'=> ?_⟩
 rw[hb.2] at hi';obtain rfl:i=k:=by simpa using hi'
 refine⟨λ_=> ?_,λh=>by omega⟩;unfold wpOp;simp only[hi,hw,XQ];exact .inl (h W hW)
theorem Zfo{K:Act->World->Prop}(hr:(execOp a.eval o).run P W= .ok (.enter f args) W)(hc:Calls P f args W λe W'=>∃v,e= .returned v/\K (a.put o.dst v) W'):o.wp P a W K FQ:=by
 unfold Oper.wp;rw[hr,Oper.upon_enter];refine hc.mono ?_;rintro e W' ⟨v,rfl,h⟩;exact h
theorem Zf3{K:Act->World->Prop}(h:∃v W',(execOp a.eval o).run P W= .ok (.value v) W'/\K (a.put o.dst v) W'):o.wp P a W K FQ:=by
 obtain⟨v,W',hr,h⟩:=h;unfold Oper.wp;rw[hr,QZ];exact h
theorem Zf6(hk:(ops.size==l.length&&(Region.ready .any ops (mark ops.size l)).isEmpty)=true)(h:∀W,Ext w W->R .normal a W):LX P ops R t l a w:=by
 rw[YG,XW,QO] at hk;unfold LX;rw[show ops.size - l.length=0 by omega];exact⟨hk.2,h⟩
def Zfy(ops:Array Oper):Nat->Nat->List Nat->Bool
 |0,k,l=>(Region.ready .any ops (mark ops.size l)).isEmpty&&decide (k=ops.size)&&decide (l.length=ops.size)
 |n+1,k,l=>(Region.ready .any ops (mark ops.size l)==[k])&&decide (k<ops.size)&&decide (l.length=k)&&Zfy ops n (k+1) (k::l)
theorem lx_tail_list:∀(n k:Nat)(l:List Nat),Zfy ops n k l=true->∀a w,wpList P ops R (ops.toList.drop k) a w->wpAny P .any ops R (ops.size - l.length) (mark ops.size l) a w:=by
 intro n
 induction n with
 |zero=>
  intro k l hz a w h;simp only[Zfy,YG,QO,XG] at hz;obtain⟨⟨h1,h2⟩,h3⟩:=hz;rw[h3,Nat.sub_self];rw[h2,TJ (by simp)] at h;exact⟨h1,h⟩
 |succ n ih=>
  intro k l hz a w h;simp only[Zfy,YG,XW,XG] at hz;obtain⟨⟨⟨h1,h2⟩,h3⟩,h4⟩:=hz;have hi':=YN h2;have Nw:ops.toList.drop k=ops[k]::ops.toList.drop (k+1):=by rw[SV (by simpa using h2),Array.getElem_toList]
  rw[Nw] at h;rw[show ops.size - l.length=(ops.size - (k::l).length)+1 by simp only[YP];omega];refine⟨λh9=>(by rw[h9] at h1;cases h1),λi hi=> ?_⟩;rw[h1] at hi;obtain rfl:i=k:=by simpa using hi
  have hw:wpOp P ops R i (wpList P ops R (ops.toList.drop (i+1))) a w:=by unfold wpOp;simp only[hi'];exact h
  exact RR (λa' w' h'=>ih (i+1) (i::l) h4 a' w' h') hw
theorem Zfp(n:Nat){a:Act}{w:World}(hz:Zfy ops n t l=true)(h:∀W,Ext w W->wpList P ops (Zfw R) (ops.toList.drop t) a W):LX P ops R t l a w:=by
 unfold LX;cases n with
 |zero=>
  simp only[Zfy,YG,QO,XG] at hz;obtain⟨⟨h1,h2⟩,h3⟩:=hz;rw[h3,Nat.sub_self];rw[h2,TJ (by simp)] at h;exact⟨h1,h⟩
 |succ n=>
  simp only[Zfy,YG,XW,XG] at hz;obtain⟨⟨⟨h1,h2⟩,h3⟩,h4⟩:=hz;have hi':=YN h2;have Nw:ops.toList.drop t=ops[t]::ops.toList.drop (t+1):=by rw[SV (by simpa using h2),Array.getElem_toList]
  rw[show ops.size - l.length=(ops.size - (t::l).length)+1 by simp only[YP];omega];intro W hW;have h5:=h W hW;rw[Nw] at h5;refine⟨λh9=>(by rw[h9] at h1;cases h1),λi hi=> ?_⟩;rw[h1] at hi;obtain rfl:i=t:=by simpa using hi
  refine⟨λh=>by omega,λ_=> ?_⟩;have hw:wpOp P ops (Zfw R) i (wpList P ops (Zfw R) (ops.toList.drop (i+1))) a W:=by unfold wpOp;simp only[hi'];exact h5
  exact Zf8 noN (λa' w' h'=>lx_tail_list n (i+1) (i::l) h4 a' w' h') hw
def ZeC(o:Oper):Bool:=match o.op with
 | .move _| .assign _| .pick .. | .load .. | .binOp .. | .unOp .. | .convert .. | .fieldAddr .. | .field .. | .indexAddr .. | .index .. | .slice .. | .extract .. | .lookup .. | .makeFunc .. | .build .. | .makeInterface .. =>true
 | .call c=>match c.callee with
   | .builtin b=>match b with| .len| .cap| .min| .max=>true|_=>false
   |_=>false
 |_=>false
theorem run_v{s:Sem Value}(h:((do pure (Next.value (<-s)):Sem Next)).run P w= .ok (.enter f args) w'):False:=by
 rw[UM] at h;generalize s.run P w=r at h;cases r with
 |ok x w1=>simp[Result.andThen] at h
 |halt x w1=>simp[Result.andThen] at h
theorem ZeK(ho:ZeC o=true){ev:Operand->Value}{w w':World}{f:FuncId}{args:Array Value}(h:(execOp ev o).run P w= .ok (.enter f args) w'):False:=by
 unfold ZeC at ho;unfold execOp at h;split at ho<;>rename_i he<;>simp only[he] at h
 case h_3=>
  rw[UM] at h;generalize (asBool _).run P w=r at h;cases r<;>simp[Result.andThen] at h
 case h_18=>
  split at ho
  ·rename_i b hc;split at ho<;>first|cases ho|skip
   all_goals
    simp only[resolve,hc,UM,Sem.run_pure,Result.andThen,invoke,builtin] at h;exact run_v (P:=P) (by rw[UM];exact h)
  ·cases ho
 case h_19=>cases ho
 case h_1=>simp at h
 case h_2=>simp at h
 all_goals exact run_v h
def ZeM(ops:Array Oper)(t:Nat):List Nat->List Nat->Bool
 |[],_=>true
 |k::ks,l=>ZeS ops t l k&&(match ops[k]? with|some o=>ZeC o|none=>false)&&ZeM ops t ks (k::l)
def ZeD(ops:List Oper):List Nat->List Oper
 |[]=>[]
 |k::ks=>(match ops[k]? with|some o=>[o]|none=>[])++ZeD ops ks
def doneL:List Nat->List Nat->List Nat
 |[],l=>l
 |k::ks,l=>doneL ks (k::l)
theorem yv_of(ho:ZeC o=true){a:Act}{C:World->Prop}{W:World}{v:Value}(h3:o.quietAt P a C W v):YV P o a W v:=by
 unfold Oper.quietAt at h3;unfold YV;cases hr:(execOp a.eval o).run P W with
 |ok n w'=>
  rw[hr] at h3;cases n<;>simp only[Oper.quietUpon] at h3
  case value u=>exact⟨h3.2,h3.1▸Ext.rfl' _⟩
  case skip=>exact⟨h3.2,h3.1▸Ext.rfl' _⟩
  case enter f args=>exact(ZeK ho hr).elim
 |halt x w'=>rw[hr] at h3;simp only[Oper.quietUpon] at h3
theorem Zfb(X:List Nat->Act->Prop)(B:Nat->Prop)(G7:∀l k o v a,B k->ops[k]? =some o->ZeS ops t l k=true->YE P ops w o v a->X (k::l) (a.put o.dst v)->X l a):∀(ks l:List Nat)(a:Act),(∀k∈ks,B k)->ZeM ops t ks l=true->wpQuiet P ops (λw'=>∃p:Gr,w'=gr w p.d p.os) (X (doneL ks l)) (ZeD ops.toList ks) a->X l a:=by
 intro ks
 induction ks with
 |nil=>intro l a _ _ h;exact h
 |cons k ks ih=>
  intro l a hB hp h;simp only[ZeM,YG] at hp;obtain⟨⟨hf,ho⟩,hp⟩:=hp;cases hi:ops[k]? with
  |none=>rw[hi] at ho;cases ho
  |some o=>
   rw[hi] at ho;rw[ZeD,show ops.toList[k]? =some o by rw[Array.getElem?_toList];exact hi] at h;have hq:qOp P ops (λw'=>∃p:Gr,w'=gr w p.d p.os) k (wpQuiet P ops (λw'=>∃p:Gr,w'=gr w p.d p.os) (X (doneL (k::ks) l)) (ZeD ops.toList ks)) a:=by
    unfold qOp;simp only[hi];exact h
   obtain⟨v,hy,hK⟩:=yieldsIn_of_qOp hi hq;exact G7 l k o v a (hB k (YY ..)) hi hf (hy.imp (λh=>⟨h.1,λW hW=>yv_of ho (h.2 W (Zfi hW))⟩) id) (ih _ _ (λk' h'=>hB k' (YW _ h')) hp hK)
theorem ZeB{o:List Oper}(ks:List Nat){a:Act}{w:World}(hs:okT o.toArray t=true)(hp:ZeM o.toArray t ks l=true)(h:wpQuiet P o.toArray (λw'=>∃p:Gr,w'=gr w p.d p.os) (λa'=>LX P o.toArray R t (doneL ks l) a' w) (ZeD o ks) a):LX P o.toArray R t l a w:=
 Zfb (X:=λl a=>LX P o.toArray R t l a w) (λ_=>True) (λ_ _ _ _ _ _ hi hf hy h=>Zf5 hs hi hf hy h) ks l a (λ_ _=>trivial) hp h
theorem ZeG{id:Nat}(t:Nat)(hm:P.follows .mixedOrders=true)(h:LX P ops R t [] a w):(Code.region id ops true).wp P R a w:=by
 unfold LX at h;exact wp_region_any hm (wpAny_of_E _ _ _ _ (h.ext (Ext.drew (Ext.rfl' w))))
end
section
def subA(A:Nat->Prop)(W W':World):Nat->Prop:=λb=>A b/\¬(W.heap.size<=b/\b<W'.heap.size)
def anyF(P:Program)(ops:Array Oper)(R:Exit->Act->World->Prop)(t i d:Nat)(pre:List Nat)(obj:Obj):Nat->Array Bool->Act->World->(Nat->Prop)->Prop
 |0,_,_,_,_=>False
 |n+1,listed,a,w,A=>∀W,Ext w W->
   (∀j∈Region.ready .any ops listed,j≠i->wpOp P ops FQ j (λa' W'=>Ext W W'/\anyF P ops R t i d pre obj n (listed.setIfInBounds j true) a' W' (subA A W W')) a W)/\
   ((∀m∈pre,listed.getD m false=true)->∀b,A b->b<W.heap.size->W.heap[b]? =some obj->anyE P ops R t n (listed.setIfInBounds i true) (a.put (some d) (.pointer (some ⟨b,0,none⟩))) W)
variable {d:Nat}
theorem anyF.mono{n:Nat}{l:Array Bool}(h:anyF P ops R t i d pre obj n l a w A)(e:Ext w W)(hA:∀b,A' b->A b):anyF P ops R t i d pre obj n l a W A':=by
 induction n generalizing l a w W A A' with
 |zero=>exact h
 |succ n ih=>
  intro W' hW';obtain⟨h1,h2⟩:=h W' (e.trans hW');exact⟨λj hj Ay=>RR (λa' W'' h'=>⟨h'.1,ih h'.2 (Ext.rfl' _) λb hb=>⟨hA b hb.1,hb.2⟩⟩) (h1 j hj Ay),λAq b hb=>h2 Aq b (hA b hb)⟩
def ZfM(ops:Array Oper)(l:Array Bool):Nat:=(List.range ops.size).countP λj=> !l.getD j false
theorem Zfu{l:Array Bool}(hs:l.size=ops.size)(hj:j<ops.size)(hl:l.getD j false=false):ZfM ops (l.setIfInBounds j true)<ZfM ops l:=by
 unfold ZfM;refine Zad.countP_lt j (YU.2 hj) ?_ ?_ ?_
 ·simp[hs,hj]
 ·simp only[hl];rfl
 ·intro k hk;by_cases hkj:j=k
  ·subst hkj;simp[hs,hj] at hk
  ·rwa [TW false hkj] at hk
theorem ZfD{l:Array Bool}(Iv:j≠k)(hj:j<ops.size)(hk:k<ops.size)(hs:l.size=ops.size)(h1:l.getD j false=false)(h2:l.getD k false=false):2<=ZfM ops l:=by
 have a1:=Zfu hs hj h1;have a2:=Zfu (ops:=ops) (l:=l.setIfInBounds j true) (j:=k) (by simpa using hs) hk (by rw[TW false Iv];exact h2);omega
def okF(ops:Array Oper)(t i:Nat)(pre:List Nat):Bool:=Region.noSelect ops&&ZfH ops t i&&Zdr ops&&decide (i<t)&&decide (i<ops.size)&&(pre.all λm=>decide (m<ops.size)&&m !=i)&&
 (List.range ops.size).all λj=>j==i||match ops[i]?,ops[j]? with
   |some oi,some oj=>if(ahead oj).contains i then pre.all λm=>(ahead oj).contains m else oi.apart ops oj
   |_,_=>false
structure OkF(ops:Array Oper)(t i:Nat)(pre:List Nat)(oi:Oper):Prop where
 hi:ops[i]? =some oi
 sel:∀(j:Nat)(o:Oper) cs b,ops[j]? =some o->o.op≠.select cs b
 sink:ZfH ops t i=true
 eld:Zdr ops=true
 lt:i<t
 dep:∀(j:Nat)(oj:Oper),ops[j]? =some oj->i∈ahead oj->j≠i->∀m,m∈pre->m∈ahead oj
 pres:∀m∈pre,m<ops.size/\m≠i
 free:∀(j:Nat)(oj:Oper),ops[j]? =some oj->j≠i->¬i∈ahead oj->oi.apart ops oj=true
theorem ZfN(hi:ops[i]? =some oi)(h:okF ops t i pre=true):OkF ops t i pre oi:=by
 unfold okF at h;simp only[YG,XG] at h;obtain⟨⟨⟨⟨⟨⟨h1,h2⟩,h3⟩,h4⟩,h5⟩,hp⟩,h6⟩:=h;have key:∀(j:Nat)(oj:Oper),ops[j]? =some oj->j≠i->(if(ahead oj).contains i then pre.all λm=>(ahead oj).contains m else oi.apart ops oj)=true:=by
  intro j oj hj Ay;have:=YL.1 h6 j (YU.2 (YF.1 hj).1);rw[hi,hj] at this;simpa[Ay] using this
 refine⟨hi,RU h1,h2,h3,h4,λj oj hj hw Ay m hm=> ?_,λm hm=>by have:=YL.1 hp m hm;simpa using this,λj oj hj Ay hw=> ?_⟩
 ·have:=key j oj hj Ay;rw[YZ (by simpa using hw)] at this;simpa using YL.1 this m hm
 ·have:=key j oj hj Ay
  rwa [XA (by simpa using hw)] at this
theorem Zfs{listed:Array Bool}{oj:Oper}(Cb:ops[j]? =some oj)(hj:j∈Region.ready .any ops listed)(hm:m∈ahead oj):listed.getD m false=true:=by
 obtain⟨_,o,ho,Aq⟩:=UW.1 hj;rw[Cb] at ho;cases ho;obtain⟨e,he,hb,rfl⟩:=Zf2 hm;exact Aq e he hb
theorem ZfE{e:Edge}(he:e∈o.after)(hb:Region.binds .any e=true):e.on∈ahead o:=by
 unfold ahead;exact VD.2 ⟨e,UP.2 ⟨by simpa using he,hb⟩,rfl⟩
theorem Zfv{l:Array Bool}(hj:j<l.size):l.getD j true=l.getD j false:=by simp[hj]
theorem Zft(ok:OkF ops t i pre oi)(hd:oi.dst=some d):∀(n:Nat)(listed:Array Bool)(a:Act)(w:World)(A:Nat->Prop),listed.size=ops.size->listed.getD i false=false->ZfM ops listed<=n+1->
 anyF P ops R t i d pre obj (n+1) listed a w A->∀b,A b->b<w.heap.size->w.heap[b]? =some obj->anyE P ops R t n (listed.setIfInBounds i true) (a.put (some d) (.pointer (some ⟨b,0,none⟩))) w:=by
 have I1:i<ops.size:=(YF.1 ok.hi).1;intro n
 induction n with
 |zero=>
  intro listed a w A hs hl hc h b hb Bw Am;refine(h w (Ext.rfl' w)).2 (λm hm=> ?_) b hb Bw Am;cases h9:listed.getD m false with
  |true=>rfl
  |false=>
   have:=ZfD (ops:=ops) (j:=m) (k:=i) (ok.pres m hm).2 (ok.pres m hm).1 I1 hs h9 hl;omega
 |succ n ih=>
  intro listed a w A hs hl hc h b hb Bw Am;by_cases Aq:∀m∈pre,listed.getD m false=true
  ·exact(h w (Ext.rfl' w)).2 Aq b hb Bw Am
  ·obtain⟨m0,C3,hu0⟩:∃m0,m0∈pre/\listed.getD m0 false=false:=by
    apply VS;intro hn;refine Aq λm hm=> ?_
    cases h9:listed.getD m false with
    |true=>rfl
    |false=>exact absurd ⟨m,hm,h9⟩ hn
   have hm0i:=(ok.pres m0 C3).2;have hm0l:=(ok.pres m0 C3).1;intro W hW;refine⟨λh0=> ?_,λj hj=> ?_⟩
   ·have:=Z8w ok.eld (listed:=listed.setIfInBounds i true) (by simpa using hs) h0 m0 (by omega);rw[TW false (by omega),hu0] at this;cases this
   ·obtain⟨Ps,oj,Cb,Iw⟩:=UW.1 hj;have D3:j<ops.size:=(YF.1 Cb).1;have Ay:j≠i:=by
     rintro rfl;simp[hs,D3] at Ps
    have Eg:listed.getD j true=false:=(by rwa [TW true (SC Ay)] at Ps);have X4:¬i∈ahead oj:=by
     intro hw;have h1:=Zfs Cb hj (ok.dep j oj Cb hw Ay m0 C3);rw[TW false (by omega),hu0] at h1;cases h1
    have Lh:j∈Region.ready .any ops listed:=by
     refine UW.2 ⟨Eg,oj,Cb,λe he Po=> ?_⟩;have h1:=Iw e he Po
     rwa [TW false (λh=>X4 (by rw[h];exact ZfE he Po))] at h1
    refine⟨λ_=> ?_,λhtj=> ?_⟩
    ·have h1:=(h W hW).1 j Lh Ay;have D0:=ok.free j oj Cb Ay X4;have h2:=Zfz (oi:=oi) (v:= .pointer (some ⟨b,0,none⟩)) Cb D0 (λcs b=>ok.sel j oj cs b Cb) h1;rw[hd] at h2;refine RR (λa' W' h'=> ?_) h2;obtain⟨a'',rfl,hE,hF⟩:=h';refine⟨hE,?_⟩;rw[<-TF _ _ Ay];have hbW:b<W.heap.size:=hW.lt Bw;refine ih (listed.setIfInBounds j true) a'' W' (subA A W W') (by simpa using hs) (by rw[TW false Ay];exact hl) ?_ hF b ⟨hb,λh=>by omega⟩ (hE.lt hbW) (hE.get (hW.get Am));have:=Zfu (ops:=ops) hs D3 (by rw[<-Zfv (by omega)];exact Eg);omega
    ·have h1:=YL.1 ok.sink j (YU.2 D3);rw[Cb] at h1;simp only[UB,XG] at h1;rcases h1 with h1|h1
     ·omega
     ·exact absurd (by simpa using h1) X4
theorem ZfJ(ok:OkF ops t i pre oi)(hd:oi.dst=some d)(hg:oi.guard=none)(Lf:∀(a:Act) W,(execOp a.eval oi).run P W= .ok (.value (.pointer (some ⟨W.heap.size,0,none⟩))) (W.alloc obj)):∀(n:Nat)(listed:Array Bool)(a:Act)(w:World)(A:Nat->Prop),listed.size=ops.size->listed.getD i false=false->ZfM ops listed<=n+1->
 (∀b,w.heap.size<=b->A b)->anyF P ops R t i d pre obj (n+1) listed a w A->anyE P ops R t (n+1) listed a w:=by
 have I1:i<ops.size:=(YF.1 ok.hi).1;intro n
 induction n with
 |zero=>
  intro listed a w A hs hl hc hA h W hW;refine⟨λh0=> ?_,λj hj=> ?_⟩
  ·rw[Z8w ok.eld hs h0 i I1] at hl;cases hl
  ·obtain⟨Ps,oj,Cb,Iw⟩:=UW.1 hj;have D3:j<ops.size:=(YF.1 Cb).1;by_cases Ay:j=i
   ·subst Ay;refine⟨λ_=> ?_,λh=>absurd ok.lt (by omega)⟩;unfold wpOp;rw[ok.hi] at Cb;cases Cb;simp only[ok.hi,Region.wanted,hg,XQ];refine .inl ?_;unfold Oper.wp;rw[Lf,QZ,hd];refine⟨(Ext.rfl' W).alloc _,?_⟩;exact Zft ok hd 0 listed a (W.alloc obj) A hs hl hc (h.mono (hW.alloc _) λ_ h=>h) W.heap.size (hA _ hW.size) (by rw[Z2];omega) ((Z3 _ _ _).trans (YZ rfl))
   ·have:=ZfD (ops:=ops) (j:=j) (k:=i) Ay D3 I1 hs (by rw[<-Zfv (by omega)];exact Ps) hl;omega
 |succ n ih=>
  intro listed a w A hs hl hc hA h W hW;refine⟨λh0=> ?_,λj hj=> ?_⟩
  ·rw[Z8w ok.eld hs h0 i I1] at hl;cases hl
  ·obtain⟨Ps,oj,Cb,Iw⟩:=UW.1 hj;have D3:j<ops.size:=(YF.1 Cb).1;by_cases Ay:j=i
   ·subst Ay;refine⟨λ_=> ?_,λh=>absurd ok.lt (by omega)⟩;unfold wpOp;rw[ok.hi] at Cb;cases Cb;simp only[ok.hi,Region.wanted,hg,XQ];refine .inl ?_;unfold Oper.wp;rw[Lf,QZ,hd];refine⟨(Ext.rfl' W).alloc _,?_⟩;exact Zft ok hd (n+1) listed a (W.alloc obj) A hs hl hc (h.mono (hW.alloc _) λ_ h=>h) W.heap.size (hA _ hW.size) (by rw[Z2];omega) ((Z3 _ _ _).trans (YZ rfl))
   ·refine⟨λ_=> ?_,λhtj=> ?_⟩
    ·refine RR (λa' W' h'=>⟨h'.1,ih (listed.setIfInBounds j true) a' W' (subA A W W') (by simpa using hs) (by rw[TW false Ay];exact hl) ?_ (λb hb=>⟨hA b ?_,λh=>by omega⟩) h'.2⟩) ((h W hW).1 j hj Ay)
     ·have:=Zfu (ops:=ops) hs D3 (by rw[<-Zfv (by omega)];exact Ps);omega
     ·have h1:=hW.size;have h2:=h'.1.size;omega
    ·have h1:=YL.1 ok.sink j (YU.2 D3);rw[Cb] at h1;simp only[UB,XG] at h1;rcases h1 with h1|h1
     ·omega
     ·have h2:=Zfs Cb hj (by simpa using h1);rw[h2] at hl;cases hl
theorem ZfB(hq:ops[q]? =some oq)(La:ops[i]? =some oi)(hd:oi.dst=some d)(De:∀(j:Nat)(o:Oper) cs b,ops[j]? =some o->o.op≠.select cs b)(Gw:q≠i)(R7:oq.apart ops oi=true)(hg:ZfI ops t q=true)(hqt:q<t):
 ∀(n:Nat)(listed:Array Bool)(a:Act)(w:World)(A:Nat->Prop),
  (∀j oj,ops[j]? =some oj->j≠q->listed.getD j true=false->(∀e∈oj.after,Region.binds .any e=true->e.on≠q)->oq.apart ops oj=true)->
  q∈Region.ready .any ops listed->YE P ops w oq v a->anyF P ops R t i d pre obj n (listed.setIfInBounds q true) (a.put oq.dst v) w A->anyF P ops R t i d pre obj (n+1) listed a w A:=by
 intro n
 induction n with
 |zero=>intro _ _ _ _ _ _ _ h;exact h.elim
 |succ n ih=>
  intro listed a w A Di hr hy H W hW
  have Ex:∀{j:Nat},(∀k ok,ops[k]? =some ok->k≠q->(listed.setIfInBounds j true).getD k true=false->
   (∀e∈ok.after,Region.binds .any e=true->e.on≠q)->oq.apart ops ok=true):=fun{j} k ok hk Gu Kj Ez=>by
   refine Di k ok hk Gu ?_ Ez;by_cases Iv:j=k
   ·subst Iv;rcases XY j listed.size with h'|h'
    ·simp[h'] at Kj
    ·simp[Array.getElem?_eq_none h'] at Kj
   ·rw[TW true Iv] at Kj;exact Kj
  refine⟨λj hj Ay=> ?_,λAq b hb Bw Am=> ?_⟩
  ·by_cases R8:j=q
   ·subst R8;exact hy.wpOp hq hW λW' hW'=>⟨hW',H.mono (hW.trans hW') λb hb=>hb.1⟩
   ·have h1:=(H W hW).1 j (TE hj R8) Ay;obtain⟨Eg,oj,Cb,Aq⟩:=UW.1 hj;have D0:=Di j oj Cb R8 Eg (ZeW (j:=j) (UW.1 hr).1 Aq);refine RR (λa' w' h3=> ?_) (ZeV Cb D0 (λcs b=>De j oj cs b Cb) h1);obtain⟨⟨u,d,rfl⟩,h4,h5⟩:=h3;refine⟨h4,ih (listed.setIfInBounds j true) _ w' _ Ex (TE hr (SC R8)) (YE.kept D0 (λcs b=>De q oq cs b hq) (hy.ext (hW.trans h4))) ?_⟩;rw[TF _ _ R8];exact h5
  ·have h1:=(H W hW).2 (λm hm=>getD_set_true (Aq m hm)) b hb Bw Am;have h2:(a.put (some d) (.pointer (some ⟨b,0,none⟩)))=({a with defers:=a.defers}.put oi.dst (.pointer (some ⟨b,0,none⟩))):=by rw[hd]
   refine ZeR hq De hg hqt n _ _ W Ex (TE hr Gw) (by rw[h2];exact YE.kept R7 (λcs b=>De q oq cs b hq) (hy.ext hW)) ?_;rw[TF _ _ (SC Gw)];have h3:=TA a (x:=oq.dst) (y:=oi.dst) v (.pointer (some ⟨b,0,none⟩)) (RY R7).2.1;rw[hd] at h3;rw[<-h3];exact h1
def ZfF(ops:Array Oper)(k i:Nat):Bool:=k !=i&&match ops[k]?,ops[i]? with|some o,some oi=>o.apart ops oi|_,_=>false
def LXF(P:Program)(ops:Array Oper)(R:Exit->Act->World->Prop)(t i d:Nat)(pre:List Nat)(obj:Obj)(l:List Nat)(a:Act)(w:World)(A:Nat->Prop):Prop:=anyF P ops R t i d pre obj (ops.size - l.length) (mark ops.size l) a w A
variable {l:List Nat}
theorem ZfG(hs:okT ops t=true)(La:ops[i]? =some oi)(hd:oi.dst=some d)(Gu:ZfF ops k i=true)(hi:ops[k]? =some o)(hf:ZeS ops t l k=true)(hy:YE P ops w o v a)(h:LXF P ops R t i d pre obj (k::l) (a.put o.dst v) w A):LXF P ops R t i d pre obj l a w A:=by
 unfold okT at hs;unfold ZeS at hf;simp only[YG,XG] at hf;obtain⟨⟨⟨⟨h1,h2⟩,h3⟩,h4⟩,h5⟩:=hf;unfold LXF at*;rw[show ops.size - l.length=(ops.size - (k::l).length)+1 by simp only[YP];omega];unfold ZfF at Gu;rw[hi,La] at Gu;simp only[YG,bne_iff_ne] at Gu;exact ZfB hi La hd (RU hs) Gu.1 Gu.2 h5 h1 _ _ a w A (Region.free_spec hi h4) (by simpa using h3) hy h
theorem Zfr(k:Nat){o oi:Oper}{v:Value}{a:Act}{w:World}{A:Nat->Prop}{f:FuncId}{args:Array Value}(hs:(okT ops t&&ZfF ops k i)=true)(La:ops[i]? =some oi)(hd:oi.dst=some d)(hi:ops[k]? =some o)(hf:ZeS ops t l k=true)(hw:Region.wanted o (yielded ops a.tmps)=true)
 (hr:∀W,(execOp a.eval o).run P W= .ok (.enter f args) W)(hc:∀W,Ext w W->Calls P f args W λe W'=>e= .returned v/\Ext W W')(h:LXF P ops R t i d pre obj (k::l) (a.put o.dst v) w A):LXF P ops R t i d pre obj l a w A:=by
 rw[YG] at hs;exact ZfG hs.1 La hd hs.2 hi hf (.inl ⟨hw,λW hW=>by unfold YV;rw[hr W];exact⟨Ext.rfl' W,hc W hW⟩⟩) h
theorem Zfj{o:List Oper}(ks:List Nat){a:Act}{w:World}{A:Nat->Prop}(hs:(okT o.toArray t&&ks.all λk=>ZfF o.toArray k i)=true)(La:o.toArray[i]? =some oi)(hd:oi.dst=some d)(hp:ZeM o.toArray t ks l=true)(h:wpQuiet P o.toArray (λw'=>∃p:Gr,w'=gr w p.d p.os) (λa'=>LXF P o.toArray R t i d pre obj (doneL ks l) a' w A) (ZeD o ks) a):LXF P o.toArray R t i d pre obj l a w A:=by
 rw[YG] at hs;exact Zfb (X:=λl a=>LXF P o.toArray R t i d pre obj l a w A) (λk=>ZfF o.toArray k i=true) (λ_ _ _ _ _ hB hi hf hy h=>ZfG hs.1 La hd hB hi hf hy h) ks l a (λk hk=>YL.1 hs.2 k hk) hp h
theorem Zfk(k:Nat){o:Oper}{a:Act}{w:World}{A:Nat->Prop}(hi:ops[k]? =some o)(hb:(pre.contains k&&decide (l.length<ops.size)&&decide (k<ops.size)&& !(mark ops.size l).getD k true&&(Region.ready .any ops (mark ops.size l)).all λj=>j==k||j==i)=true)(hw:Region.wanted o (yielded ops a.tmps)=true)
 (h:∀W,Ext w W->o.wp P a W (λa' W'=>Ext W W'/\LXF P ops R t i d pre obj (k::l) a' W' (subA A W W')) FQ):LXF P ops R t i d pre obj l a w A:=by
 simp only[YG,XG,XR] at hb;obtain⟨⟨⟨⟨h1,h2⟩,h3⟩,h4⟩,h5⟩:=hb;unfold LXF at*;rw[show ops.size - l.length=(ops.size - (k::l).length)+1 by simp only[YP];omega];refine λW hW=>⟨λj hj Ay=> ?_,λAq=> ?_⟩
 ·have h6:=YL.1 h5 j hj;obtain rfl:j=k:=by simpa[Ay] using h6
  unfold wpOp;simp only[hi,hw,XQ];exact .inl (h W hW)
 ·have h6:=Aq k (by simpa using h1);rw[<-Zfv (by rw[ZfC];exact h3),h4] at h6;cases h6
theorem Zfq(hb:(decide (l.length<ops.size)&&(Region.ready .any ops (mark ops.size l)==[i]))=true)
 (h:∀W,Ext w W->∀b,A b->b<W.heap.size->W.heap[b]? =some obj->LX P ops R t (i::l) (a.put (some d) (.pointer (some ⟨b,0,none⟩))) W):LXF P ops R t i d pre obj l a w A:=by
 rw[YG,XG,XW] at hb;unfold LXF LX at*;rw[show ops.size - l.length=(ops.size - (i::l).length)+1 by simp only[YP];omega];refine λW hW=>⟨λj hj Ay=> ?_,λ_ b hA Bw Am=>h W hW b hA Bw Am⟩
 rw[hb.2] at hj;exact absurd (by simpa using hj) Ay
theorem Zfn{id:Nat}(t i d:Nat)(pre:List Nat)(obj:Obj)(hm:P.follows .mixedOrders=true)(hi:ops[i]? =some oi)(Bq:okF ops t i pre=true)(hd:oi.dst=some d)(hg:oi.guard=none)
 (Lf:∀(a:Act) W,(execOp a.eval oi).run P W= .ok (.value (.pointer (some ⟨W.heap.size,0,none⟩))) (W.alloc obj))(h:LXF P ops R t i d pre obj [] a w λb=>w.heap.size<=b):(Code.region id ops true).wp P R a w:=by
 have I1:i<ops.size:=(YF.1 hi).1;unfold LXF at h;refine wp_region_any hm (wpAny_of_E (t:=t) _ _ _ _ ?_);obtain⟨n,hn⟩:∃n,ops.size=n+1:=⟨ops.size - 1,by omega⟩;rw[XM,Nat.sub_zero,mark,hn] at h
 have h2:=ZfJ (R:=R) (ZfN hi Bq) hd hg Lf n (Array.replicate (n+1) false) a {w with drawn:=w.drawn+1} (λb=>w.heap.size<=b) (by simp[hn]) (by simp only[Array.getD_eq_getD_getElem?,Array.getElem?_replicate];split<;>rfl) (by
  unfold ZfM;have:=List.countP_le_length (p:=λj=> !(Array.replicate (n+1) false).getD j false) (l:=List.range ops.size);simp at this⊢;omega) (λb hb=>hb) (h.mono (Ext.drew (Ext.rfl' w)) λ_ h=>h)
 rw[hn];exact h2
end
end Go.Nk
namespace Go.Proofs.Tryq
open Go.Nk Go.RowKit
theorem Z9v(at':Int)(w:World):Calls prog 68 #[at'] w λe w'=>∃p,e= .returned (.func (.func 112) #[] #[.pointer (some ⟨p,0,none⟩)])/\Ext w w'/\w'.cell? ⟨p,0,none⟩=some (.int .i64 at'):=by
 refine(ZcS at' w).mono ?_;rintro e w' ⟨rfl,rfl⟩;refine⟨_,rfl,(Ext.rfl' w).alloc _,?_⟩;rw[Z0 (by rw[Z3,YZ rfl])];rfl
theorem firstV_all:∀{l:List Int},firstV l=0->∀x∈l,x=0
 |[],_,x,hx=>by cases hx
 |y::l,h,x,hx=>by
  have h0:=Z6t h;rw[firstV,YZ h0] at h;rcases XE.1 hx with rfl|hx
  ·exact h0
  ·exact firstV_all h x hx
theorem Z11{S:List Rs}(h:firstV (Zy r0 r1 r2 r3 S rs)=0):ZC r0 r1 r2 r3 S=0/\(∀r∈rs,r=0)/\ZdW S.length=0/\Z1r r0 r1 r2 r3 (S.map Ze)=0:=by
 have ha:=firstV_all h;refine⟨ha _ (by simp[Zy]),λr hr=>ha r (by simp[Zy,hr]),ha _ (by simp[Zy]),ha _ (by simp[Zy])⟩
theorem Z0N{a:Int}(h:Zv a=0):0<=a/\a<=90:=by
 unfold Zv okN at h;split at h
 ·rename_i h1;simpa using h1
 ·omega
theorem Z2Z{n:Nat}(hn:n<=8):(0:Int)<=2 ^ n - 1/\(2:Int) ^ n - 1<256:=by
 obtain rfl|rfl|rfl|rfl|rfl|rfl|rfl|rfl|rfl:n=0\/n=1\/n=2\/n=3\/n=4\/n=5\/n=6\/n=7\/n=8:=by omega
 all_goals decide
theorem Z30(w:World)(cs:Array Value)(L:List Fn3)(B:Nat)(hB:w.heap.size=B)(Ag:cs=(L.map fn3).toArray):∀(j:Nat)(x:Fn3),L[j]? =some x->(w.alloc (.cells cs 129)).cell? ⟨B,j,none⟩=some (fn3 x):=by
 intro j x hj;subst hB Ag;rw[Z0 (by rw[Z3,YZ rfl])];rw[YC,List.getElem?_map,hj];rfl
def Z4L(r0 r1 r2 r3:Int)(S:List Rs)(a:Int):Int×Int:=atF (cvS r0 r1 r2 r3 (S.map Ze)) (2 ^ S.length - 1) a.toNat S.length
def ZA(r0 r1 r2 r3:Int)(S:List Rs)(a:Int):Int:=firstV (Zy r0 r1 r2 r3 S [Zv a])
def Zw(r0 r1 r2 r3:Int)(S:List Rs)(a:Int):Int×Int:=if ZA r0 r1 r2 r3 S a=0 then Z4L r0 r1 r2 r3 S a else(0,0)
def Askd(r0 r1 r2 r3:Int)(base:Option Addr)(n cap:Nat)(S:List Rs)(rs:List Int)(k0 k1 k2 k3:Int)(b4:Option Addr)(n4 c4:Nat)(b5:Option Addr)(n5 c5:Nat)(w:World):Prop:=
 firstV (Zy r0 r1 r2 r3 S rs)=0->∃B p,k0=r0/\k1=r1/\k2=r2/\k3=r3/\b4=base/\n4=n/\c4=cap/\b5=some ⟨B,0,none⟩/\n5=n/\c5=n/\Cv w B n p (cvS r0 r1 r2 r3 (S.map Ze))
section
variable {k2 k3:Int}{base:Option Addr}{n:Nat}{S:List Rs}
theorem Askd.ext(h:Askd r0 r1 r2 r3 base n cap S rs k0 k1 k2 k3 b4 n4 c4 b5 n5 c5 w)(e:Ext w w'):Askd r0 r1 r2 r3 base n cap S rs k0 k1 k2 k3 b4 n4 c4 b5 n5 c5 w':=λh0=>by
 obtain⟨B,p,a0,a1,a2,a3,a4,a5,a6,a7,a8,a9,hC⟩:=h h0;exact⟨B,p,a0,a1,a2,a3,a4,a5,a6,a7,a8,a9,hC.ext e⟩
theorem Cv.stored{C:Nat->Nat->Int×Int}(h:Cv w B m p C){b:Nat}(hb:w.heap[b]? =some (.cells #[.int .i64 0,.int .i64 0,.int .i64 0,.int .i64 0,.slice none 0 0,.slice none 0 0] 136))(e:ExtB b w w'):Cv w' B m p C:=by
 have hB:∀i,i<m->B≠b:=by
  rintro i hi rfl;have:=h.ptr i hi;rw[Z0 hb] at this
  match i,this with
  |0,this|1,this|2,this|3,this|4,this|5,this=>simp at this
  |i+6,this=>simp at this
 have hp:∀i,i<m->p i≠b:=by
  rintro i hi rfl;have:=h.lo i 90 hi (by omega);rw[Z0 hb] at this;simp at this
 exact⟨λi hi=>e.cellS (hB i hi) (h.ptr i hi),λi d hi hd=>e.cellS (hp i hi) (h.lo i d hi hd),λi d hi hd=>e.cellS (hp i hi) (h.hi i d hi hd)⟩
theorem Askd.stored(h:Askd r0 r1 r2 r3 base n cap S rs k0 k1 k2 k3 b4 n4 c4 b5 n5 c5 w){b:Nat}(hb:w.heap[b]? =some (.cells #[.int .i64 0,.int .i64 0,.int .i64 0,.int .i64 0,.slice none 0 0,.slice none 0 0] 136))(e:ExtB b w w'):Askd r0 r1 r2 r3 base n cap S rs k0 k1 k2 k3 b4 n4 c4 b5 n5 c5 w':=λh0=>by
 obtain⟨B,p,a0,a1,a2,a3,a4,a5,a6,a7,a8,a9,hC⟩:=h h0;exact⟨B,p,a0,a1,a2,a3,a4,a5,a6,a7,a8,a9,hC.stored hb e⟩
end
theorem Z86(r0 r1 r2 r3:Int)(base:Option Addr)(n cap:Nat)(w:World)(at':Int)(S:List Rs)(A1:S.length=n)(hS:RawS w base S)(Eb:Most w):
 Calls prog 26 #[.agg #[r0,r1,r2,r3,.slice base n cap],at'] w λe w'=>e= .returned (.tuple #[.agg #[.int .i64 (Zw r0 r1 r2 r3 S at').1,.int .i64 (Zw r0 r1 r2 r3 S at').2],.int .i64 (ZA r0 r1 r2 r3 S at')])/\Ext w w':=by
 go_enter fk Tryz.func26,Tryz.ntmps26;go_wp2;have Ab:Ext w _:=((Ext.rfl' w).alloc (.cells #[r0,r1,r2,r3,.slice base n cap] 31)).alloc (.cells #[.int .i64 0,.int .i64 0] 49);have hb:((w.alloc (.cells #[r0,r1,r2,r3,.slice base n cap] 31)).alloc (.cells #[.int .i64 0,.int .i64 0] 49)).heap[w.heap.size]? =some (.cells #[r0,r1,r2,r3,.slice base n cap] 31):=by
  simp only[Z3,Z2];rw[XA (by omega),YZ trivial]
 have hz:((w.alloc (.cells #[r0,r1,r2,r3,.slice base n cap] 31)).alloc (.cells #[.int .i64 0,.int .i64 0] 49)).heap[w.heap.size+1]? =some (.cells #[.int .i64 0,.int .i64 0] 49):=by
  simp only[Z3,Z2];rw[YZ trivial]
 generalize World.alloc _ _=w1 at Ab hb hz⊢;have hX:=Ext.rfl' w1;have q0:=Z0 hb 0;have q1:=Z0 hb 1;have q2:=Z0 hb 2;have q3:=Z0 hb 3;have q4:=Z0 hb 4;simp only[YC,YA,YB] at q0 q1 q2 q3 q4;have g0:=Zet q0;have g1:=Zet q1;have g2:=Zet q2;have g3:=Zet q3;have g4:=Zet q4;refine Zfn 9 8 6 [0,1,2,3,4,5,6] (.cells #[.int .i64 0,.int .i64 0,.int .i64 0,.int .i64 0,.slice none 0 0,.slice none 0 0] 136) (by kernel_rfl) rfl (by kernel_rfl) rfl rfl (λa W=>by simp[go_sem,execOp,Act.eval]) ?_;refine Zfj [0,1] (by kernel_rfl) rfl rfl (by kernel_rfl) ?_;simp only[ZeD,YB,YA,YK,YJ]
 repeat (go_big_quiet_step (fail))
 refine XU ?_;refine Zfk 2 rfl (by kernel_rfl) rfl (λW hW=>Zfo (f:=68) (args:= #[at']) (by simp[go_sem,execOp,Act.eval]) ?_);refine(Z9v at' W).mono ?_;rintro e V0 ⟨p0,rfl,hF,Do⟩;refine⟨.func (.func 112) #[] #[.pointer (some ⟨p0,0,none⟩)],rfl,hF,?_⟩;replace hX:=hX.trans (hW.trans hF);clear hF hW;go_simp;refine Zfk 3 rfl (by kernel_rfl) rfl (λW hW=>Zf3 ⟨.slice (some ⟨W.heap.size,0,none⟩) 1 1,W.alloc (.cells #[.func (.func 112) #[] #[.pointer (some ⟨p0,0,none⟩)]] 129),by simp[go_sem,execOp,Act.eval],(Ext.rfl' W).alloc _,?_⟩);have B3:=Z30 W #[.func (.func 112) #[] #[.pointer (some ⟨p0,0,none⟩)]] [(112,#[],#[.pointer (some ⟨p0,0,none⟩)])] W.heap.size rfl rfl;have hF:=(hW.alloc (.cells #[.func (.func 112) #[] #[.pointer (some ⟨p0,0,none⟩)]] 129));replace hX:=hX.trans hF;replace Do:=hF.cellS Do;clear hF hW;generalize W.heap.size=B2 at B3⊢;generalize World.alloc W _=V9 at*;go_simp;refine Zfk 4 rfl (by kernel_rfl) rfl (λW hW=>Zfo (f:=67) (args:= #[.agg #[r0,r1,r2,r3,.slice base n cap],.slice (some ⟨B2,0,none⟩) 1 1]) (by simp[go_sem,execOp,Act.eval]) ?_)
 refine(Z4K r0 r1 r2 r3 base n cap W 1 B2 (by omega) [(112,#[],#[.pointer (some ⟨p0,0,none⟩)])] [Zv at'] rfl rfl (λj x hj=>hW.cellS (B3 j x hj)) (by intro x hx args w';simp only[XE,XL,VO] at hx;rcases hx with rfl<;>simp[go_sem]) (by
       intro j x r hj hr w' hw'
       match j,hj,hr with
       |0,hj,hr=>
        obtain rfl:=YT hj;obtain rfl:=YT hr;exact Z3x p0 at' w' ((hW.trans hw').cellS Do)) S A1 (hS.ext (Ab.trans (hX.trans hW))) (Eb.ext (Ab.trans (hX.trans hW)))).mono ?_
 rintro e V10 ⟨k0,k1,k2,k3,b4,n4,c4,b5,n5,c5,rfl,hF,Ck⟩;refine⟨.tuple #[.agg #[k0,k1,k2,k3,.slice b4 n4 c4,.slice b5 n5 c5],.int .i64 (firstV (Zy r0 r1 r2 r3 S [Zv at']))],rfl,hF,?_⟩;replace hX:=hX.trans (hW.trans hF);have Au:Askd r0 r1 r2 r3 base n cap S [Zv at'] k0 k1 k2 k3 b4 n4 c4 b5 n5 c5 V10:=λh=>by obtain⟨B,p,h0,h1,h2,h3,h4,h5,h6,h7,h8,h9,hC,_⟩:=Ck h;exact⟨B,p,h0,h1,h2,h3,h4,h5,h6,h7,h8,h9,hC⟩
 clear hF hW Ck B3 Do;go_simp;refine Zfj [5,6,7] (by kernel_rfl) rfl rfl (by kernel_rfl) ?_;simp only[ZeD,YB,YA,YK,YJ]
 repeat (go_big_quiet_step (fail))
 refine XU ?_;refine Zfq (by kernel_rfl) (λW hW b hA Bw Am=> ?_);replace hX:=hX.trans hW;replace Au:=Au.ext hW;clear hW;go_simp;refine Zfp 2 (by kernel_rfl) (λW hW=> ?_);simp only[VW,VP];replace hX:=hX.trans hW;replace Au:=Au.ext hW;replace Am:=hW.get Am;have H4:=hX.get hz;have Dc:w.heap.size<=b:=by have h1:=hA.1.1.1;have h2:=Ab.size;omega
 have Po:b≠w.heap.size+1:=by have h1:=hA.1.1.1;have h2:=Z5 hz;omega
 have Bf:=Ab.trans hX;clear hA Bw hW hX Ab hb hz q0 q1 q2 q3 q4 g0 g1 g2 g3 g4;have x0:=Z8 Am 0;have x1:=Z8 Am 1;have x2:=Z8 Am 2;have x3:=Z8 Am 3;have x4:=Z8 Am 4;have x5:=Z8 Am 5;have y0:=Z0 Am 0;have y1:=Z0 Am 1;have y2:=Z0 Am 2;have y3:=Z0 Am 3;have y4:=Z0 Am 4;have y5:=Z0 Am 5;simp only[YC,YA,YB] at y0 y1 y2 y3 y4 y5;have Ai:=Z0K Am (.int .i64 k0) (.int .i64 k1) (.int .i64 k2) (.int .i64 k3) (.slice b4 n4 c4) (.slice b5 n5 c5);obtain⟨hX,Dp⟩:=Ai;replace Au:=Au.stored Am Dp;replace Bf:=Dp.before Bf Dc;replace H4:=Dp.get Po.symm H4;go_wp2_with fail;generalize ((((((W.setCell ⟨b,0,none⟩ (.int .i64 k0)).setCell ⟨b,1,none⟩ (.int .i64 k1)).setCell ⟨b,2,none⟩ (.int .i64 k2)).setCell ⟨b,3,none⟩ (.int .i64 k3)).setCell ⟨b,4,none⟩ (.slice b4 n4 c4)).setCell ⟨b,5,none⟩ (.slice b5 n5 c5))=X at hX Au Bf H4 Dp⊢;clear Dp Am Dc x0 x1 x2 x3 x4 x5 y0 y1 y2 y3 y4 y5;refine Zfm ?_;have u0:=Z0 H4 0;have u1:=Z0 H4 1;have v0:=Z8 H4 0;have v1:=Z8 H4 1;simp only[YC,YA,YB] at u0 u1;go_wp2_with fail
 ·have A9:(firstV (Zy r0 r1 r2 r3 S [Zv at']) !=0)=true:=by assumption
  have C3:¬(ZA r0 r1 r2 r3 S at'=0):=by simpa[ZA] using A9
  refine VE (v:= .tuple #[.agg #[.int .i64 (Zw r0 r1 r2 r3 S at').1,.int .i64 (Zw r0 r1 r2 r3 S at').2],.int .i64 (ZA r0 r1 r2 r3 S at')]) ((Z01 rfl _ _ _).trans ?_) rfl ⟨rfl,(Bf.setCell _ _ (by simp)).setCell _ _ (by simp)⟩;have hq:=Zc (set_pair H4 (.int .i64 0) (.int .i64 0));simp[go_sem,hq.1,hq.2.1,Zw,XA C3];rfl
 ·have heq:(firstV (Zy r0 r1 r2 r3 S [Zv at']) !=0)=false:=by assumption
  have C3:firstV (Zy r0 r1 r2 r3 S [Zv at'])=0:=by simpa using heq
  obtain⟨G6,G5,Df,Ny⟩:=Z11 C3;obtain⟨_,h8,_⟩:=Z0i G6;have Cs:=Z0N (G5 _ (XO.2 rfl));obtain⟨d,rfl⟩:=VL Cs.1;have Eh:d<=90:=by omega
  obtain⟨B,p',e0,e1,e2,e3,e4,e5,e6,e7,e8,e9,hC⟩:=Au C3;subst k0 k1 k2 k3 b4 n4 c4 b5 n5 c5;have Ec:n<=8:=by omega
  have Bb:=λv w'=>Z08 r0 r1 r2 r3 base n cap v Ec w'
  have hat:=λw' hm' hC'=>Z2Y r0 r1 r2 r3 (.slice base n cap) B n d (2 ^ n - 1) p' (cvS r0 r1 r2 r3 (S.map Ze)) Ec Eh (Z2Z Ec) w' hm' hC'
  have HV:Hid (Zw r0 r1 r2 r3 S d=atF (cvS r0 r1 r2 r3 (S.map Ze)) (2 ^ n - 1) d n):=by
   show _=_;rw[Zw,YZ (show ZA r0 r1 r2 r3 S d=0 from C3),Z4L,UF,A1]
  have Ee:Hid (ZA r0 r1 r2 r3 S d=0):=C3;have Fo:=Eb.ext Bf;clear Au G6 G5 Df Ny heq C3;generalize (2:Int) ^ n - 1=st at Bb hat HV;generalize atF (cvS r0 r1 r2 r3 (S.map Ze)) st d n=V at hat HV;obtain⟨va,vb⟩:=V;have x0:=Z0 hX 0;have x1:=Z0 hX 1;have x2:=Z0 hX 2;have x3:=Z0 hX 3;have x4:=Z0 hX 4;have x5:=Z0 hX 5;simp only[YC,YA,YB] at x0 x1 x2 x3 x4 x5;have c0:=Zet x0;have c1:=Zet x1;have c2:=Zet x2;have c3:=Zet x3;have c4:=Zet x4;have c5:=Zet x5;refine ZeG 5 (by kernel_rfl) ?_;refine ZeB [0,1,3] (by kernel_rfl) (by kernel_rfl) ?_;simp only[ZeD,YB,YA,YK,YJ]
  repeat (go_big_quiet_step (fail))
  refine XU ?_;refine ZeX 2 (f:=70) (args:= #[.agg #[r0,r1,r2,r3,.slice base n cap,.slice (some ⟨B,0,none⟩) n n]]) (v:= .int .i64 st) (by kernel_rfl) rfl (by kernel_rfl) rfl (λW=>by simp[go_sem,execOp,Act.eval]) (λW _=>Bb _ W) ?_;go_simp;refine ZeX 4 (f:=69) (args:= #[.agg #[r0,r1,r2,r3,.slice base n cap,.slice (some ⟨B,0,none⟩) n n],st,d]) (v:= .agg #[va,vb]) (by kernel_rfl) rfl (by kernel_rfl) rfl (λW=>by simp[go_sem,execOp,Act.eval]) (λW hW=>hat W (Fo.ext hW) (hC.ext hW)) ?_;go_simp;refine Zfp 2 (by kernel_rfl) (λW hW=> ?_);simp only[VW,VP];replace H4:=hW.get H4;have C6:=Bf.trans hW;clear x0 x1 x2 x3 x4 x5 c0 c1 c2 c3 c4 c5 hX u0 u1 v0 v1 hC Fo Bb hat Bf hW;have u0:=Z0 H4 0;have u1:=Z0 H4 1;have v0:=Z8 H4 0;have v1:=Z8 H4 1;simp only[YC,YA,YB] at u0 u1;go_wp2_with fail;refine Zfm ?_;go_wp2_with fail;refine VE (v:= .tuple #[.agg #[.int .i64 (Zw r0 r1 r2 r3 S d).1,.int .i64 (Zw r0 r1 r2 r3 S d).2],.int .i64 (ZA r0 r1 r2 r3 S d)]) ((Z01 rfl _ _ _).trans ?_) rfl ⟨rfl,(C6.setCell _ _ (by simp)).setCell _ _ (by simp)⟩
  have hq:=Zc (set_pair H4 (.int .i64 va) (.int .i64 vb));rw[HV.out,Ee.out];simp[go_sem,hq.1,hq.2.1]
def Z87(m k:Int):Int:=if -99999<=m/\m<=99999/\0<=k/\k<=99999 then 0 else 1
theorem ZcY(b1 b2:Nat)(m k:Int)(w:World)(h1:w.cell? ⟨b1,0,none⟩=some (.int .i64 m))(h2:w.cell? ⟨b2,0,none⟩=some (.int .i64 k)):
 Calls prog 71 #[.pointer (some ⟨b1,0,none⟩),.pointer (some ⟨b2,0,none⟩)] w λe w'=>e= .returned (.int .i64 (Z87 m k))/\Ext w w':=by
 go_enter fk Tryz.func71,Tryz.ntmps71;go_wp2_with (first|(go_at_call 65;refine(Z09 _ _ _ _).mono ?_;rintro e w2 ⟨rfl,rfl⟩)|(go_at_call 64;refine(Z1a _ _ _).mono ?_;rintro e w2 ⟨rfl,rfl⟩))
 all_goals
  go_ret;refine⟨Z10 ?_,Ext.rfl' _⟩;simp only[Z87];simp_all
  try omega
def Z6v(a b:Int):Int:=if b<a then 7 else 0
theorem ZcZ(b1 b2:Nat)(m k:Int)(w:World)(h1:w.cell? ⟨b1,0,none⟩=some (.int .i64 m))(h2:w.cell? ⟨b2,0,none⟩=some (.int .i64 k)):
 Calls prog 73 #[.pointer (some ⟨b1,0,none⟩),.pointer (some ⟨b2,0,none⟩)] w λe w'=>e= .returned (.int .i64 (Z6v m k))/\Ext w w':=by
 go_enter fk Tryz.func73,Tryz.ntmps73;go_wp2_with (first|(go_at_call 64;refine(Z1a _ _ _).mono ?_;rintro e w2 ⟨rfl,rfl⟩))
 all_goals
  go_ret;refine⟨Z10 ?_,Ext.rfl' _⟩;simp only[Z6v];simp_all
  try omega
variable [Tw]
@[go_sem] theorem eq48 (a b c d:Int) (w:World):(Op.equalIn 10000 49 (.agg #[a,b]) (.agg #[c,d])).run gp w= .ok (a==c&&b==d) w:=by
  have u3:gp.underlying 3=some (.int .i64):=(underlying_eq 3).trans Tryz.underlying3;have a3:=Tryz.isAgg3;have z3:=Tryz.sizeOf3;have hS:gp.underlying 49=some (.struct (gp.fieldsOf 49)):=by kernel_rfl
  have hp:gp.stoodInHeld 49=false:=by kernel_rfl
  rw[show(10000:Nat)=9999+1 from rfl,SL w 9999 49 _ _ hS hp];simp only[Program.fieldsOf,underlying_eq,Tryz.underlying49];go_simp;by_cases h1:a=c<;>by_cases h2:b=d<;>simp[h1,h2]
@[go_sem] theorem guard48 (op:BinOp) (p q:Operand) (xs ys:Array Value) (w:World):(eqGuard op 49 p q (.agg xs) (.agg ys)).run gp w= .ok () w:=RF w op 49 p q xs ys (by kernel_rfl)
end Go.Proofs.Tryq
