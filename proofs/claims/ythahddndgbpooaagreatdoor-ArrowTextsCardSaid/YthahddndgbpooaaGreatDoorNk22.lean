import Derived.Test.YthahddndgbpooaaGreatDoorNk21
import Derived.Stop.Asserts
set_option linter.all false
set_option maxRecDepth 100000
set_option maxHeartbeats 4000000
open Go Go.Nk Go.RowKit Go.Shelf Go.Proofs Go.Proofs.Tryq
open Option renaming some->I,none->NB
open Go.Proofs.Tryp renaming prog->U
open Go.Obj renaming cells->Z
open Go.Value renaming pointer->J,int->NE,agg->NJ,slice->NG
open Go renaming World->NL,undef->NQ,Value->NM,Calls->NW,Addr->NP
open Go.IntKind renaming i64->NF
open Bool renaming false->ND,true->NC
open Go.Ending renaming returned->NK
variable {a:Act}{ops:Array Oper}{c:Array NM}{first:Bool}{F:Func}{B l s t:List UInt8}{b i k:Nat}{o:Oper}{x y z:Operand}{row:Option Nat}{u v:NM}{W W' w w' w0:NL}
namespace Go.Proofs.Tryp
section
attribute [local instance] k3
def ic_cutB:∀s:List UInt8,[32].intercalate (Y4 32 s)=s
 |[]=>rfl
 |b::l=>by
  have d:=ic_cutB l;have e:=KM 32 l;rw[Y4];cases hC:Y4 32 l with
  |nil=>rw[hC]at e;cases e
  |cons x r=>
   rw[hC]at d;split
   .rename_i h;rw[Kf,d,h];rfl
   .cases r with
    |nil=>rw[JM]at d⊢;rw[d]
    |cons y r=>rw[Kf]at d⊢;rw[YK,d]
def IG{c:UInt8}:∀{s y:List UInt8},y∈Y4 c s->c∉y
 |[],y,h=>by simp[Y4]at h;subst h;simp
 |b::l,y,h=>by
  rw[Y4]at h;split at h
  .rcases XG.1 h with rfl|h
   .simp
   .exact IG h
  .rename_i hb;split at h
   .simp at h;subst h;simpa using λe:c=b=>hb e.symm
   .rename_i e;rcases XG.1 h with rfl|h
    .have:=IG (s:=l) (c:=c) (y:=_) (by rw[e];exact YY);simpa using⟨λe:c=b=>hb e.symm,this⟩
    .exact IG (by rw[e];exact YW _ h)
def eQ(b n c:Nat)(T:List (List UInt8))(w:NL)(m:T.length=n)(p:n<=100000)(h:CT w b 0 T):
 NW U 127 #[NG (I b) n c,.string ⟨#[]⟩] w (OJ (.bool (decide ([]∈T))) w):=by
 have f:=Any.slices_Contains_string lCo b 0 n c (T.map λx=>⟨x.toArray⟩) ⟨#[]⟩ w (by simp;omega) OA (by
  intro j d;rw[TH]at d;rw[h j _ (YH d)];simp[d])
 have g:Lib.containsS ((T.map λx=>(⟨x.toArray⟩:ByteArray)).take n) ⟨#[]⟩=decide ([]∈T):=by
  rw[TP,Lib.containsS_iff,XX (by simp;omega),XE];refine⟨λd=> ?_,λd=>VW.2 ⟨_,d,rfl⟩⟩;obtain⟨x,j,e⟩:=VW.1 d;have e2:x.toArray= #[]:=RJ ByteArray.data e;obtain rfl:x=[]:=by simpa using e2
  exact j
 rw[g]at f;exact f
def qb(s:List UInt8)(x:List UInt8)(T:List (List UInt8))(w:NL)(n:s.length<=90000)(g:Y4 32 s=x::T)(m:MaxL w):
 ∃B d,Ext w d/\B<d.heap.size/\CT d B 0 (x::T)/\
  NW U 126 #[str s,.string ⟨#[32]⟩] w (OJ (NG (I B) (T.length+1) (T.length+1)) d)/\
  NW U 127 #[NG (I B) (T.length+1) (T.length+1),.string ⟨#[]⟩] d (OJ (.bool (decide ([]∈x::T))) d):=by
 have hi:=ic_cutB s;have d:=λy e=>IG (c:=32) (s:=s) (y:=y) e
 have e:=MG 32 s;rw[g]at hi d e;have f:=ia x T w (by rw[hi];omega) d m;rw[hi]at f;have d:CT (w.alloc (.cells ((x::T).map str).toArray 9)) w.heap.size 0 (x::T):=λj y h=>by rw[VD];exact fW j y h
 simp at e;exact⟨w.heap.size,_,(Ext.rfl' w).alloc _,OD,d,f,eQ _ _ _ (x::T) _ rfl (by simp;omega) d⟩
def AY(w:NL)(e1 e2 e3:NM)(j:Nat)(v:NM)(h:[e1,e2,e3][j]? =I v):(w.alloc (Z #[e1,e2,e3] 91)).cell? ⟨w.heap.size,j,NB⟩=I v:=by
 rw[Z0 (by rw[Z3,YZ rfl])];simpa using h
def BP{e1 e2 e3:NM}(d:o.op= .buildSlice 231 3 #[(0,x),(1,y),(2,z)])(f:a.eval x=e1)(e:a.eval y=e2)(g:a.eval z=e3)(h:∀v∈[e1,e2,e3],Er v)(W:NL):
 (execOp a.eval o).run U W= .ok (.value (NG (I W.heap.size) 3 3)) (W.alloc (Z #[e1,e2,e3] 91)):=by
 unfold execOp;simp only[d,TD,VG,VX,f,e,g];rcases h e1 OD with rfl|⟨_,_,rfl⟩<;>rcases h e2 OD with rfl|⟨_,_,rfl⟩<;>rcases h e3 OD with rfl|⟨_,_,rfl⟩<;>simp[go_sem]
def bD{α β γ:Type}{p:Option α}{n:Option β}{A:Option γ}{e1 e2 e3:NM}(M:ErrV p e1)(O:ErrV n e2)(K:ErrV A e3)(L:(∀v∈[e1,e2,e3],v= .nilIface)->u= .nilIface)(g:(∃v∈[e1,e2,e3],v≠.nilIface)->∃t x,u= .iface t x):
 (u= .nilIface/\p.isSome=NC/\n.isSome=NC/\A.isSome=NC)\/((∃t x,u= .iface t x)/\(p=NB\/n=NB\/A=NB)):=by
 have d:∀{δ:Type}{o:Option δ}{e:NM},ErrV o e->(e= .nilIface/\o.isSome=NC)\/(e≠.nilIface/\o=NB):=fun{δ o e} h=>by
  cases o with
  |none=>obtain⟨t,x,rfl⟩:=h;exact .inr ⟨OD,rfl⟩
  |some=>exact .inl ⟨h,rfl⟩
 rcases d M with⟨E,f⟩|⟨E,f⟩
 .rcases d O with⟨H,C⟩|⟨H,C⟩
  .rcases d K with⟨m,j⟩|⟨m,j⟩
   .exact .inl ⟨L (by simp[E,H,m]),f,C,j⟩
   .exact .inr ⟨g ⟨e3,OD,m⟩,.inr (.inr j)⟩
  .exact .inr ⟨g ⟨e2,OD,H⟩,.inr (.inl C)⟩
 .exact .inr ⟨g ⟨e1,OD,E⟩,.inl f⟩
def ip{rest:List Oper}{Q:Exit->Act->NL->Prop}{e1 e2 e3:NM}(m:o.guard=NB)(d:o.op= .buildSlice 231 3 #[(0,x),(1,y),(2,z)])(f:a.eval x=e1)(e:a.eval y=e2)(j:a.eval z=e3)(h:∀v∈[e1,e2,e3],Er v)
 (g:wpList U ops Q rest (a.put o.dst (NG (I w.heap.size) 3 3)) (w.alloc (Z #[e1,e2,e3] 91))):wpList U ops Q (o::rest) a w:=by
 unfold wpList;rw[YZ (by simp[Region.wanted,m])];left;unfold Oper.wp;rw[BP d f e j h w,QN];exact g
def lnV:Ln->NM
 | .rule a b c m=> .iface 96 (NJ #[a,b,c,m])
 | .sight a b c m=> .iface 108 (NJ #[a,b,c,m])
 | .shaft x=> .iface 98 (NJ #[.string x.nm,x.a0,x.a1,x.b0,x.b1,x.c0,x.c1])
 | .shot s=> .iface 110 (NJ #[s.a,s.m,s.M,s.wi,s.li])
def LineV(o:Option Ln)(e:Ending):Prop:=∃x v,e= NK (.tuple #[x,v])/\ErrV o v/\∀l,o=I l->x=lnV l
def kC(s:List UInt8)(w:NL)(hl:s.length<=90000)(O:MaxL w)(C:ErrF w):NW U 86 #[str s] w λe w'=>LineV (WN s) e/\Ext w w':=by
 obtain⟨x,T,hC⟩:∃x T,Y4 32 s=x::T:=by
  cases h:Y4 32 s with
  |nil=>have:=KM 32 s;rw[h]at this;cases this
  |cons x T=>exact⟨x,T,rfl⟩
 have A1:∀y∈x::T,y.length<=90000:=λy hy=>XC (Qn (by rw[hC];exact hy)) hl
 have Us:(T.length:Int)+1<=100000:=by have:=MG 32 s;rw[hC]at this;simp at this;omega
 obtain⟨B,w1,Af,Xo,Bf,Dt,O4⟩:=qb s x T w hl hC O;have C8:=O.ext Af;have M:=C.ext Af;obtain⟨o,n⟩:∃o,WN s=o:=⟨_,rfl⟩;rw[n];rw[WN,hC]at n;clear hC O C hl;by_cases B4:T.length≠4\/[]∈x::T
 .obtain rfl:NB=o:=by
   rw[<-n];unfold lineP;split
   .rename_i h;cases h;rw[YZ (B4.resolve_left OD)]
   .rfl
  obtain⟨te,ve,C⟩:=M;by_cases h4:T.length=4
  case' pos=>
   rw[VB (B4.resolve_left OA)]at O4;rw[h4]at O4 Dt;clear h4
  case' neg=>have h5:¬(T.length:Int)+1=5:=OA
  all_goals
   clear B4 n A1 Bf C8;have ge:=ZQ C;go_enter fq Tryz.func86,Tryz.ntmps86
   go_wp2_with (first|go_at_call 126;refine Dt.q ?_|go_at_call 127;refine O4.q ?_)
   refine Z9 3 OB ?_;refine ZS [0,1,2] OB OB ?_;simp only[ZR,YB,YA,YK,YJ]
   repeat (go_big_quiet_step (fail))
   refine XI ?_;refine Yt OB (λW d=> ?_);go_wp2;go_ret2;exact⟨⟨_,_,rfl,⟨te,ve,rfl⟩,λl h=>by cases h⟩,Af.trans d⟩
 .obtain⟨p,q,r,t,rfl⟩:∃p q r t,T=[p,q,r,t]:=by
   rcases T with _|⟨p,_|⟨q,_|⟨r,_|⟨t,_|_⟩⟩⟩⟩<;>simp_all
  have hm:[]∉[x,p,q,r,t]:=λh=>B4 (.inr h)
  rw[XV hm]at O4;rw[lineP,XB hm]at n;have D5:∀y∈[p,q,r,t],y.length<=100000:=λy hy=>XC (A1 y (YW _ hy)) OA
  have Fg:=λW (d:Ext w1 W)=>CZ B 1 4 4 [p,q,r,t] W rfl OA (λj y h=>by have:=d.cellS (Bf (j+1) y h);rwa [VD,Nat.add_comm j 1]at this) (d.lt Xo) D5 (M.ext d)
  have q0:w1.cell? ⟨B,0,NB⟩=I (str x):=Bf 0 x rfl;have q1:w1.cell? ⟨B,1,NB⟩=I (str p):=Bf 1 p rfl;have q2:w1.cell? ⟨B,2,NB⟩=I (str q):=Bf 2 q rfl;have q3:w1.cell? ⟨B,3,NB⟩=I (str r):=Bf 3 r rfl;have q4:w1.cell? ⟨B,4,NB⟩=I (str t):=Bf 4 t rfl;clear B4 hm A1 Us Bf;replace C8:Hid (MaxL w1):=C8;replace M:Hid (ErrF w1):=M;replace D5:Hid _:=D5;have gq:=ZQ q0;by_cases K:x=[114,117,108,101]\/x=[115,105,103,104,116]
  .replace n:(match numsO [p,q,r,t]with|some [a,b,c,m]=>I (if x=[114,117,108,101]then Ln.rule a b c m else Ln.sight a b c m)|_=>NB)=o:=by
    rw[<-n,U7];rcases K with rfl|rfl
    .rw[YZ rfl];rfl
    .rw[XB OC,YZ rfl];rfl
   cases Co:numsO [p,q,r,t]with
   |none=>
    rw[Co]at Fg n;obtain rfl:NB=o:=n;rcases K with rfl|rfl
    all_goals
     try clear n
     clear Co;go_enter fq Tryz.func86,Tryz.ntmps86
     go_wp2_with (first|go_at_call 126;refine Dt.q ?_|go_at_call 127;refine O4.q ?_)
     refine Z9 7 OB ?_;refine ZS [0,1,2,3,4,5,6] OB OB ?_;simp only[ZR,YB,YA,YK,YJ]
     repeat (go_big_quiet_step (fail))
     refine XI ?_;refine Yt OB (λW d=> ?_);have E:=d
     go_wp2_with (go_at_call 128;refine(Fg _ E).mono ?_;rintro e w4 ⟨v,u,rfl,⟨t1,_,rfl⟩,_,Ag⟩
                  have A:=E.trans Ag;have a4:=M.out.ext A;obtain⟨te,ve,C⟩:=a4;have ge:=ZQ C;clear d)
     refine Z9 3 OB ?_;refine ZS [0,1,2] OB OB ?_;simp only[ZR,YB,YA,YK,YJ]
     repeat (go_big_quiet_step (fail))
     refine XI ?_;refine Yt OB (λW d=> ?_);go_wp2;go_ret2;exact⟨⟨_,_,rfl,⟨te,ve,rfl⟩,λl h=>by cases h⟩,Af.trans (A.trans d)⟩
   |some L=>
    rw[Co]at Fg n;have hL:=numsO_len Co;obtain⟨a,b,c,m,rfl⟩:∃a b c m,L=[a,b,c,m]:=by
     rcases L with _|⟨p,_|⟨q,_|⟨r,_|⟨t,_|_⟩⟩⟩⟩<;>simp_all
    clear hL;rcases K with rfl|rfl
    case' inl=>obtain rfl:I (Ln.rule a b c m)=o:=by rw[<-n];rfl
    case' inr=>obtain rfl:I (Ln.sight a b c m)=o:=by rw[<-n];rfl
    all_goals
     try clear n
     clear Co;go_enter fq Tryz.func86,Tryz.ntmps86
     go_wp2_with (first|go_at_call 126;refine Dt.q ?_|go_at_call 127;refine O4.q ?_)
     refine Z9 7 OB ?_;refine ZS [0,1,2,3,4,5,6] OB OB ?_;simp only[ZR,YB,YA,YK,YJ]
     repeat (go_big_quiet_step (fail))
     refine XI ?_;refine Yt OB (λW d=> ?_);have E:=d
     go_wp2_with (go_at_call 128;refine(Fg _ E).mono ?_;rintro e w4 ⟨v,u,rfl,rfl,H,Ag⟩
                  have A:=E.trans Ag;clear d;have H:=H.out _ rfl;obtain⟨g,cp,rfl,Hc,Bl⟩:=XT H OD;have X:=WL H 0 a rfl;have P:=WL H 1 b rfl;have c2:=WL H 2 c rfl;have c3:=WL H 3 m rfl;have k0:=ZQ X;have k1:=ZQ P;have k2:=ZQ c2;have k3:=ZQ c3;clear H)
     refine Z9 17 OB ?_;refine ZS [0,1,2,3,4,5,6,7,8,9,10,11,12,13,14,15,16] OB OB ?_;simp only[ZR,YB,YA,YK,YJ]
     repeat (go_big_quiet_step (fail))
     refine XI ?_;refine Yt OB (λW d=> ?_);go_wp2;go_ret2;exact⟨⟨_,_,rfl,rfl,λl h=>by cases h;rfl⟩,Af.trans (A.trans d)⟩
  .by_cases h2:x=[115,104,97,102,116]
   .subst h2;rw[U7,XB OC,XB OC,YZ rfl]at n;clear K;have s1:=λW O C=>JG q W (D5.out _ OD) O C
    have s2:=λW O C=>JG r W (D5.out _ OD) O C
    have s3:=λW O C=>JG t W (D5.out _ OD) O C
    go_enter fq Tryz.func86,Tryz.ntmps86
    go_wp2_with (first|go_at_call 126;refine Dt.q ?_|go_at_call 127;refine O4.q ?_)
    refine Z9 7 OB ?_;refine ZS [0,1,2,3,4,5,6] OB OB ?_;simp only[ZR,YB,YA,YK,YJ]
    repeat (go_big_quiet_step (fail))
    refine XI ?_;refine Yt OB (λW d=> ?_);have E:=d
    go_wp2_with (first
     |(go_at_call 128;refine(Fg _ E).mono ?_;rintro e w4 ⟨v,u,rfl,_,_,Ag⟩
       have A:=E.trans Ag;clear d Fg;have r1:=A.cellS q1;have r2:=A.cellS q2;have r3:=A.cellS q3;have r4:=A.cellS q4)
     |(go_at_call 129;(with_reducible refine(s1 _ (C8.out.ext A) (M.out.ext A)).mono ?_);rintro e w5 ⟨⟨a0,Y,e1,rfl,G5,Kh⟩,As⟩
       have Ej:=(A.trans As).alloc (Z #[a0,Y] 49);have gA:(w5.alloc (Z #[a0,Y] 49)).heap[w5.heap.size]? =I (Z #[a0,Y] 49):=(by rw[Z3,YZ rfl]);have b4:=Ej.cellS q3;clear s1)
     |(go_at_call 129;(with_reducible refine(s2 _ (C8.out.ext Ej) (M.out.ext Ej)).mono ?_);rintro e w6 ⟨⟨b0,b1,e2,rfl,Eo,O5⟩,B0⟩
       have Pe:=(Ej.trans B0).alloc (Z #[b0,b1] 49);have a9:=B0.alloc (Z #[b0,b1] 49);have gB:(w6.alloc (Z #[b0,b1] 49)).heap[w6.heap.size]? =I (Z #[b0,b1] 49):=(by rw[Z3,YZ rfl]);have s4:=Pe.cellS q4;clear s2)
     |(go_at_call 129;(with_reducible refine(s3 _ (C8.out.ext Pe) (M.out.ext Pe)).mono ?_);rintro e w7 ⟨⟨X,P,e3,rfl,Ic,R6⟩,Cw⟩
       have Ey:=(Pe.trans Cw).alloc (Z #[X,P] 49);have a3:=Cw.alloc (Z #[X,P] 49);have gC:(w7.alloc (Z #[X,P] 49)).heap[w7.heap.size]? =I (Z #[X,P] 49):=(by rw[Z3,YZ rfl]);have V:=a3.get (a9.get gA);have a5:=a3.get gB))
    have t0:=Z0 V 0;have t1:=Z0 V 1;have t2:=Z0 a5 0;have t3:=Z0 a5 1;have t4:=Z0 gC 0;have t5:=Z0 gC 1;have t6:=Ey.cellS q1;simp only[YC,YA,YB]at t0 t1 t2 t3 t4 t5
    have Wf:Hid (∀v∈[e1,e2,e3],Er v):=λv hv=>by
     simp only[XG,XO,UE]at hv;rcases hv with rfl|rfl|rfl
     .exact G5.er
     .exact Eo.er
     .exact Ic.er
    have a2:Hid (∀u:NM,((∀v∈[e1,e2,e3],v= .nilIface)->u= .nilIface)->((∃v∈[e1,e2,e3],v≠.nilIface)->∃t x,u= .iface t x)->ErrV o u/\∀l,o=I l->.iface 98 (NJ #[str p,a0,Y,b0,b1,X,P])=lnV l):=λu K h2=>by
     have hj:=bD G5 Eo Ic K h2
     revert hj n Kh O5 R6
     cases Y3 q<;>cases Y3 r<;>cases Y3 t<;>intro n Kh O5 R6 hj
     all_goals first
      |(obtain rfl:=Kh _ rfl;obtain rfl:=O5 _ rfl;obtain rfl:=R6 _ rfl
        obtain rfl:I (Ln.shaft ⟨⟨p.toArray⟩,a0,Y,b0,b1,X,P⟩)=o:=n;rcases hj with⟨rfl,_⟩|⟨_,h⟩
        .exact⟨rfl,λl h=>by cases h;rfl⟩
        .simp at h)
      |(obtain rfl:NB=o:=n
        rcases hj with⟨_,h⟩|⟨h,_⟩
        .simp at h
        .exact⟨h,λl h=>by cases h⟩)
    clear G5 Eo Ic Kh O5 R6 n;generalize w7.alloc (Z #[X,P] 49)=w8 at Ey t0 t1 t2 t3 t4 t5 t6⊢;generalize w7.heap.size=bC at t4 t5⊢;generalize w6.heap.size=bB at t2 t3⊢;generalize w5.heap.size=bA at t0 t1⊢;clear r1 r2 r3 r4 b4 s4 gA gB gC V a5 As B0 Cw a9 a3 Ej Pe;have c5:=ZQ t0;have b8:=ZQ t1;have b9:=ZQ t2;have b6:=ZQ t3;have b7:=ZQ t4;have c4:=ZQ t5;have b5:=ZQ t6;refine Z9 16 OB ?_;refine ZS [0,1,2,3,4,5,6,7,8,9,10,11] OB OB ?_;simp only[ZR,YB,YA,YK,YJ]
    repeat (go_big_quiet_step (fail))
    refine XI ?_;refine Yu 12 rfl OB rfl (λW d=>Ye ⟨NG (I W.heap.size) 3 3,W.alloc (Z #[e1,e2,e3] 91),BP (e1:=e1) (e2:=e2) (e3:=e3) rfl rfl rfl rfl Wf.out W,(Ext.rfl' W).alloc _,?_⟩);have Dr:=Ey.trans (d.trans ((Ext.rfl' W).alloc (Z #[e1,e2,e3] 91)));have N7:=AY W e1 e2 e3;generalize W.alloc (Z #[e1,e2,e3] 91)=W5 at Dr N7⊢;generalize W.heap.size=B5 at N7⊢;clear d;go_simp;refine Yu 13 rfl OB rfl (λW d=>Yd (f:=130) (args:= #[NG (I B5) 3 3]) OE ?_);refine(BZ B5 3 3 [e1,e2,e3] W rfl OA Wf.out (λj v hj=>d.cellS (N7 j v hj))).mono ?_;rintro e _ ⟨u,rfl,a6,Ue,B0⟩;refine⟨u,rfl,B0,?_⟩;replace Dr:=Dr.trans (d.trans B0);clear d N7 B0;go_simp;refine ZS [14,15] OB OB ?_;simp only[ZR,YB,YA,YK,YJ]
    repeat (go_big_quiet_step (fail))
    refine XI ?_;refine Yt OB (λW d=> ?_);replace Dr:=Dr.trans d;go_wp2;go_ret2;exact⟨⟨_,_,rfl,a2.out u a6 Ue⟩,Af.trans Dr⟩
   .by_cases h3:x=[115,104,111,116]
    .subst h3;rw[U7,XB OC,XB OC,XB OC,YZ rfl]at n;clear K h2;have s1:=λW C=>IX p W (D5.out _ OD) C
     have s2:=λW O C=>JG q W (D5.out _ OD) O C
     have He:∀y∈[r,t],y.length<=100000:=λy hy=>D5.out _ (by simp at hy⊢;rcases hy with rfl|rfl<;>simp)
     have s3:=λW (d:Ext w1 W)=>CZ B 3 2 2 [r,t] W rfl OA (λj y h=>d.cellS (by
      match j with
      |0=>cases h;exact q3
      |1=>cases h;exact q4
      |j+2=>simp at h)) (d.lt Xo) He (M.out.ext d)
     replace He:Hid _:=He;go_enter fq Tryz.func86,Tryz.ntmps86
     go_wp2_with (first|go_at_call 126;refine Dt.q ?_|go_at_call 127;refine O4.q ?_)
     refine Z9 7 OB ?_;refine ZS [0,1,2,3,4,5,6] OB OB ?_;simp only[ZR,YB,YA,YK,YJ]
     repeat (go_big_quiet_step (fail))
     refine XI ?_;refine Yt OB (λW d=> ?_);have E:=d
     go_wp2_with (first
      |(go_at_call 128;(with_reducible refine(Fg _ E).mono ?_);rintro e w4 ⟨v,u,rfl,_,_,Ag⟩
        have A:=E.trans Ag;clear d Fg;have r1:=A.cellS q1)
      |(go_at_call 131;(with_reducible refine(s1 _ (M.out.ext A)).mono ?_);rintro e w5 ⟨⟨e1,rfl,G5⟩,As⟩
        have Ej:=A.trans As;have r2:=Ej.cellS q2)
      |(go_at_call 129;(with_reducible refine(s2 _ (C8.out.ext Ej) (M.out.ext Ej)).mono ?_);rintro e w6 ⟨⟨a0,Y,e2,rfl,Eo,O5⟩,B0⟩
        have Pe:=(Ej.trans B0).alloc (Z #[a0,Y] 49);have gA:(w6.alloc (Z #[a0,Y] 49)).heap[w6.heap.size]? =I (Z #[a0,Y] 49):=by rw[Z3,YZ rfl])
      |(go_at_call 128;(with_reducible refine(s3 _ Pe).mono ?_);rintro e w7 ⟨_,e3,rfl,Ic,R6,Cw⟩
        have Ey:=Pe.trans Cw;have V:=Cw.get gA)
      |(with_reducible refine ip (e1:=e1) (e2:=e2) (e3:=e3) rfl rfl rfl rfl rfl ?_ ?_
        .intro v hv;simp only[XG,XO,UE]at hv;rcases hv with rfl|rfl|rfl
         .exact G5.er
         .exact Eo.er
         .exact Ic.er
        have N7:=AY w7 e1 e2 e3;have Ds:=(Ext.rfl' w7).alloc (Z #[e1,e2,e3] 91);generalize w7.alloc (Z #[e1,e2,e3] 91)=w8 at N7 Ds⊢;generalize w7.heap.size=B8 at N7⊢;replace N7:Hid _:=N7)
      |(go_at_call 130;(with_reducible refine(BZ B8 3 3 [e1,e2,e3] _ rfl OA ?_ N7.out).mono ?_)
        .intro v hv;simp only[XG,XO,UE]at hv;rcases hv with rfl|rfl|rfl
         .exact G5.er
         .exact Eo.er
         .exact Ic.er
        rintro e _ ⟨u9,rfl,a6,Ue,Bn⟩;have Ds:=Ds.trans Bn;have a7:=Ey.trans Ds;rcases bD G5 Eo Ic a6 Ue with⟨rfl,b1,b2,b3⟩|⟨⟨_,_,rfl⟩,hb⟩
        case' inl=>
         obtain⟨A0,Gv⟩:=UI.1 b1;obtain⟨_,N8⟩:=UI.1 b2;obtain⟨L0,Fy⟩:=UI.1 b3;obtain⟨wi,li,rfl⟩:∃wi li,L0=[wi,li]:=by
          have:=numsO_len Fy;rcases L0 with _|⟨p,_|⟨q,_|_⟩⟩<;>simp_all
         have H:=R6.out _ Fy;obtain⟨g,cp,rfl,Hc,Bl⟩:=XT H OD;have X:=Ds.cellS (WL H 0 wi rfl);have P:=Ds.cellS (WL H 1 li rfl);have a8:=Ds.get V;have c2:=Z0 a8 0;have c3:=Z0 a8 1;simp only[YC,YA,YB]at c2 c3;have k0:=ZQ X;have k1:=ZQ P;have k2:=ZQ c2;have k3:=ZQ c3;have Wh:Hid (o=I (.shot ⟨A0,a0,Y,wi,li⟩)):=by
          show _=_;rw[<-n,Gv,N8,Fy,O5 _ N8]
         have Vl:Hid ((numO p).getD 0=A0):=(by show _=_;rw[Gv];rfl);clear H
        case' inr=>
         have Wh:Hid (o=NB):=by
          show _=_;rw[<-n];rcases hb with hb|hb|hb<;>rw[hb]
          .cases numO p<;>rfl
          .cases numO p<;>cases Y3 q<;>rfl))
     .go_ret2;exact⟨⟨_,_,rfl,by rw[Wh.out];exact⟨_,_,rfl⟩,λl h=>by rw[Wh.out]at h;cases h⟩,Af.trans a7⟩
     .clear n O5 R6 G5 Eo Ic Ue Gv N8 Fy b1 b2 b3;generalize (numO p).getD 0=A9 at Vl⊢;refine Z9 13 OB ?_;refine ZS [0,1,2,3,4,5,6,7,8,9,10,11,12] OB OB ?_;simp only[ZR,YB,YA,YK,YJ]
      repeat (go_big_quiet_step (fail))
      refine XI ?_;refine Yt OB (λW d=> ?_);go_wp2;go_ret2;exact⟨⟨_,_,rfl,by rw[Wh.out];rfl,λl h=>by rw[Wh.out]at h;cases h;rfl⟩,Af.trans (a7.trans d)⟩
    .rw[U7,XB λh=>K (.inl h),XB λh=>K (.inr h),XB h2,XB h3]at n;obtain rfl:NB=o:=n;have n1:(x==[114,117,108,101])=ND:=XQ.2 λh=>K (.inl h)
     have n2:(x==[115,105,103,104,116])=ND:=XQ.2 λh=>K (.inr h)
     have n3:(x==[115,104,97,102,116])=ND:=XQ.2 h2;have n4:(x==[115,104,111,116])=ND:=XQ.2 h3;clear K h2 h3;go_enter fq Tryz.func86,Tryz.ntmps86
     go_wp2_with (first|go_at_call 126;refine Dt.q ?_|go_at_call 127;refine O4.q ?_)
     refine Z9 7 OB ?_;refine ZS [0,1,2,3,4,5,6] OB OB ?_;simp only[ZR,YB,YA,YK,YJ]
     repeat (go_big_quiet_step (fail))
     refine XI ?_;refine Yt OB (λW d=> ?_);have E:=d
     go_wp2_with (go_at_call 128;refine(Fg _ E).mono ?_;rintro e w4 ⟨v,u,rfl,_,_,Ag⟩
                  have A:=E.trans Ag;have a4:=M.out.ext A;obtain⟨te,ve,C⟩:=a4;have ge:=ZQ C;clear d)
     refine Z9 3 OB ?_;refine ZS [0,1,2] OB OB ?_;simp only[ZR,YB,YA,YK,YJ]
     repeat (go_big_quiet_step (fail))
     refine XI ?_;refine Yt OB (λW d=> ?_);go_wp2;go_ret2;exact⟨⟨_,_,rfl,⟨te,ve,rfl⟩,λl h=>by cases h⟩,Af.trans (A.trans d)⟩
def jD(h:c[i]? =I v):c.setIfInBounds i v=c:=by
 apply Array.ext_getElem?;intro k;rw[Array.getElem?_setIfInBounds];split
 .rename_i e;subst e;rw[YZ (YF.1 h).1,h]
 .rfl
def S3(h:w.cell? ⟨b,i,NB⟩=I v):w.setCell ⟨b,i,NB⟩ v=w:=by
 have d:(w.setCell ⟨b,i,NB⟩ v).heap=w.heap:=by
  unfold World.setCell;apply Array.ext_getElem?;intro k;show(w.heap.modify b _)[k]? =_;rw[Array.getElem?_modify];split
  .rename_i e;subst e;unfold World.cell? at h;cases hb:w.heap[b]? with
   |none=>rfl
   |some o=>
    rw[hb]at h;cases o with
    |cells c e f=>
     have h:c[i]? =I v:=(by simpa using h);simp[jD h]
    |_=>rfl
  .rfl
 have e:w.setCell ⟨b,i,NB⟩ v={w with heap:=(w.setCell ⟨b,i,NB⟩ v).heap}:=rfl;rw[e,d]
def ii(v:NM)(w:NL):(method 457 108 v "nock/arrow.head").run U w= .ok (255,v) w:=OB
def rq(v:NM)(w:NL):(method 457 110 v "nock/arrow.head").run U w= .ok (256,v) w:=OB
def nu(a b c m:Int)(w:NL):NW U 255 #[NJ #[a,b,c,m]] w (OI (.bool NC) w):=by
 go_enter fq Tryz.func255,Tryz.ntmps255;go_wp2;go_ret;exact⟨rfl,(Ext.rfl' w).alloc _⟩
def eq(x:Rs)(w:NL):NW U 256 #[NJ #[x.a,x.m,x.M,x.wi,x.li]] w (OI (.bool ND) w):=by
 go_enter fq Tryz.func256,Tryz.ntmps256;go_wp2;go_ret;exact⟨rfl,(Ext.rfl' w).alloc _⟩
@[local go_sem] def ta108 (v:NM) (w:NL):(Instr.typeAssert (.iface 108 v) 94 108 NC).run U w= .ok (.tuple #[v,.bool NC]) w:=OB
@[local go_sem] def ta110 (v:NM) (w:NL):(Instr.typeAssert (.iface 110 v) 94 110 NC).run U w= .ok (.tuple #[v,.bool NC]) w:=OB
@[local go_sem] def tb110 (v:NM) (w:NL):(Instr.typeAssert (.iface 110 v) 94 108 NC).run U w= .ok (.tuple #[NJ #[NE NF 0,NE NF 0,NE NF 0,NE NF 0],.bool ND]) w:=OB
def u29p:Tryp.prog.underlying 29=I (.slice 75):=(underlying_eq 29).trans Tryz.underlying29
def i75p:Tryp.prog.info? 75=I Tryz.t75:=OB
def t75z:Tryz.t75.zero=I (NJ #[NE NF 0,NE NF 0,NE NF 0,NE NF 0,NE NF 0]):=OB
def t75s:Tryz.t75.size=5:=OB
def t75b:Tryz.t75.bytes=40:=OB
def rsC(x:Rs):List NM:=[NE NF x.a,NE NF x.m,NE NF x.M,NE NF x.wi,NE NF x.li]
def WC(b:Nat)(w:NL)(v:NM)(L:List Rs):Prop:=w.ownsRow b 75 5 v L.length (L.flatMap rsC)
def kG(a b c m:Int)(d g:Nat)(v:NM)(w:NL)(A p E n:NM)(f:w.heap[d]? =I (Z #[A,p,E,n,v] 31))(H:g<=w.heap.size):
 NW U 50 #[.iface 108 (NJ #[a,b,c,m]),J (I d)] w λe w'=>e= NK (.bool NC)/\w'.heap[d]? =I (Z #[a,b,c,m,v] 31)/\
  Kpt d g w w'/\(∀L,d<g->WC g w v L->WC g w' v L)/\w'.os=w.os/\w'.tape=w.tape/\w'.output=w.output:=by
 have q0:=Z0 f 0;have q1:=Z0 f 1;have q2:=Z0 f 2;have q3:=Z0 f 3;have e:=Z8 f 0;have e:=Z8 f 1;have e:=Z8 f 2;have e:=Z8 f 3;simp only[YC,YA,YB]at q0 q1 q2 q3;have e:=Z5 f;replace f:Hid _:=f;go_enter fq Tryz.func50,Tryz.ntmps50;go_wp2;go_ret;have j:=Zb (Zb (Zb (Zb f.out (i:=0) (NE NF a)) (i:=1) (NE NF b)) (i:=2) (NE NF c)) (i:=3) (NE NF m);simp only[VM,UJ,UU]at j;have h:=((((VO w d (NE NF a)).trans (VO _ ⟨d,1,NB⟩ (NE NF b))).trans (VO _ ⟨d,2,NB⟩ (NE NF c))).trans (VO _ ⟨d,3,NB⟩ (NE NF m))).trans (TI _ (Z #[a,b,c,m] 108));refine⟨rfl,?_,⟨λk _ e=> ?_,h⟩,λL h C=> ?_,rfl,rfl,rfl⟩
 .rw[Z3,XB (by simp;omega)];exact j
 .rw[Z3,XB (by simp;omega)];rw[set_ne e,set_ne e,set_ne e,set_ne e]
 .exact World.ownsRow.alloc (XK (XK (XK (XK C (a:=⟨d,0,NB⟩) h _) (a:=⟨d,1,NB⟩) h _) (a:=⟨d,2,NB⟩) h _) (a:=⟨d,3,NB⟩) h _) _
def oc(x:Rs)(f n:Nat)(v:NM)(L:List Rs)(w:NL)(V P Y K:NM)(p:w.heap[f]? =I (Z #[V,P,Y,K,v] 31))(hn:n<=w.heap.size)(hb:f<n)(H:WC n w v L)(hl:L.length<=3000):
 NW U 50 #[.iface 110 (NJ #[x.a,x.m,x.M,x.wi,x.li]),J (I f)] w λe w'=>e= NK (.bool NC)/\∃O,w'.heap[f]? =I (Z #[V,P,Y,K,O] 31)/\
  WC n w' O (L++[x])/\Kpt f n w w'/\w'.os=w.os/\w'.tape=w.tape/\w'.output=w.output:=by
 have q4:=Z0 p 4;have z4:=Z8 p 4;simp only[YC,YA,YB]at q4;have A5:=Z5 p;have Fx:L.length+1<=maxLen:=by simp[maxLen];omega
 have Ef:(L.length+1)*40<=140737488355328:=OA
 replace p:Hid _:=p;replace hl:Hid _:=hl;go_enter fq Tryz.func50,Tryz.ntmps50
 go_wp2_with (
  at_builtin
  refine UB _ rfl _ _ 29 rfl n 75 Tryz.t75 _ 5 40 u29p i75p t75z t75s t75b rfl OC _ _ _ rfl (((show w.ownsRow n 75 5 v L.length (L.flatMap rsC)from H).alloc _).alloc _) ⟨w.heap.size+1,0,NB⟩ 1 1 (rsC x) rfl rfl (by have:=AV (w.alloc (.cells (rsC x).toArray 110)) (rsC x) 75;rw[Z2]at this;exact this) (by intro u hu;simp only[rsC,XG,XO,UE]at hu;rcases hu with rfl|rfl|rfl|rfl|rfl<;>rfl) Fx Ef (by simp only[Z2];omega) ?_;intro O C Ae A6 _;obtain⟨E,d,rfl,_,_⟩:=XT Ae OA;have g3:C.heap[f]? =I (Z #[V,P,Y,K,v] 31):=Vx A6 (λe=>by have:=(H.lt _ e.symm).1;omega) ((((Ext.rfl' w).alloc _).alloc _).get p.out);have r4:=Z0 g3 4;have f4:=Z8 g3 4;simp only[YC,YA,YB]at r4)
 go_ret;have Bv:∀(j:Nat)(o:Obj),v.ownBlock=I j->((w.alloc (.cells (rsC x).toArray 110)).alloc (.cells (rsC x).toArray 75)).heap[j]? =I o->o.isCells=NC:=by
  intro j o hj h;rcases(((show w.ownsRow n 75 5 v L.length (L.flatMap rsC)from H).alloc (.cells (rsC x).toArray 110)).alloc (.cells (rsC x).toArray 75)).2 with⟨rfl,_⟩|⟨g,_,_,rfl,_,T,_⟩
  .cases hj
  .cases hj;rw[T]at h;cases h;rfl
 have A:((w.alloc (.cells (rsC x).toArray 110)).alloc (.cells (rsC x).toArray 75)).grownBy C v.ownBlock:=A6;have X:=VT C ⟨f,4,NB⟩ (NG (I E) (L.length+1) d);have hk:=(((TI w (.cells (rsC x).toArray 110)).trans (TI _ (.cells (rsC x).toArray 75))).trans (TW A Bv)).trans (VO C ⟨f,4,NB⟩ (NG (I E) (L.length+1) d));have g5:=Zb g3 (i:=4) (NG (I E) (L.length+1) d);simp only[VM,UJ,UU]at g5;refine⟨rfl,_,g5,?_,⟨λk _ h2=> ?_,hk⟩,X.os.trans A.os,X.tape.trans A.tape,X.output.trans A.output⟩
 .have:=XK Ae (a:=⟨f,4,NB⟩) hb (NG (I E) (L.length+1) d);simpa[WC]using this
 .rw[set_ne h2,A.block k (by simp only[Z2];omega) (λe=>by have:=(H.lt _ e.symm).1;omega)];exact(((Ext.rfl' w).alloc _).alloc _).old k OA
def EV{L:List Rs}(h:WC b w v L):∃e n,v= NG e L.length n/\RawS w e L:=by
 cases L with
 |nil=>
  rcases h.2 with⟨f,_⟩|⟨g,C,_,f,_⟩
  .exact⟨_,_,f,λi x m=>by simp at m⟩
  .exact⟨_,_,f,λi x m=>by simp at m⟩
 |cons y L=>
  obtain⟨g,C,f,_,E⟩:=XT h OD;refine⟨_,_,f,λi x m=> ?_⟩;subst f
  have d:∀(j:Nat)(u:NM),j<5->(rsC x)[j]? =I u->w.cell? ⟨g,0+i*5+j,NB⟩=I u:=λj u p A=>by
   have:=h.cells (g:=g) rfl (i*5+j) u (by rw[FM rsC 5 (λ_=>rfl) _ i x j m p];exact A);rw[ZU]at this;rw[VD];exact this
  exact⟨g,0,rfl,E,⟨d 0 _ OA rfl,d 1 _ OA rfl,d 2 _ OA rfl,d 3 _ OA rfl,d 4 _ OA rfl⟩⟩
end
section
attribute [local instance] k3
attribute [local go_sem] Oper.semAt_some
def HJ{y:List UInt8}(h:y∈Y1 t):y.length<=t.length:=by
 unfold Y1 at h;split at h
 .exact Qn (List.dropLast_subset _ h)
 .exact Qn h
def LD(t:List UInt8):(Y1 t).length<=t.length+1:=by
 unfold Y1;have:=MG 10 t;split
 .rw[List.length_dropLast];omega
 .exact this
def KA(h:Ext w0 W)(d:W.grownBy W' row)(g:∀r,row=I r->w0.heap.size<=r):Ext w0 W':=
 ⟨XC h.size d.size,λk f=>(d.block k (YS f h.size) (λe=>by have:=g _ e.symm;omega)).trans (h.old k f),d.tape.trans h.tape,d.os.trans h.os,d.output.trans h.output⟩
def Ln.head:Ln->Bool
 | .rule .. | .sight .. =>NC
 | .shaft _| .shot _=>ND
def Xk(d:Ln->Bool)(i:Nat)(s:List UInt8):Bool:=match WN s with
 |some l=>(l.head==decide (i=0))&&d l
 |none=>ND
def Gd(d:Ln->Bool)(N:List (List UInt8))(i:Nat):Prop:=∀j B,j<i->N[j]? =I B->Xk d j B=NC
def Gd.next{ok:Ln->Bool}{N:List (List UInt8)}(h:Gd ok N i)(f:N[i]? =I B)(g:Xk ok i B=NC):Gd ok N (i+1):=λj C _ d=>by
 by_cases e:j=i
 .subst e;rw[f]at d;cases d;exact g
 .exact h j C OA d
def ON(f:Ln->Bool)(N:List (List UInt8))(d X:NL->Prop)(e:Ending)(W':NL):Prop:=
 (Gd f N N.length/\0<N.length/\e= NK .nilIface/\d W')\/(∃(k:Nat)(B:List UInt8),N[k]? =I B/\Xk f k B=ND/\Gd f N k/\e= NK (.iface 101 (NJ #[NE NF ((k:Int)+1),NE NF 3]))/\X W')\/
   (N=[]/\e= NK (.iface 101 (NJ #[NE NF 0,NE NF 3]))/\X W')
def qN(l:Ln):∃t v e,lnV l= .iface t v/\(∀W,(method 457 t v "nock/arrow.head").run U W= .ok (e,v) W)/\(∀d W,(callFunc e d).run U W= .ok (.enter e d) W)/\∀W,NW U e #[v] W (OI (.bool l.head) W):=by
 cases l with|rule a b c m=>exact⟨_,_,_,rfl,oJ _,(MN 252),re a b c m⟩|shaft x=>exact⟨_,_,_,rfl,qj _,(MN 253),eu x⟩|sight a b c m=>exact⟨_,_,_,rfl,ii _,(MN 255),nu a b c m⟩|shot s=>exact⟨_,_,_,rfl,rq _,(MN 256),eq s⟩
def aw(tk V:Nat)(ok:Ln->Bool)(t:List UInt8)(d:Nat->Nat->NL->Prop)(X:NL->Prop)(w0 w:NL)
 (A1:t.length<=2000)(Hx:w0.heap.size<=V)(Hn:V<w.heap.size)(b8:MaxL w0)(Bp:ErrF w0)
 (c5:∀a1 W,(callFunc tk a1).run U W= .ok (.enter tk a1) W)
 (F2:∀C i W,d C i W->Ext w0 W)(b6:∀C i W,d C i W->X W)(Sz:∀W W' row,X W->W.grownBy W' row->(∀r,row=I r->w0.heap.size<=r/\r≠V)->X W')
 (a7:∀C i W B l,(Y1 t)[i]? =I B->WN B=I l->l.head=decide (i=0)->d C i W->C<=W.heap.size->NW U tk #[lnV l,J (I V)] W λe W'=>e= NK (.bool (ok l))/\(ok l=NC->d C (i+1) W')/\X W'/\Kpt V C W W')
 (hJ:∀C i W W' row,d C i W->W.grownBy W' row->(∀r,row=I r->w0.heap.size<=r/\r≠V/\(r<C\/∃o:Obj,W.heap[r]? =I o/\o.isCells=ND))->d C i W')
 (h0:∀C,w.heap.size<=C->d C 0 w):
 NW U 45 #[str t,.func (.func tk) #[] #[J (I V)]] w (ON ok (Y1 t) (λW'=>∃C,d C (Y1 t).length W') X):=by
 have Fd:=ol t;have A5:¬(60000:Int)<t.length:=OA
 obtain⟨N,hN⟩:∃N,Y1 t=N:=⟨_,rfl⟩;have c4:=LD t;have I2:=fun{i x} h=>fd (t:=t) (i:=i) (x:=x) h
 have Mr:=pcT_len t;rw[hN]at a7 c4 Mr⊢;have R7:Pcs (pcT t):=λi x hx=>by obtain⟨B,_,h⟩:=I2 hx;exact⟨B,h⟩
 rw[hN]at I2;have I3:=pcT_flat t;generalize pcT t=T at I2 Mr R7 I3;have Ff:∀(i:Nat)(B:List UInt8),N[i]? =I B->B.length<=2000:=λi B h=>XC (HJ (by rw[hN];exact YQ h)) A1
 clear hN;refine(SI (n:=6)).1 ?_;refine callsIn_of_wp_marks (fq Tryz.func45) rfl trivial ?_ rfl;simp only[Tryz.ntmps45,UG,YP,XW,Nat.reduceAdd,Nat.reduceSub,TF,TE,TM,TG,YJ,YK];replace A1:Hid (t.length<=2000):=A1
 gi_wp2_with (first|(refine⟨trivial,?_⟩;gi_at_call 85;refine(SI.2 (Fd _)).mono ?_;rintro e f ⟨rfl,Da⟩))
 rw[<-Da];have hW:Ext w f:=by rw[Da];exact((((Ext.rfl' w).alloc _).alloc _).alloc _).alloc _
 have O:f.heap.size=w.heap.size+4:=by rw[Da];simp
 have b0:f.heap[w.heap.size]? =I (Z #[.func (.func tk) #[] #[J (I V)]] 99):=by
  rw[Da];simp only[Z3,Z2];rw[XB OA,XB OA,XB OA,YZ trivial]
 have b2:f.heap[w.heap.size+1]? =I (Z #[.nilIface] 91):=by
  rw[Da];simp only[Z3,Z2];rw[XB OA,XB OA,YZ trivial]
 have b3:f.heap[w.heap.size+1+1]? =I (Z #[NE NF 0] 3):=by
  rw[Da];simp only[Z3,Z2];rw[XB OA,YZ trivial]
 have b4:f.heap[w.heap.size+1+1+1]? =I (Z #[str t] 9):=by
  rw[Da];simp only[Z3,Z2];rw[YZ trivial]
 have Uf:d f.heap.size 0 f:=hJ _ 0 w f NB (h0 _ OA) (Uh hW) (λr h=>by cases h);have b7:V<w.heap.size:=Hn;clear Da Fd A5;obtain⟨b,M⟩:∃b,b=w.heap.size:=⟨_,rfl⟩;rw[<-M]at O b0 b2 b3 b4 b7⊢;clear M;replace O:Hid _:=O
 have hk:∀{W W':NL}{row:Option Nat}{k:Nat}{cs:Array NM}{t:TypeId}{fz:Nat×Nat},W.heap[k]? =I (.cells cs t fz)->W.grownBy W' row->(∀r,row=I r->r=b+1+1+1\/(f.heap.size<=r/\∃o:Obj,W.heap[r]? =I o/\o.isCells=ND))->k≠b+1+1+1->W'.heap[k]? =I (.cells cs t fz):=λh E hr Ab=>(E.block _ (Z5 h) (λe=>by
  rcases hr _ e.symm with h1|⟨_,o,h1,h2⟩
  .exact Ab h1
  .rw[h]at h1;cases h1;cases h2)).trans h
 have a6:∀(D:Nat)(W:NL)(a2:Act)(v:NM),f.heap.size<=D->W.heap[D]? =I (.deferred (I []))->W.heap[b+1]? =I (Z #[v] 91)->a2.tmps.getD 4 NQ= J (I ⟨b+1,0,NB⟩)->a2.defers=[{target:= .collected D,args:= #[]}]->
  (∀W',W.grownBy W' (I D)->ON ok N (λW'=>∃C,d C N.length W') X (NK v) W')->LeavesInM Fence.wide 6 U Tryz.f45 a2.tmps (ON ok N (λW'=>∃C,d C N.length W') X) a2.defers .returning W:=λD W a2 v hD O6 E hp Qe hR=>by
  have g6:(W.putObj D (.deferred NB)).heap[b+1]? =_:=(UC (by have:=O.out;omega)).trans E;have s2:=Z0 g6 0;simp only[YC,YA]at s2;rw[Qe];refine⟨OD,.inl ⟨_,_,rfl,run_takeDeferred O6,?_⟩⟩;refine⟨v,?_,hR _ (RP W D (.deferred NB))⟩;show(results Tryz.f45 _).run U _=_;have hr:Tryz.f45.results= #[.cell 4 91]:=OB
  unfold results;rw[hr];simp only[Array.getD_eq_getD_getElem?]at hp;simp[go_sem,hp,s2]
 refine nN (n:=3) (b+1+1+1) T (by have:=O.out;omega) (λyl d Jx W hJ hY h0 hs=>jZ _ _ R7 (by rw[I3];have:=A1.out;omega) yl d Jx W hJ hY h0 hs) rfl (by rw[I3];exact b4)
  (λi W=>d f.heap.size i W/\W.heap[b]? =I (Z #[.func (.func tk) #[] #[J (I V)]] 99)/\W.heap[b+1]? =I (Z #[.nilIface] 91)/\W.heap[b+1+1]? =I (Z #[NE NF i] 3)/\f.heap.size<=W.heap.size/\Hid (Gd ok N i))
  (λW=>∃(k:Nat)(B:List UInt8),N[k]? =I B/\Xk ok k B=ND/\Gd ok N k/\W.heap[b+1]? =I (Z #[.iface 101 (NJ #[NE NF ((k:Int)+1),NE NF 3])] 91)/\X W)
  ?hI ?Ow ⟨Uf,b0,b2,b3,XA _,λj B h=>by omega⟩ (λx=>{tmps:= #[str t,.func (.func tk) #[] #[J (I V)],NQ,J (I b),J (I ⟨b+1,0,NB⟩),J (I ⟨b+1+1,0,NB⟩),str x,NQ,NQ,str t,t.length,.bool ND,NQ,NQ,str t,.func (.func 124) #[] #[J (I ⟨b+1+1+1,0,NB⟩)],str x,NQ,NQ,NQ,NQ,NQ,NQ,NQ,NQ,NQ,NQ,NQ,NQ,NQ,NQ,NQ,NQ,NQ,NQ,NQ,NQ,NQ,NQ,NQ,NQ,NQ,NQ,NQ,NQ,NQ,NQ],defers:=[]}) ?assign ?body ?done ?left
 case hI=>
  rintro i W W' row ⟨g0,g1,g2,g3,g4,g5⟩ E hr;have O:=O.out;refine⟨hJ _ i W W' row g0 E (λr e=> ?_),hk g1 E hr OA,hk g2 E hr OA,hk g3 E hr OA,XC g4 E.size,g5⟩;rcases hr r e with rfl|⟨h1,h2⟩
  .exact⟨OA,OA,.inl OA⟩
  .exact⟨OA,OA,.inr h2⟩
 case Ow=>
  rintro _ W W' row ⟨k,B,h1,h2,h3,h4,h5⟩ E hr;have O:=O.out;refine⟨k,B,h1,h2,h3,hk h4 E hr OA,Sz _ _ _ h5 E λr e=> ?_⟩;rcases hr r e with rfl|⟨h1,h2⟩<;>exact⟨OA,OA⟩
 case assign=>
  intro l x W K hK;simp only[List.zip_toArray,SR,List.zip_nil_left,List.zip_nil_right,List.foldl_toArray',VU,List.foldl_nil,UG,YP,XW,VM,UJ,UU,Nat.reduceAdd]
  gi_wp2
  exact hK
 case left=>
  rintro D W hD ⟨k,B,h1,h2,h3,h4,h5⟩ O6;exact a6 D W _ _ hD O6 h4 rfl rfl λW' E=> .inr (.inl ⟨k,B,h1,h2,h3,rfl,Sz _ _ _ h5 E λr e=>by cases e;have:=O.out;exact⟨OA,OA⟩⟩)
 case done=>
  rintro D W hD ⟨g0,g1,g2,g3,g4,g5⟩ O6;rw[Mr]at g0 g3 g5;have q2:=Z0 g2 0;have q3:=Z0 g3 0;have z2:=Z8 g2 0;simp only[YC,YA]at q2 q3;have c1:=Z5 O6;have O:=O.out;have a0:∀v,(W.setCell ⟨b+1,0,NB⟩ v).heap[D]? =I (.deferred (I [])):=λv=>((TZ W (b+1) v).block D c1 (λe=>by have:=YT e;omega)).trans O6
  have a4:∀v,(W.setCell ⟨b+1,0,NB⟩ v).heap[b+1]? =I (Z #[v] 91):=λv=>Zb g2 (i:=0) v
  by_cases Py:N.length=0
  .rw[Py]at q3
   gi_wp2
   refine a6 D _ _ _ hD (a0 _) (a4 _) rfl rfl λW' E=> .inr (.inr ⟨SL.1 Py,rfl,?_⟩)
   refine Sz _ _ _ (Sz _ _ _ (b6 _ _ _ g0) (TZ W (b+1) _) λr e=> ?_) E λr e=> ?_
   all_goals (cases e;exact⟨OA,OA⟩)
  .have hnz:¬(N.length:Int)=0:=OA
   gi_wp2
   refine a6 D _ _ _ hD (a0 _) (a4 _) rfl rfl λW' E=> .inl ⟨g5.out,OA,rfl,_,hJ _ _ _ _ _ (hJ _ _ _ _ _ g0 (TZ W (b+1) .nilIface) λr e=> ?_) E λr e=> ?_⟩
   .cases e;exact⟨OA,OA,.inl OA⟩
   .cases e;exact⟨OA,OA,.inr ⟨_,a0 _,rfl⟩⟩
 case body=>
  rintro l i x W hx ⟨g0,g1,g2,g3,g4,g5⟩;obtain⟨B,hB,Su⟩:=I2 hx;have Pc:=Su.trim;have hi:i<N.length:=(YI.1 hB).1
  have Qm:=λW=>np x [10] W (by
   have h1:=A1.out;have h2:x.length<=T.flatten.length:=by
    obtain⟨p,q,e⟩:=List.append_of_mem (YQ hx);rw[e];simp only[List.flatten_append,RU,XH];omega
   rw[I3]at h2;omega)
  rw[Pc]at Qm;have Hz:=λW he hm=>kC B W (by have:=Ff i B hB;omega) he hm
  have I4:=λW l hl hh=>a7 f.heap.size i W B l hB hl hh
  have ng:=TZ W (b+1+1) (NE NF ((i:Int)+1));have Yf:=hJ _ i W _ _ g0 ng (λr e=>by cases e;have:=O.out;exact⟨OA,OA,.inl OA⟩);have k3:=Zb g3 (i:=0) (NE NF ((i:Int)+1));have k1:(W.setCell ⟨b+1+1,0,NB⟩ (NE NF ((i:Int)+1))).heap[b]? =_:=(ng.block b (Z5 g1) (λe=>by have:=YT e;omega)).trans g1;have k2:(W.setCell ⟨b+1+1,0,NB⟩ (NE NF ((i:Int)+1))).heap[b+1]? =_:=(ng.block _ (Z5 g2) (λe=>by have:=YT e;omega)).trans g2;have q3:=Z0 g3 0;have z3:=Z8 g3 0;simp only[YC,YA,VM,UJ]at q3 k3;have Fm:=F2 _ _ _ Yf;have Is:(i:Int)+1<=3000:=by have:=A1.out;omega
  have D8:(0:Int)<=i:=OA
  have Du:=b8.ext Fm;have E5:=Bp.ext Fm;replace Du:Hid (MaxL _):=Du;replace E5:Hid (ErrF _):=E5;clear a7 hx Pc Su I2 b8 Bp R7 Ff I3 Mr;have g:=λh=>Gd.next g5.out hB (ok:=ok) h
  have a3:∀A,Xk ok i B=ND->X A->KeepsOthers W A->A.heap[b+1]? =I (Z #[.nilIface] 91)->KeepsFrom f.heap.size W (A.setCell ⟨b+1,0,NB⟩ (.iface 101 (NJ #[NE NF ((i:Int)+1),NE NF 3])))/\
   ∃(k:Nat)(B:List UInt8),N[k]? =I B/\Xk ok k B=ND/\Gd ok N k/\(A.setCell ⟨b+1,0,NB⟩ (.iface 101 (NJ #[NE NF ((i:Int)+1),NE NF 3]))).heap[b+1]? =I (Z #[.iface 101 (NJ #[NE NF ((k:Int)+1),NE NF 3])] 91)/\X (A.setCell ⟨b+1,0,NB⟩ (.iface 101 (NJ #[NE NF ((i:Int)+1),NE NF 3]))):=λA E hE hK hc=>
   ⟨(hK.trans (VO A ⟨b+1,0,NB⟩ (.iface 101 (NJ #[NE NF ((i:Int)+1),NE NF 3])))).from _,i,B,hB,E,g5.out,Zb hc (i:=0) _,Sz _ _ _ hE (TZ A (b+1) _) λr e=>by cases e;have:=O.out;exact⟨OA,OA⟩⟩
  have N6:=b6 _ _ _ Yf;have R8:∀P,Ext (W.setCell ⟨b+1+1,0,NB⟩ (NE NF ((i:Int)+1))) P->X P:=λP h=>Sz _ _ _ N6 (Uh h) λr e=>by cases e
  clear N6;replace R8:Hid _:=R8;have Bj:=λP (h:Ext (W.setCell ⟨b+1+1,0,NB⟩ (NE NF ((i:Int)+1))) P)=>(VO W _ _).trans (TW (Uh h) (λj o e=>by cases e))
  replace a3:Hid _:=a3;replace g:Hid _:=g;replace Bj:Hid _:=Bj;replace hB:Hid _:=hB;cases G1:WN B with
  |none=>
   rw[G1]at Hz;have Pg:Xk ok i B=ND:=by rw[Xk,G1]
   clear I4 G1
   gi_wp2_with (first
    |(refine⟨trivial,?_⟩;gi_at_call 87;refine(Q5 (Qm _)).mono ?_;rintro e w5 ⟨rfl,b5⟩)
    |(refine⟨trivial,?_⟩;gi_at_call 86;refine(Q5 (Hz _ Du.out E5.out)).mono ?_;rintro e P ⟨⟨xv,ev,rfl,⟨_,_,rfl⟩,_⟩,Y⟩
      have Cw:=Y.drew;have m3:=Cw.get k3;have m2:=Cw.get k2;have n3:=Z0 m3 0;have n2:=Z0 m2 0;have z2:=Z8 m2 0;simp only[YC,YA]at n3 n2;replace m2:Hid _:=m2;replace m3:Hid _:=m3;clear q3 z3 k1 k2 k3))
   have M:=a3.out _ Pg (R8.out _ Cw) (Bj.out _ Cw) m2.out;replace M:Hid _:=M;generalize ((i:Int)+1)=n at n3 M
   gi_region_with (refine⟨λ_ _=>trivial,?_⟩)
   all_goals
    gi_wp2
    exact M.out
  |some L=>
   rw[G1]at Hz;obtain⟨vt,vv,_,hV,_,_,a9⟩:=qN L;obtain⟨t,ht⟩:∃t,t=decide (i=0):=⟨_,rfl⟩;obtain⟨m,T0⟩:∃m,m=(i:Int)+1:=⟨_,rfl⟩;have he:(m==1)=t:=by
    rw[T0,ht];by_cases h:i=0
    .subst h;rfl
    .rw[XV h,XQ];omega
   have I4:=λW=>I4 W L G1
   have Pg:Hid (Xk ok i B=((L.head==t)&&ok L)):=by show _=_;rw[Xk,G1,ht]
   clear G1;replace ht:Hid _:=ht;have I7:Hid (t=decide (i=0)):=ht;clear ht;replace I4:Hid _:=I4;replace T0:Hid _:=T0;by_cases T1:L.head=t
   .obtain⟨c,hc⟩:∃c,ok L=c:=⟨_,rfl⟩;have Xz:Xk ok i B=c:=(by rw[Pg.out,T1,beq_self_eq_true,hc];rfl);rw[T1]at a9
    have b1:∀W,d f.heap.size i W->f.heap.size<=W.heap.size->NW U tk #[.iface vt vv,J (I V)] W λe W'=>e= NK (.bool c)/\(c=NC->d f.heap.size (i+1) W')/\X W'/\Kpt V f.heap.size W W':=λW h1 h2=>by
     have:=I4.out W (T1.trans I7.out) h1 h2;rw[hV,hc]at this;exact this
    have Ny:f.heap.size<=(W.setCell ⟨b+1+1,0,NB⟩ (NE NF ((i:Int)+1))).heap.size:=(by simpa using g4);clear Pg I4 hc T1
    gi_wp2_with (first
     |(refine⟨trivial,?_⟩;gi_at_call 87;refine(Q5 (Qm _)).mono ?_;rintro e w5 ⟨rfl,b5⟩)
     |(refine⟨trivial,?_⟩;gi_at_call 86;refine(Q5 (Hz _ Du.out E5.out)).mono ?_;rintro e P ⟨⟨xv,ev,rfl,rfl,Wi⟩,Y⟩
       obtain rfl:=(Wi L rfl).trans hV;clear Wi;have m3:=Y.get k3;have m1:=Y.get k1;have n3:=Z0 m3 0;have n1:=Z0 m1 0;simp only[YC,YA]at n3 n1;replace m1:Hid _:=m1;replace m3:Hid _:=m3;clear q3 z3))
    have Vv:f.heap.size<=P.heap.size:=XC Ny Y.size;have c0:=hJ _ i _ P NB Yf (Uh Y) (λr e=>by cases e)
    have a5:∀w7 A,Ext P w7->Kpt V f.heap.size w7 A->KeepsOthers W A/\A.heap[b+1+1+1]? =W.heap[b+1+1+1]? /\A.heap[b]? =I (Z #[.func (.func tk) #[] #[J (I V)]] 99)/\A.heap[b+1]? =I (Z #[.nilIface] 91)/\
     A.heap[b+1+1]? =I (Z #[NE NF ((i:Int)+1)] 3)/\f.heap.size<=A.heap.size:=λw7 A H Ph=>by
     have O:=O.out;have ks:(W.setCell ⟨b+1+1,0,NB⟩ (NE NF ((i:Int)+1))).heap[b+1+1+1]? =_:=ng.block _ OA (λe=>by have:=YT e;omega);have Ba:(W.setCell ⟨b+1+1,0,NB⟩ (NE NF ((i:Int)+1))).heap.size=W.heap.size:=OD;refine⟨((Bj.out _ Y).trans (TW (Uh H) (λj o e=>by cases e))).trans Ph.others,?_,?_,?_,?_,XC Vv (XC H.size Ph.others.size)⟩
     .exact(Ph.low _ OA OA).trans ((H.old _ OA).trans ((Y.old _ OA).trans ks))
     .exact(Ph.low _ OA OA).trans (H.get m1.out)
     .exact(Ph.low _ OA OA).trans (H.get (Y.get k2))
     .exact(Ph.low _ OA OA).trans (H.get m3.out)
    rw[<-T0.out]at n3;replace a5:Hid _:=a5;clear k1 k2 k3 g0 g1 g2 g3 Fm Ny ng Yf
    gi_region_with (first
     |((first|refine⟨trivial,?_⟩|refine⟨λ_ _=>trivial,?_⟩);(with_reducible refine(Q5 (a9 _)).mono ?_);rintro e w7 ⟨rfl,Cw⟩
       have H:Ext P w7:=((Ext.rfl' P).drew).trans Cw;have o3:=H.cellS n3;have o1:=H.cellS n1;have c3:=hJ _ _ P w7 NB c0 (Uh H) (λr e=>by cases e);have c2:=XC Vv H.size)
     |(refine⟨trivial,?_⟩;(with_reducible refine(Q5 (b1 _ c3 c2)).mono ?_);rintro e A ⟨rfl,a8,Ds,Ph⟩))
    all_goals
     obtain⟨f1,f2,f3,f4,f5,f6⟩:=a5.out w7 A H Ph;cases c
     .have M:=a3.out A Xz Ds f1 f4;have p2:=Z0 f4 0;have z2:=Z8 f4 0;have p3:=Z0 f5 0;simp only[YC,YA]at p2 p3;replace M:Hid _:=M;clear f1 f2 f3 f4 f5 f6 a8 Ds
      gi_wp2
      exact M.out
     .have M3:=g.out Xz;have b9:A.heap[b+1+1]? =I (Z #[NE NF ((i+1:Nat):Int)] 3):=f5;have f9:=And.intro (f1.from f.heap.size) (And.intro f2 (And.intro (a8 rfl) (And.intro f3 (And.intro f4 (And.intro b9 (And.intro f6 (show Hid _ from M3)))))));replace f9:Hid _:=f9;clear f1 f2 f3 f4 f5 b9 f6 a8 Ds M3
      gi_wp2
      exact f9.out
   .have hgf2:Xk ok i B=ND:=(by rw[Pg.out,XQ.2 T1];rfl);have Ab:(L.head !=t)=NC:=(by rw[bne_iff_ne];exact T1);clear Pg I4
    gi_wp2_with (first
     |(refine⟨trivial,?_⟩;gi_at_call 87;refine(Q5 (Qm _)).mono ?_;rintro e w5 ⟨rfl,b5⟩)
     |(refine⟨trivial,?_⟩;gi_at_call 86;refine(Q5 (Hz _ Du.out E5.out)).mono ?_;rintro e P ⟨⟨xv,ev,rfl,rfl,Wi⟩,Y⟩
       obtain rfl:=(Wi L rfl).trans hV;clear Wi;have m3:=Y.get k3;have m2:=Y.get k2;have n3:=Z0 m3 0;have n2:=Z0 m2 0;simp only[YC,YA]at n3 n2;replace m2:Hid _:=m2;replace m3:Hid _:=m3;clear q3 z3 k1 k2 k3))
    rw[<-T0.out]at n3
    gi_region_with (first
     |((first|refine⟨trivial,?_⟩|refine⟨λ_ _=>trivial,?_⟩);(with_reducible refine(Q5 (a9 _)).mono ?_);rintro e w7 ⟨rfl,Cw⟩
       have H:Ext P w7:=((Ext.rfl' P).drew).trans Cw;have o3:=H.cellS n3;have o2:=H.cellS n2;have z2:=Z8 (H.get m2.out) 0;have M:=a3.out w7 hgf2 (R8.out _ (Y.trans H)) (Bj.out _ (Y.trans H)) (H.get m2.out);rw[<-T0.out]at M;replace M:Hid _:=M)
     |(refine⟨λ_ _=>trivial,?_⟩))
    all_goals
     gi_wp2
     exact M.out
end
section
attribute [local instance] k3
def runS:Nat->St->List (List UInt8)->St ⊕ Nat
 |_,st,[]=> .inl st
 |i,st,l::r=>match Wu (decide (i=0)) st l with
  |some d=>runS (i+1) d r
  |none=> .inr (i+1)
def st0:St:=⟨0,0,0,0,[]⟩
def V0(t:List UInt8):St×Int×Int:=match runS 0 st0 (Y1 t)with
 | .inr k=>(st0,k,3)
 | .inl d=>if Y1 t=[]then(st0,0,3)else if Zp d.a d.b d.c d.m d.L=0 then(d,0,0)else(st0,0,Zp d.a d.b d.c d.m d.L)
def qM{c:UInt8}{y:List UInt8}{B:Nat}(h:y∈Y4 c s)(d:s.length<=B):y.length<=B:=XC (Qn h) d
def AW{e d:St}{B:Nat}(h:Wu first e s=I d)(g:s.length<=B)(f:∀x∈e.L,x.nm.size<=B):(∀x∈d.L,x.nm.size<=B)/\d.L.length<=e.L.length+1:=by
 unfold Wu at h;cases ho:WN s with
 |none=>rw[ho]at h;cases h
 |some l=>
  rw[ho]at h;cases l with
  |rule a b c m=>
   cases first
   .cases h
   .cases h;exact⟨f,QW _⟩
  |sight=>cases h
  |shot=>cases h
  |shaft x=>
   cases first
   .cases h;refine⟨λy hy=> ?_,OD⟩;rcases VI.1 hy with hy|hy
    .exact f y hy
    .obtain rfl:=XP.1 hy;unfold WN lineP at ho;split at ho
     .rename_i x p q r t hC;split at ho
      .cases ho
      .unfold U7 at ho
       repeat' split at ho
       all_goals first|cases ho;done|cases ho;show p.toArray.size<=B;rw[UG];exact qM (by rw[hC];simp) g
     .cases ho
   .cases h
def ny{L:List (List UInt8)}{e d:St}(f:L[i]? =I l)(h:runS 0 st0 L=runS i e (L.drop i))(g:Wu (decide (i=0)) e l=I d):runS 0 st0 L=runS (i+1) d (L.drop (i+1)):=by
 obtain⟨hi,rfl⟩:=YI.1 f;rw[h,VP hi,runS,g]
def gP{L:List (List UInt8)}{d:St}(e:L[i]? =I l)(h:runS 0 st0 L=runS i d (L.drop i))(f:Wu (decide (i=0)) d l=NB):runS 0 st0 L= .inr (i+1):=by
 obtain⟨hi,rfl⟩:=YI.1 e;rw[h,VP hi,runS,f]
def KS(r:St×Int×Int)(e:Ending)(w':NL):Prop:=∃d f,e= NK (.tuple #[NJ #[r.1.a,r.1.b,r.1.c,r.1.m,NG d r.1.L.length f],r.2.1,r.2.2])/\RawA w' d r.1.L
def runS_app:∀(P Q:List (List UInt8))(i:Nat)(d:St),runS i d (P++Q)=match runS i d P with
  | .inl s=>runS (i+P.length) s Q
  | .inr k=> .inr k
 |[],Q,i,d=>rfl
 |l::P,Q,i,d=>by
  rw[YK,runS,runS];cases Wu (decide (i=0)) d l with|none=>rfl|some s=>simp only[runS_app P Q (i+1) s,YP,TA,Nat.add_comm 1]
def okK:Ln->Bool
 | .rule .. | .shaft _=>NC
 |_=>ND
def cF{st:St}:(Wu (decide (i=0)) st s).isSome=Xk okK i s:=by
 unfold Wu stepL Xk;cases WN s with|none=>rfl|some l=>cases l<;>cases decide (i=0)<;>rfl
def cJ{N:List (List UInt8)}:∀{i:Nat},i<=N.length->Gd okK N i->∃st,runS 0 st0 (N.take i)= .inl st
 |0,_,_=>⟨st0,by simp[runS]⟩
 |i+1,hi,hg=>by
  obtain⟨st,h⟩:=cJ (i:=i) OA λj B _=>hg j B OA
  have d:=YH (l:=N) (i:=i) OA;have:=hg i _ OA d;rw[<-cF (st:=st)]at this;obtain⟨s,e⟩:=UI.1 this;refine⟨s,?_⟩;rw[VL,d,runS_app,h];simp only[RL,runS,VN,VD,TO (Nat.le_of_succ_le hi),e]
def kr{N:List (List UInt8)}(f:N[k]? =I B)(g:Gd okK N k)(e:Xk okK k B=ND):runS 0 st0 N= .inr (k+1):=by
 obtain⟨d,rfl⟩:=YI.1 f;obtain⟨st,h⟩:=cJ OA g;rw[<-QB k N,VP d,runS_app,h];rw[<-cF (st:=st),Option.isSome_eq_false_iff,SB]at e;simp only[runS,VN,VD,TO (Nat.le_of_lt d),e]
def Aa{N:List (List UInt8)}{f d:St}(e:N[i]? =I B)(h:runS 0 st0 (N.take i)= .inl f)(g:Wu (decide (i=0)) f B=I d):runS 0 st0 (N.take (i+1))= .inl d:=by
 obtain⟨hi,_⟩:=YI.1 e;rw[VL,e,runS_app,h];simp only[RL,runS,VN,VD,TO (Nat.le_of_lt hi),g]
def OK(P:F.results= #[.cell 2 26,.tmp 3,.tmp 4]){w W:NL}{k:Nat}{r:St×Int×Int}{g:Option NP}{h:Nat}{d:Act}(p:d.tmps.getD 2 NQ= J (I k))(H:d.tmps.getD 3 NQ= NE NF r.2.1)(A:d.tmps.getD 4 NQ= NE NF r.2.2)(K:d.defers=[])
 (M:Ext w W)(f:W.heap[k]? =I (Z #[r.1.a,r.1.b,r.1.c,r.1.m,NG g r.1.L.length h] 26))(O:RawA W g r.1.L):
 bodyPost U F (λe w'=>KS r e w'/\Ext w w') Exit.ret d W:=by
 refine VE (v:= .tuple #[NJ #[r.1.a,r.1.b,r.1.c,r.1.m,NG g r.1.L.length h],r.2.1,r.2.2]) ?_ K ⟨⟨g,h,rfl,O⟩,M⟩;have C:=Z0 f 0;have E:=Z0 f 1;have n:=Z0 f 2;have e:=Z0 f 3;have j:=Z0 f 4;simp only[YC,YA,YB]at C E n e j;show(results F _).run U _=_;unfold results;rw[P];simp only[Array.getD_eq_getD_getElem?]at p H A;simp[go_sem,p,H,A,C,E,n,e,j]
end
section
open Go.Extern.Stop Go.Stop Go.Extern
attribute [local instance] k3
abbrev hdl(t:Nat):NM:= J (I ⟨12,t,NB⟩)
def func88:Tryp.prog.funcs[88]? =I Tryz.f88:=ZV OB OB
def func89:Tryp.prog.funcs[89]? =I Tryz.f89:=ZV OB OB
def func90:Tryp.prog.funcs[90]? =I Tryz.f90:=ZV OB OB
def func133:Tryp.prog.funcs[133]? =I Tryz.f133:=ZV OB OB
def func134:Tryp.prog.funcs[134]? =I Tryz.f134:=ZV OB OB
def func135:Tryp.prog.funcs[135]? =I Tryz.f135:=ZV OB OB
def func249:Tryp.prog.funcs[249]? =I Tryz.f249:=ZV OB OB
def func262:Tryp.prog.funcs[262]? =I Tryz.f262:=ZV OB OB
def func264:Tryp.prog.funcs[264]? =I Tryz.f264:=ZV OB OB
def func265:Tryp.prog.funcs[265]? =I Tryz.f265:=ZV OB OB
def func91:Tryp.prog.funcs[91]? =I Tryz.f91:=ZV OB OB
abbrev ntmps91:=Tryz.ntmps91
@[simp] def call91 (d:Array NM) (w:NL):(callFunc 91 d).run U w= .ok (.enter 91 d) w:=Z7 func91 OB OB d w
def ma(t:NP)(w:NL):(ReflectliteValue.unpack (.iface 103 (J (I t)))).run U w
 = .ok (NJ #[hdl 103,J (I w.heap.size),NE .u64 150]) (w.alloc (Z #[J (I t)] 103)):=OB
def oX(a:NP)(w:NL):(ReflectliteValue.methodAny (ReflectliteValue.valueError "reflectlite.Value.Type" 0) (λt _ _ _=>ReflectliteType.toType t) #[NJ #[hdl 103,J (I a),NE .u64 150]]).run U w
 = .ok (.iface 220 (NJ #[hdl 103])) w:=OB
def fX(h:NM)(w:NL):(Go.method 457 220 (NJ #[h]) "Kind").run U w= .ok (249,h) w:=OB
def pY(w:NL):((ReflectliteType.abiMethod λt=>Functor.map (λa:Nat=>Value.int IntKind.u8 (a:Int)) (Rtype.kind t)) #[hdl 103]).run U w= .ok (NE .u8 22) w:=OB
def fp(w:NL):((ReflectliteType.abiMethod λt=>Functor.map (λa:Nat=>Value.int IntKind.u8 (a:Int)) (Rtype.kind t)) #[hdl 101]).run U w= .ok (NE .u8 25) w:=OB
def rlm(z:Sem NM)(f:TypeId->NP->Nat->Nat->Sem NM)(v:NM):
 ReflectliteValue.method z f #[v]=(do match<-ReflectliteValue.parts v with|none=>z|some (t,a,fl)=>f t a fl (fl % 32)):=rfl
def af(a:NP)(w:NL):(ReflectliteValue.parts (NJ #[hdl 103,J (I a),NE .u64 150])).run U w= .ok (I (103,a,150)) w:=OB
def u103:Tryp.prog.underlying 103=I (.pointer 101):=(underlying_eq 103).trans Tryz.underlying103
def kh(a p:NP)(W:NL)(d:W.cell? a=I (J (I p))):
 (ReflectliteValue.method (ReflectliteValue.valueError "reflectlite.Value.IsNil" 0) ReflectliteValue.isNil #[NJ #[hdl 103,J (I a),NE .u64 150]]).run U W= .ok (.bool ND) W:=by
 rw[rlm];simp only[UH,af,Result.andThen];simp[ReflectliteValue.isNil,loadVar,isAgg,underlying,u103,d,Result.andThen]
def fC(h:NM)(w:NL):(Go.method 457 220 (NJ #[h]) "Elem").run U w= .ok (264,NJ #[h]) w:=OB
def fP(h:NM)(w:NL):(Go.method 457 220 (NJ #[h]) "Implements").run U w= .ok (265,NJ #[h]) w:=OB
def ly(h:NM)(w:NL):(Go.method 457 220 (NJ #[h]) "AssignableTo").run U w= .ok (262,NJ #[h]) w:=OB
def ov(w:NL):(ReflectliteType.method ReflectliteType.elem #[NJ #[hdl 103]]).run U w= .ok (.iface 220 (NJ #[hdl 101])) w:=OB
def ig(w:NL):(ReflectliteType.relation "Implements" ReflectliteType.implements_ #[NJ #[hdl 101],.iface 220 (NJ #[hdl 91])]).run U w= .ok (.bool NC) w:=OB
def mc(v:NM)(w:NL):(ReflectliteType.typeOf #[.iface 101 v]).run U w= .ok (.iface 220 (NJ #[hdl 101])) w:=OB
def ph(w:NL):(ReflectliteType.relation "AssignableTo" ReflectliteType.assignableTo #[NJ #[hdl 101],.iface 220 (NJ #[hdl 101])]).run U w= .ok (.bool NC) w:=OB
def iF(n f:Int)(w:NL):(ReflectliteValue.unpack (.iface 101 (NJ #[n,f]))).run U w
 = .ok (NJ #[hdl 101,J (I w.heap.size),NE .u64 153]) (w.alloc (Z #[n,f] 101)):=OB
def gK(w:NL):(Rtype.elem? 103).run U w= .ok (I 101) w:=OB
def mk101(p:NP)(w:NL):(ReflectliteValue.mk 101 p ReflectliteValue.flagAddr).run U w= .ok (NJ #[hdl 101,J (I p),NE .u64 409]) w:=OB
def ni(a p:NP)(W:NL)(d:W.cell? a=I (J (I p))):
 (ReflectliteValue.method (ReflectliteValue.valueError "reflectlite.Value.Elem" 0) ReflectliteValue.elem #[NJ #[hdl 103,J (I a),NE .u64 150]]).run U W
   = .ok (NJ #[hdl 101,J (I p),NE .u64 409]) W:=by
 rw[rlm];simp only[UH,af,Result.andThen];simp[ReflectliteValue.elem,loadVar,isAgg,underlying,u103,d,Result.andThen,gK,mk101]
def rls(v x:NM):ReflectliteValue.set #[v,x]=(do
 let (I (dst,a,fl),I (src,b,_)):=(<-ReflectliteValue.parts v,<-ReflectliteValue.parts x)
  |unsupported (.noEntry "extern/(internal/reflectlite.Value).Set.zeroValue")
 if fl / ReflectliteValue.flagAddr % 2==0 then unsupported (.noEntry "extern/(internal/reflectlite.Value).Set.unaddressable")
 let val<-loadVar src b
 if<-Rtype.directlyAssignable dst src then storeVar dst a val
 else if<-Rtype.implements dst src then
  if(<-Rtype.kind src)==20 then
   match val with
   | .nilIface=>unsupported (.noEntry "extern/reflectlite: a nil value of one interface type handed on as a value of another")
   |_=>storeVar dst a val
  else storeVar dst a (.iface src val)
 else panicString ("reflectlite.Set: value of type " ++(<-Rtype.spelt src)++ " is not assignable to type " ++(<-Rtype.spelt dst))
 pure (.tuple #[])):=rfl
def gt(a:NP)(w:NL):(ReflectliteValue.parts (NJ #[hdl 101,J (I a),NE .u64 409])).run U w= .ok (I (101,a,409)) w:=OB
def pQ(a:NP)(w:NL):(ReflectliteValue.parts (NJ #[hdl 101,J (I a),NE .u64 153])).run U w= .ok (I (101,a,153)) w:=OB
def jm(w:NL):(Rtype.directlyAssignable 101 101).run U w= .ok NC w:=OB
def gD(d m:Nat)(n f:Int)(C H:NM)(W:NL)(p:W.heap[m]? =I (Z #[n,f] 101))(e:W.heap[d]? =I (Z #[C,H] 101)):
 (ReflectliteValue.set #[NJ #[hdl 101,J (I d),NE .u64 409],NJ #[hdl 101,J (I m),NE .u64 153]]).run U W
   = .ok (.tuple #[]) ((W.setCell d (NE NF n)).setCell ⟨d,1,NB⟩ (NE NF f)):=by
 have j:=Z0 p 0;have g:=Z0 p 1;have A:=Z0 e 0;have h:=Z0 e 1;have K:=Z8 e 0;have E:=Z8 e 1;simp only[YC,YA,YB]at j g A h;rw[rls];simp only[UH,gt,pQ,Result.andThen];simp[go_sem,ReflectliteValue.flagAddr,loadVar,storeVar,j,g,A,h,K,E,Result.andThen,jm]
def ErT(w:NL):Prop:=w.cell? ⟨0,0,NB⟩=I (.iface 220 (NJ #[hdl 91]))
def ErT.ext(h:ErT w)(e:Ext w w'):ErT w':=e.cellS h
def cj(n f:Int)(d:Nat)(p m:NM)(w0 w:NL)(A:ErT w)(h:w.heap[d]? =I (Z #[p,m] 101))(E:Ext w0 w)(g:w0.heap.size<=d):
 NW U 47 #[.iface 101 (NJ #[n,f]),.iface 103 (J (I d))] w λe w'=>e= NK (.bool NC)/\w'.heap[d]? =I (Z #[n,f] 101)/\Ext w0 w'/\∀k o,w.heap[k]? =I o->k≠d->w'.heap[k]? =I o:=by
 have e:= @run_callFunc_extern U 88 _ (λe=>ReflectliteValue.unpack (e.getD 0 (.tuple #[]))) func88 OB OB OB OB;have e:= @run_callFunc_extern U 89 _ (ReflectliteValue.methodAny (ReflectliteValue.valueError "reflectlite.Value.Type" 0) (λt _ _ _=>ReflectliteType.toType t)) func89 OB OB OB OB;have e:= @run_callFunc_extern U 90 _ (ReflectliteValue.method (ReflectliteValue.valueError "reflectlite.Value.IsNil" 0) ReflectliteValue.isNil) func90 OB OB OB OB;have e:= @run_callFunc_extern U 249 _ (ReflectliteType.abiMethod λt=>do pure (NE .u8 (<-Rtype.kind t))) func249 OB OB OB OB;have e:= @run_callFunc_extern U 264 _ (ReflectliteType.method ReflectliteType.elem) func264 OB OB OB OB;have e:= @run_callFunc_extern U 265 _ (ReflectliteType.relation "Implements" ReflectliteType.implements_) func265 OB OB OB OB;have e:= @run_callFunc_extern U 133 _ ReflectliteType.typeOf func133 OB OB OB OB
 have e:= @run_callFunc_extern U 262 _ (ReflectliteType.relation "AssignableTo" ReflectliteType.assignableTo) func262 OB OB OB OB;have e:= @run_callFunc_extern U 134 _ (ReflectliteValue.method (ReflectliteValue.valueError "reflectlite.Value.Elem" 0) ReflectliteValue.elem) func134 OB OB OB OB;have e:= @run_callFunc_extern U 135 _ ReflectliteValue.set func135 OB OB OB OB;have e:=mc;have e:=ly;have e:=ph;have e:=iF;have e:=ma;have e:=oX;have e:=fX;have e:=fC;have e:=fP;have k27:=pY;have k25:=fp;have e:=ov;have e:=ig;have e:=Z5 h;have e:=kh w.heap.size d ((w.alloc (Z #[J (I d)] 103)).alloc (Z #[hdl 103,J (I w.heap.size),NE .u64 150] 158)) OD;have e:((w.alloc (Z #[J (I d)] 103)).alloc (Z #[hdl 103,J (I w.heap.size),NE .u64 150] 158)).cell? ⟨0,0,NB⟩=I (.iface 220 (NJ #[hdl 91])):=(((Ext.rfl' w).alloc _).alloc _).cellS A;have e:=ni w.heap.size d (((w.alloc (Z #[J (I d)] 103)).alloc (Z #[hdl 103,J (I w.heap.size),NE .u64 150] 158)).alloc (Z #[hdl 103,J (I w.heap.size),NE .u64 150] 158)) (by rw[World.cell?_alloc_lt _ _ w.heap.size (by simp;omega)];simp)
 have e:Ext w ((((w.alloc (Z #[J (I d)] 103)).alloc (Z #[hdl 103,J (I w.heap.size),NE .u64 150] 158)).alloc (Z #[hdl 103,J (I w.heap.size),NE .u64 150] 158)).alloc (Z #[n,f] 101)):=((((Ext.rfl' w).alloc _).alloc _).alloc _).alloc _;have j:=gD d (w.heap.size+1+1+1) n f p m ((((w.alloc (Z #[J (I d)] 103)).alloc (Z #[hdl 103,J (I w.heap.size),NE .u64 150] 158)).alloc (Z #[hdl 103,J (I w.heap.size),NE .u64 150] 158)).alloc (Z #[n,f] 101)) (by rw[Z3,YZ OD]) (e.get h);go_enter fq Tryz.func47,Tryz.ntmps47;go_wp2;refine wp_loop_rounds 1 ?_;rw[rounds_succ];go_wp2;go_ret;refine⟨rfl,Zb (Zb (e.get h) (i:=0) (NE NF n)) (i:=1) (NE NF f),((E.trans e).setCell _ _ g).setCell _ _ g,λk o C j=> ?_⟩;rw[set_ne j,set_ne j];exact e.get C
end
end Go.Proofs.Tryp
