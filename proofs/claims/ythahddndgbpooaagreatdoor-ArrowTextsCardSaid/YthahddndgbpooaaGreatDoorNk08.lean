import Derived.Test.YthahddndgbpooaaGreatDoorNk05
import Derived.Conc.WgGenN3
set_option linter.all false
set_option maxRecDepth 100000
set_option maxHeartbeats 32000000
open Go
open Go renaming undef->I,World->J,Value->NM,Goroutine->NR,Frame->NN,TypeId->NT,Calls->NW,Program->NO
open Bool renaming true->U,false->Z
open Go.Proofs.Tryz renaming prog->NX
open Option renaming some->NA,none->NB
open Go.IntKind renaming i64->NF
variable {es:Array Event}{c':Array NM}{main:Bool}{f:FuncId}{r0 r1 r2 r3:Int}{bot':List NN}{C Wg b b' cap i j k n off qt sb:Nat}{ρ:Nat->Nat}{Giv Sb o:Nat->Prop}{P:NO}{e ty:NT}{v v' val:NM}{V:J}
namespace Go.Nk
open Go.Conc
variable [Ban]
def Pu(Gs:Nat->Bool):NM->Bool
 | .bool _| .int _ _| .string _| .nilFunc| .nilIface| .pointer NB| .slice NB _ _| .map NB| .chan NB=>U
 | .pointer (NA a)=>Gs a.block
 | .slice (NA a) _ _=>Gs a.block
 | .func (.func f) a c=> !Ban.ban f&&a.size==0&&c.size==0
 |_=>Z
section
variable {Gs:Nat->Bool}
def BA(h:Pu Gs v=U):VRel id (λb=>Gs b=U) v v:=by
 unfold Pu at h;split at h
 .exact .bool _
 .exact .int _ _
 .exact .string _
 .exact .nilFunc
 .exact .nilIface
 .exact .nilPtr
 .exact .nilSlice _ _
 .exact .nilMap
 .exact .nilChan
 .exact .ptr (ρ:=id) h
 .exact .slice (ρ:=id) _ _ h
 .simp only[YG,XZ,XU]at h;exact .func h.1.1 rfl (λi hi=>by omega) rfl (λi hi=>by omega)
 .cases h
structure Masks(Gs:Nat->Bool)(u v:NM):Prop where
 rel:VRel id (λb=>Gs b=U) u v
 self:VRel id (λb=>Gs b=U) u u
 seen:Pu Gs v=U->u=v
def ml(h:Pu Gs v=U):Masks Gs v v:=⟨BA h,BA h,λ_=>rfl⟩
def pd(p:Ban.holes=U){v:NM}(d:wild v=U)(a:Pu Gs v=Z):Masks Gs I v:=⟨.hole p d,.undef,λh=>by rw[a]at h;cases h⟩
def gG(d:Ban.holes=U){n:String}{a c:Array NM}:Masks Gs bomb (.func (.method n) a c):=⟨.meth d,.meth d,λh=>by cases h⟩
def cI{cs:Array NM}(h:∀v∈cs,∃u,Masks Gs u v):∃d:Array NM,AR id (λb=>Gs b=U) d cs/\AR id (λb=>Gs b=U) d d:=by
 have A:∀l:List NM,(∀v∈l,∃u,Masks Gs u v)->∃d:List NM,d.length=l.length/\∀(i:Nat)(u v:NM),d[i]? =NA u->l[i]? =NA v->Masks Gs u v:=by
  intro l
  induction l with
  |nil=>exact λ_=>⟨[],rfl,λi u v h=>by simp at h⟩
  |cons a l H=>
   intro h;obtain⟨u,K⟩:=h a YY;obtain⟨d,E,z⟩:=H λv B=>h v (YW _ B)
   refine⟨u::d,by simp[E],λi x y p t=> ?_⟩;cases i with
   |zero=>simp only[YA,XM]at p t;subst p t;exact K
   |succ i=>simp only[YB]at p t;exact z i x y p t
 obtain⟨d,E,z⟩:=A cs.toList λv B=>h v (RD.1 B)
 refine⟨d.toArray,AR.mk (by simpa using E) λi x y p t=>(z i x y (by simpa using p) (by simpa using t)).rel,AR.mk rfl λi x y p t=> ?_⟩;rw[p]at t;cases t;have hi:i<d.length:=by simpa using(YF.1 p).1
 exact(z i x _ (by simpa using p) (YH OA)).self
def eY(A:Ban.holes=U):∀(n:Nat)(v:NM),SizeOf.sizeOf v<=n->∃u,Masks Gs u v:=by
 intro n
 induction n with
 |zero=>intro v h;cases v<;>simp at h
 |succ n z=>
  intro v h;cases hs:Pu Gs v with
  |true=>exact⟨v,ml hs⟩
  |false=>
   have d:wild v=U->∃u,Masks Gs u v:=λB=>⟨_,pd A B hs⟩
   cases v with
   |bool _|int _ _|string _|nilFunc|nilIface=>cases hs
   |pointer a=>cases a with|none=>cases hs|some a=>exact d rfl
   |slice a _ _=>cases a with|none=>cases hs|some a=>exact d rfl
   |map a=>cases a with|none=>cases hs|some a=>exact d rfl
   |chan a=>cases a with|none=>cases hs|some a=>exact d rfl
   |func f a c=>cases f with|method m=>exact⟨_,gG A⟩|_=>exact d rfl
   |float _ _|complex _ _ _|iface _ _=>exact d rfl
   |agg cs=>
    obtain⟨x,t,p⟩:=cI (Gs:=Gs) (cs:=cs) λv y=>z v (by have:=Array.sizeOf_lt_of_mem y;simp only[Value.agg.sizeOf_spec]at h;omega)
    exact⟨.agg x,.agg t.1 t.2,.agg p.1 p.2,λh=>by cases h⟩
   |tuple cs=>
    obtain⟨x,t,p⟩:=cI (Gs:=Gs) (cs:=cs) λv y=>z v (by have:=Array.sizeOf_lt_of_mem y;simp only[Value.tuple.sizeOf_spec]at h;omega)
    exact⟨.tuple x,.tuple t.1 t.2,.tuple p.1 p.2,λh=>by cases h⟩
open Classical in
noncomputable def Qo(Gs:Nat->Bool)(v:NM):NM:=if h:∃u,Masks Gs u v then Classical.choose h else I
def FX(a:Ban.holes=U)(v:NM):Masks Gs (Qo Gs v) v:=by
 have h:∃u,Masks Gs u v:=eY a _ v (XA _);unfold Qo;rw[dif_pos h];exact QE h
def lu(a:Ban.holes=U){v:NM}(h:Pu Gs v=U):Qo Gs v=v:=(FX a v).seen h
def Yv(w:J)(b:Nat):Bool:=match w.heap[b]? with|some (.cells ..)=>U|_=>Z
noncomputable def Fl(Gs:Nat->Bool):Obj->Obj
 | .cells c e _=> .cells (c.map (Qo Gs)) e (0,c.size)
 |_=> .coro NB
noncomputable def Zx(w:J):J:={w with heap:=w.heap.map (Fl (Yv w))}
def Q6{w:J}:Yv w b=U↔∃c e f,w.heap[b]? =NA (.cells c e f):=by
 unfold Yv;constructor
 .intro h;split at h
  .exact⟨_,_,_,by assumption⟩
  .cases h
 .rintro⟨c,e,f,h⟩;rw[h]
def aa{w:J}{c:Array NM}{f:Nat×Nat}(h:w.heap[b]? =NA (.cells c e f)):(Zx w).heap[b]? =NA (.cells (c.map (Qo (Yv w))) e (0,c.size)):=by
 simp only[Zx,Array.getElem?_map,h,XN,Fl]
def Ih{w:J}{o:Obj}(h:(Zx w).heap[b]? =NA o)(d:liveO o=U):∃c e f,w.heap[b]? =NA (.cells c e f)/\o= .cells (c.map (Qo (Yv w))) e (0,c.size):=by
 simp only[Zx,Array.getElem?_map,VA]at h;obtain⟨t,p,a⟩:=h;cases t<;>first|exact⟨_,_,_,p,a.symm⟩|(simp only[Fl]at a;subst a;cases d)
def IK{w:J}:Yv w b=U↔Live (Zx w) b:=by
 rw[Q6];constructor
 .rintro⟨c,e,f,h⟩;exact⟨_,aa h,rfl⟩
 .rintro⟨o,h1,h2⟩;obtain⟨c,e,f,h,_⟩:=Ih h1 h2;exact⟨c,e,f,h⟩
def FH(w:J):(Zx w).heap.size=w.heap.size:=by simp[Zx]
def CK(h:Ban.holes=U)(w:J)(c:Array NM):AR id (Live (Zx w)) (c.map (Qo (Yv w))) c/\AR id (Live (Zx w)) (c.map (Qo (Yv w))) (c.map (Qo (Yv w))):=by
 have p:∀b,Yv w b=U->Live (Zx w) b:=λb=>IK.1
 constructor
 .refine AR.mk OD λi x y a d=> ?_
  simp only[Array.getElem?_map,d,XN,XM]at a;subst a;exact(FX h y).rel.up p
 .refine AR.mk rfl λi x y a d=> ?_
  rw[a]at d;cases d;simp only[Array.getElem?_map,VA]at a;obtain⟨v,_,rfl⟩:=a;exact(FX h v).self.up p
def mu(t:Ban.holes=U){w:J}{G:Nat}(d:G<=w.heap.size):Start (Yv w) G (Zx w) w:=by
 refine⟨⟨λb o a p=> ?_,λ_ _ _ _ e=>e,λb a=>(IK.1 a).lt,λ_ _=>UZ,by rw[FH];exact d,d⟩,{obj:=λb o a p=> ?_,inj:=λ_ _ _ _ e=>e,fz:=λ_ h=>h.elim,low:=λ_ _=>UZ,gV:=by rw[FH];exact d,gw:=by rw[FH];exact d,tape:=λ_=>rfl,next:=λ_=>rfl},λb l h=> ?_,λg=>IK⟩
 .obtain⟨c,e,f,h1,rfl⟩:=Ih a p;exact⟨_,h1,λh=>absurd (Q6.2 ⟨c,e,f,h1⟩) h,λ_=>⟨.cells (CK t w c).1 (λh=>by cases h),_,_,_,rfl,OD⟩⟩
 .obtain⟨c,e,f,h1,rfl⟩:=Ih a p;exact⟨_,a,λ_=> .cells (CK t w c).2 (λ_=>rfl),λh=>h.elim⟩
 .obtain⟨c,e,f,_,h2⟩:=Ih h rfl;cases h2
def JU(p:Ban.holes=U){w:J}{a:Addr}{v:NM}(h:w.cell? a=NA v)(x:Pu (Yv w) v=U):(Zx w).cell? a=NA v:=by
 obtain⟨c,e,f,t,d,u⟩:=FN h;unfold World.cell?;rw[aa t];simp only[d,Option.isSome_none,YR,VF,Array.getElem?_map,u,XN,lu p x]
end
end Go.Nk
namespace Go.Proofs.Tryw
section
open Go.Nk
abbrev kidBan:Ban:=⟨λf=>f==114,λ_=>1,U⟩
attribute [local instance] kidBan
open Go.Proofs.Tryq (stub wf_typeInfo wf_sizeOf wf_underlying wf_isAgg wf_zeroValue Z7)
def keptList:List Nat:=[65,66,113,141]
noncomputable def fs:Array Func:=⟨(List.range 299).map λi=>if keptList.contains i then(Tryz.prog.funcs[i]?).getD stub else stub⟩
noncomputable def prog:NO:=Z6 NX fs
def Gs:Nat->Bool:=λ_=>Z
def tmB(P:NO)(Gs:Nat->Bool)(i:Nat):Bool:=match P.funcs[i]? with
 |some a=>(match a.body with|some c=>Zn P Gs c|none=>Z)
 |none=>Z
def Jf{fs:Array Func}{Gs:Nat->Bool}(h:tmB P Gs i=U)(a:fs[i]? =P.funcs[i]?):Tm P fs Gs i:=by
 unfold tmB at h;split at h
 .rename_i fn hfn;split at h
  .rename_i c hc;exact⟨fn,c,a.trans hfn,hfn,hc,h⟩
  .cases h
 .cases h
def okB(P:NO)(fs:Array Func)(i:Nat):Bool:=match fs[i]? with
 |none=>U
 |some a=>O0 a||(match P.funcs[i]? with|none=>Z|some d=>a.body.isSome&&d.body.isSome&& !(a.name== "runtime.NumGoroutine")&& !(d.name== "runtime.NumGoroutine"))
def L9{fs:Array Func}(n:Nat)(u:fs.size=n)(h:(List.range n).all (okB P fs)=U)(p:P.info? 1000000000=NB):Y5 P fs:=by
 refine⟨λf d a=> ?_,p⟩;have t:f<n:=by rw[<-u];exact(YF.1 a).1
 have h1:=YL.1 h f (YU.2 t);unfold okB at h1;rw[a]at h1;simp only[UF]at h1;rcases h1 with h1|h1
 .exact .inl h1
 .right
  split at h1
  .cases h1
  .rename_i fn hfn;simp only[YG,XZ]at h1;exact⟨d,fn,a,hfn,h1.1.1.1,h1.1.1.2,h1.1.2,h1.2⟩
def fs_size:fs.size=299:=OB
def fsOk:Y5 NX fs:=L9 299 fs_size OB OB
def fsOkS:Y5 prog fs:=L9 299 fs_size OB OB
def same65:fs[65]? =Tryz.prog.funcs[65]? :=OB
def same66:fs[66]? =Tryz.prog.funcs[66]? :=OB
def same113:fs[113]? =Tryz.prog.funcs[113]? :=OB
def same141:fs[141]? =Tryz.prog.funcs[141]? :=OB
def kept_same:∀i∈keptList,fs[i]? =Tryz.prog.funcs[i]? :=
 YD.2 ⟨same65,YD.2 ⟨same66,YD.2 ⟨same113,YD.2 ⟨same141,List.forall_mem_nil _⟩⟩⟩⟩
def kept_tm:keptList.all (tmB NX Gs)=U:=OB
def all_tm:(keptList.all (tmB prog Gs))=U:=OB
def kept_all:(List.range 299).all (λi=>keptList.contains i||(match fs[i]? with|some a=>a.body.isNone|none=>U))=U:=OB
def ent_kept(h:Ent P fs f):f∈keptList:=by
 obtain⟨_,_,a,_,d,_⟩:=h;have p:f<299:=by rw[<-fs_size];exact(YF.1 a).1
 have h4:=YL.1 kept_all f (YU.2 p);simp only[a,UF,VS]at h4;rcases h4 with h4|h4
 .exact h4
 .rw[SB]at h4;rw[h4]at d;cases d
def tm(h:f∈keptList):Tm NX fs Gs f:=Jf (YL.1 kept_tm f h) (kept_same f h)
def solo:Solo NX fs Gs:=⟨fsOkS,λf a=>Jf (YL.1 all_tm f (ent_kept a)) rfl⟩
@[simp] def toTables_eq:prog.toTables=Tryz.prog.toTables:=rfl
@[simp] def run_typeInfo (n:NT) (w:J):(typeInfo n).run prog w=(typeInfo n).run NX w:=wf_typeInfo NX fs n w
@[simp] def run_sizeOf (n:NT) (w:J):(Go.sizeOf n).run prog w=(Go.sizeOf n).run NX w:=wf_sizeOf NX fs n w
@[simp] def underlying_eq (n:NT):prog.underlying n=Tryz.prog.underlying n:=Xb NX fs n
@[simp] def run_underlying (n:NT) (w:J):(underlying n).run prog w=(underlying n).run NX w:=wf_underlying NX fs n w
@[simp] def run_isAgg (n:NT) (w:J):(isAgg n).run prog w=(isAgg n).run NX w:=wf_isAgg NX fs n w
@[simp] def run_zeroValue (n:NT) (w:J):(zeroValue n).run prog w=(zeroValue n).run NX w:=wf_zeroValue NX fs n w
@[simp] def func65:prog.funcs[65]? =NA Tryz.f65:=OB
abbrev ntmps65:=Tryz.ntmps65
@[simp] def call65 (a:Array NM) (w:J):(callFunc 65 a).run prog w= .ok (.enter 65 a) w:=Z7 func65 OB OB a w
@[simp] def func66:prog.funcs[66]? =NA Tryz.f66:=OB
abbrev ntmps66:=Tryz.ntmps66
@[simp] def call66 (a:Array NM) (w:J):(callFunc 66 a).run prog w= .ok (.enter 66 a) w:=Z7 func66 OB OB a w
@[simp] def func113:prog.funcs[113]? =NA Tryz.f113:=OB
abbrev ntmps113:=Tryz.ntmps113
@[simp] def call113 (a:Array NM) (w:J):(callFunc 113 a).run prog w= .ok (.enter 113 a) w:=Z7 func113 OB OB a w
@[simp] def func141:prog.funcs[141]? =NA Tryz.f141:=OB
abbrev ntmps141:=Tryz.ntmps141
@[simp] def call141 (a:Array NM) (w:J):(callFunc 141 a).run prog w= .ok (.enter 141 a) w:=Z7 func141 OB OB a w
end
section
open Go.Nk Go.RowKit
open Go.Proofs.Tryq (ShotAt Zg lo hi Grew MM upI dnI atC part_size part_get NZ N2 OR Xi zeros ED L3 Q7)
def IB(r0 r1 r2 r3 y x u t p k:Int)(b off d cap:Nat)(w:J)(E:0<=k)(z:k<d)(B:b<w.heap.size)(A:ShotAt w b (off+k.toNat*5) y x u t p):
 NW prog 66 #[.agg (Zg r0 r1 r2 r3 b off d cap),k] w λe a=>
  e= .returned (.agg #[.int NF (lo x t p r2 r3),.int NF (hi u t p r2 r3)])/\Grew w a (MM (Zg r0 r1 r2 r3 b off d cap) (lo x t p r2 r3) (hi u t p r2 r3) y x u t p):=by
 obtain⟨_,_,_,_,_⟩:=A;simp only[Zg,lo,hi,MM];go_enter func66,ntmps66;have a:b<w.heap.size+1:=OA
 have a:∀(v:J)(o:Obj)(a:Nat),b<v.heap.size->(v.alloc o).cell? ⟨b,a,NB⟩=v.cell? ⟨b,a,NB⟩:=λv o a h=>World.cell?_alloc_lt _ _ _ h
 go_wp2;refine VE ((Q7 rfl _ _ _).trans ?_) rfl ⟨rfl,(((Go.Proofs.Tryq.Grew.nil w).push _).push _).push _⟩;simp[go_sem]
def WK(n l h:Int)(w:J):NW prog 65 #[n,l,h] w (OJ (.bool (decide (l<=n/\n<=h))) w):=by
 go_enter func65,ntmps65;go_wp2;all_goals (go_ret;simp;omega)
def Pa(n:Int)(w:J):NW prog 113 #[n] w (OJ (.bool (decide (0<=n/\n<=90))) w):=by
 go_enter func113,ntmps113;go_wp2;all_goals (go_ret;simp;omega)
def FB(r0 r1 r2 r3 B A u t k:Int)(c:Nat)(b off a cap:Nat)(w:J)(hk:0<=k)(Y:k<a)(O:b<w.heap.size)(T:c<=90)(K:ShotAt w b (off+k.toNat*5) c B A u t)(l h:Int)(hl:l=lo B u t r2 r3)(hh:h=hi A u t r2 r3):
 NW prog 141 #[.agg (Zg r0 r1 r2 r3 b off a cap),k] w λe y=>e= .returned (.pointer (NA ⟨w.heap.size+1,0,NB⟩))/\
  Grew w y (Xi (Zg r0 r1 r2 r3 b off a cap) (Go.Proofs.Tryq.part l h r0 r1 c 0 91) l h c B A u t):=by
 have h0:=K.c0
 have hw:NW prog 66 #[.agg (Zg r0 r1 r2 r3 b off a cap),k] ((w.alloc (.cells (Zg r0 r1 r2 r3 b off a cap) 132)).alloc (.cells Tryz.zeroCells274 274)) λe y=>e= .returned (.agg #[l,h])/\
  Grew w y (Xi (Zg r0 r1 r2 r3 b off a cap) Tryz.zeroCells274 l h c B A u t)/\y.cell? ⟨w.heap.size+1,c*2,NB⟩=NA (.int NF 0)/\y.cell? ⟨w.heap.size+1,c*2+1,NB⟩=NA (.int NF 0)/\
  y.frozen? ⟨w.heap.size+1,c*2,NB⟩=Z/\y.frozen? ⟨w.heap.size+1,c*2+1,NB⟩=Z:=by
  have E:Grew w ((w.alloc (.cells (Zg r0 r1 r2 r3 b off a cap) 132)).alloc (.cells Tryz.zeroCells274 274)) _:=((Go.Proofs.Tryq.Grew.nil w).push _).push _;subst hl;subst hh;refine(IB r0 r1 r2 r3 c B A u t k b off a cap _ hk Y (by rw[E.size];omega) ⟨?_,?_,?_,?_,?_⟩).mono ?_
  .rw[E.cell O];exact K.c0
  .rw[E.cell O];exact K.c1
  .rw[E.cell O];exact K.c2
  .rw[E.cell O];exact K.c3
  .rw[E.cell O];exact K.c4
  .rintro e y ⟨rfl,h2⟩;have W:Grew w y (Xi (Zg r0 r1 r2 r3 b off a cap) Tryz.zeroCells274 (lo B u t r2 r3) (hi A u t r2 r3) c B A u t):=E.trans h2;exact⟨rfl,W,(W.cellNew 1 rfl _).trans (L3 OA),(W.cellNew 1 rfl _).trans (L3 OA),W.thaw 1 rfl _,W.thaw 1 rfl _⟩
 simp only[Zg]at hw⊢;clear K hl hh;go_enter func141,ntmps141;have Be:b<w.heap.size+1:=OA
 have hp:∀(v:J)(o:Obj)(z:Nat),b<v.heap.size->(v.alloc o).cell? ⟨b,z,NB⟩=v.cell? ⟨b,z,NB⟩:=λv o z h=>World.cell?_alloc_lt _ _ _ h
 go_wp2_with (
  go_at_call 66
  refine hw.mono ?_;rintro e y ⟨rfl,E,z0,z1,f0,f1⟩;clear hw hp Be h0)
 have M:=(E.setCell 1 rfl (c*2) (.int NF l)).setCell 1 rfl (c*2+1) (.int NF h);have H:((Tryz.zeroCells274).setIfInBounds (c*2) (.int NF l)).setIfInBounds (c*2+1) (.int NF h)=Go.Proofs.Tryq.part l h r0 r1 c c (c+1):=by
  have:=OR l h r0 r1 c c c (a':=c) (d':=c+1) (j:=c) T (λx=>by omega);rw[<-ED]at this;rw[<-this];simp[atC,upI]
 replace M:Grew w ((y.setCell ⟨w.heap.size+1,c*2,NB⟩ (.int NF l)).setCell ⟨w.heap.size+1,c*2+1,NB⟩ (.int NF h)) (Xi #[r0,r1,r2,r3,.slice (NA ⟨b,off,NB⟩) a cap] (Go.Proofs.Tryq.part l h r0 r1 c c (c+1)) l h c B A u t):=by rw[<-H];exact M
 generalize (y.setCell ⟨w.heap.size+1,c*2,NB⟩ (.int NF l)).setCell ⟨w.heap.size+1,c*2+1,NB⟩ (.int NF h)=w2 at M⊢;clear E z0 z1 f0 f1 H
 go_loopw [7] (λv wr=>∃e:Nat,c<=e/\e<=90/\v= .int NF (e+1)/\Grew w wr (Xi #[r0,r1,r2,r3,.slice (NA ⟨b,off,NB⟩) a cap] (Go.Proofs.Tryq.part l h r0 r1 c c (e+1)) l h c B A u t))
  (λv _=>91 - (intOf v).toNat)
 case atStart=>exact⟨c,XA _,T,rfl,M⟩
 case round=>
  obtain⟨e,E5,_,rfl,d⟩:=hrel;clear M
  go_wp2_with (
   go_at_call 113
   refine(Pa _ _).mono ?_;rintro e' p ⟨rfl,rfl⟩)
  .have A5:e+1<=90:=OA
   have g0:p.cell? ⟨w.heap.size+1,e*2,NB⟩=NA (.int NF (atC l h r0 r1 c e).1):=(d.cellNew 1 rfl _).trans (NZ _ _ _ _ _ _ _ OA E5 OA);have g1:p.cell? ⟨w.heap.size+1,e*2+1,NB⟩=NA (.int NF (atC l h r0 r1 c e).2):=(d.cellNew 1 rfl _).trans (N2 _ _ _ _ _ _ _ OA E5 OA);have g2:p.cell? ⟨w.heap.size,0,NB⟩=NA (.int NF r0):=d.cellNew 0 rfl _;have g3:p.cell? ⟨w.heap.size,1,NB⟩=NA (.int NF r1):=d.cellNew 0 rfl _;have g4:p.cell? ⟨w.heap.size+1,(e+1)*2,NB⟩=NA (.int NF 0):=(d.cellNew 1 rfl _).trans ((part_get _ _ _ _ _ _ _ OA).trans (by rw[XB OA]));have g5:p.cell? ⟨w.heap.size+1,(e+1)*2+1,NB⟩=NA (.int NF 0):=(d.cellNew 1 rfl _).trans ((part_get _ _ _ _ _ _ _ OA).trans (by rw[XB OA]));have g6:p.frozen? ⟨w.heap.size+1,(e+1)*2,NB⟩=Z:=d.thaw 1 rfl _;have g7:p.frozen? ⟨w.heap.size+1,(e+1)*2+1,NB⟩=Z:=d.thaw 1 rfl _
   go_region
   all_goals go_wp2
   refine⟨⟨e+1,OA,A5,by push_cast;rfl,?_⟩,by simp[intOf];omega⟩;have Jb:=((d.setCell 1 rfl ((e+1)*2) (.int NF (wrap64 ((atC l h r0 r1 c e).1+r0)))).setCell 1 rfl ((e+1)*2+1) (.int NF (wrap64 ((atC l h r0 r1 c e).2+r1)))).drew;have X:atC l h r0 r1 c (e+1)=(wrap64 ((atC l h r0 r1 c e).1+r0),wrap64 ((atC l h r0 r1 c e).2+r1)):=by
    have e1:e+1 - c=(e - c)+1:=OA;simp only[atC,YZ E5,YZ (show c<=e+1 by omega),e1,upI]
   have H:=OR l h r0 r1 c c (e+1) (a':=c) (d':=e+1+1) (j:=e+1) A5 (λx=>by omega);rw[X]at H;rw[<-H];exact Jb
  .have he:e=90:=OA
   subst he;have Pw:Grew w p (Xi #[r0,r1,r2,r3,.slice (NA ⟨b,off,NB⟩) a cap] (Go.Proofs.Tryq.part l h r0 r1 c c 91) l h c B A u t):=d;clear d
   go_loopw [8] (λv wr=>∃f:Nat,f<=c/\v= .int NF ((f:Int) - 1)/\Grew w wr (Xi #[r0,r1,r2,r3,.slice (NA ⟨b,off,NB⟩) a cap] (Go.Proofs.Tryq.part l h r0 r1 c f 91) l h c B A u t))
    (λv _=>(intOf v+1).toNat)
   case atStart=>exact⟨c,XA _,rfl,Pw⟩
   case round=>
    obtain⟨f,_,rfl,d⟩:=hrel;clear Pw;rcases f with _|g
    .go_wp2_with (
      go_at_call 113
      refine(Pa _ _).mono ?_;rintro e' a0 ⟨rfl,rfl⟩)
     go_ret;exact⟨rfl,d⟩
    .have ev:((g+1:Nat):Int) - 1=g:=OA;rw[ev];have g0:wr.cell? ⟨w.heap.size+1,(g+1)*2,NB⟩=NA (.int NF (atC l h r0 r1 c (g+1)).1):=(d.cellNew 1 rfl _).trans (NZ _ _ _ _ _ _ _ OA OA OA);have g1:wr.cell? ⟨w.heap.size+1,(g+1)*2+1,NB⟩=NA (.int NF (atC l h r0 r1 c (g+1)).2):=(d.cellNew 1 rfl _).trans (N2 _ _ _ _ _ _ _ OA OA OA);have g2:wr.cell? ⟨w.heap.size,0,NB⟩=NA (.int NF r0):=d.cellNew 0 rfl _;have g3:wr.cell? ⟨w.heap.size,1,NB⟩=NA (.int NF r1):=d.cellNew 0 rfl _;have g4:wr.cell? ⟨w.heap.size+1,g*2,NB⟩=NA (.int NF 0):=(d.cellNew 1 rfl _).trans ((part_get _ _ _ _ _ _ _ OA).trans (by rw[XB OA]));have g5:wr.cell? ⟨w.heap.size+1,g*2+1,NB⟩=NA (.int NF 0):=(d.cellNew 1 rfl _).trans ((part_get _ _ _ _ _ _ _ OA).trans (by rw[XB OA]));have g6:wr.frozen? ⟨w.heap.size+1,g*2,NB⟩=Z:=d.thaw 1 rfl _;have g7:wr.frozen? ⟨w.heap.size+1,g*2+1,NB⟩=Z:=d.thaw 1 rfl _
     go_wp2_with (
      go_at_call 113
      refine(Pa _ _).mono ?_;rintro e' a0 ⟨rfl,rfl⟩)
     go_region
     all_goals go_wp2
     refine⟨?_,?measure⟩;iterate 28 apply Exists.intro
     refine⟨?rel,rfl⟩
     case rel=>
      refine⟨g,OA,rfl,?_⟩;have Jb:=((d.setCell 1 rfl (g*2) (.int NF (wrap64 ((atC l h r0 r1 c (g+1)).1 - r1)))).setCell 1 rfl (g*2+1) (.int NF (wrap64 ((atC l h r0 r1 c (g+1)).2 - r0)))).drew;have X:atC l h r0 r1 c g=(wrap64 ((atC l h r0 r1 c (g+1)).1 - r1),wrap64 ((atC l h r0 r1 c (g+1)).2 - r0)):=by
       have e1:c - g=(c - (g+1))+1:=OA;by_cases h1:c<=g+1
       .have e2:c=g+1:=OA;simp only[atC,YZ h1,XB (show¬c<=g by omega),e1,dnI];simp[e2,dnI,upI]
       .simp only[atC,XB h1,XB (show¬c<=g by omega),e1,dnI]
      have H:=OR l h r0 r1 c (g+1) 91 (a':=g) (d':=91) (j:=g) OA (λx=>by omega);rw[X]at H;rw[<-H];exact Jb
     case measure=>simp[intOf]
end
end Go.Proofs.Tryw
namespace Go.Nk
section
open Go.Conc Go.RowKit Go.Conc.Lib Go.ConcR.Gen Go.ConcN.Gen
open Go.ConcN (ShN WgLive PayAt Has CTag)
open Go.ConcR (KK WgAt stA smA rd wr mk Payload DC0)
variable [Payload]{L:WgLink}
section
variable {S:(Nat->Prop)->NR->J->Prop}{m:Nat}{g:NR}{w:J}
def BD{a b:J}(h:DC0 a b es):DMo Wg Sb Giv o a b es/\b.heap.size=a.heap.size:=by
 obtain⟨rfl,rfl⟩:=h;exact⟨⟨λ_ _ _=>rfl,XA _,rfl,rfl,rfl,λe d=>by simp at d⟩,rfl⟩
def WW(h:Goes P U (RMo ty Wg C n o) DC0 (S o) m g w):∃r,GoT P U (RMo ty Wg C n) (DMo Wg Sb Giv) S r o g w:=
 ⟨_,GoT.of_goes (λ_ _=>id) (λ_ _ _=>BD) (λ_ _=>id) h⟩
def Nl(h:Goes P U (RMo ty Wg C n o) DC0 (λg w=>∃r,GoT P U (RMo ty Wg C n) (DMo Wg Sb Giv) S r o g w) m g w):∃r,GoT P U (RMo ty Wg C n) (DMo Wg Sb Giv) S r o g w:=by
 have a:GoT P U (RMo ty Wg C n) (DMo Wg Sb Giv) (λo g w=>∃r,GoT P U (RMo ty Wg C n) (DMo Wg Sb Giv) S r o g w) (.ofNat m) o g w:=
  GoT.of_goes (λ_ _=>id) (λ_ _ _=>BD) (λ_ _=>id) h
 exact a.seq RMo.refl (λ_ _ _ h=>h)
def aU(M:g.status= .running)(h:∀d,RMo ty Wg C n o w d->∃t a x,stepG P U g d= .go t d #[⟨.mark x,Z,U⟩]/\(x= .read a\/x= .write a)/\a.block=Wg/\WgLive ty Wg d/\∃r,GoT P U (RMo ty Wg C n) (DMo Wg Sb Giv) S r o t d):
 ∃r,GoT P U (RMo ty Wg C n) (DMo Wg Sb Giv) S r o g w:=by
 refine GoT.step M λd E=> ?_
 obtain⟨t,a,x,e,O,u,H,r,K⟩:=h d E;refine⟨t,d,_,r,e,⟨λ_ _ _=>rfl,XA _,rfl,rfl,rfl,λ_ B=> ?_⟩,by rw[WI rfl];exact K⟩;rw[Array.mem_singleton]at B;subst B;have A:a.block<d.heap.size:=by
  obtain⟨_,_,z⟩:=H;rw[u];exact(YF.1 z).1
 rcases O with rfl|rfl
 .refine⟨⟨λy p=> .inl ?_,by simp[T3]⟩,?_⟩
  .simp only[MemAct.ofEvent,MemAct.touch?,XM]at p;subst p;exact⟨⟨a,rfl,u⟩,OD⟩
  .simp[MemAct.ofEvent,MemAct.low,A]
 .refine⟨⟨λy p=> .inl ?_,by simp[T3]⟩,?_⟩
  .simp only[MemAct.ofEvent,MemAct.touch?,XM]at p;subst p;exact⟨⟨a,rfl,u⟩,OD⟩
  .simp[MemAct.ofEvent,MemAct.low,A]
def Z1{F:J->Prop}(p:∀w d,RMo ty Wg C n o w d->F w->F d){w a:J}(h:F w/\WgLive ty Wg w)(r:RMo ty Wg C n o w a):F a/\WgLive ty Wg a:=⟨p _ _ r h.1,r.live h.2⟩
def HI(p:¬o Wg)(t:C≠Wg){w:J}(a:Addr)(h:a.block=Wg)(v:NM)(u:WgLive ty Wg (w.setCell a v)):RMo ty Wg C n o w (w.setCell a v):=by
 have d:=TQ w a v;exact⟨λb x=>d.block b (λe=>p (by rw[<-h,<-e];exact x)),SH d.size.symm,λ_=>u,fun⟨cs,y,x⟩=>⟨cs,by rw[d.block C (by rw[h];exact t)];exact y,x⟩,d.tape,d.os,d.output⟩
end
section
variable {Res:Nat->(Nat->Prop)->NM->J->Prop}{Next:(Nat->Prop)->NR->J->Prop}{F:J->Prop}
 {b₀:NN} {a₀:Act} {ops₀:Array Oper} {i₀:Nat} {rest₀:List Nat} {k₀:List Item} {cs:List NN}
def addM(H:WgLib P L)(K:¬o Wg)(x:C≠Wg)(d:∀w y,RMo L.tWg Wg C n o w y->F w->F y)
 (E:∀w,F w->WgLive L.tWg Wg w->∃r,GoT P U (RMo L.tWg Wg C n) (DMo Wg Sb Giv) (MGo P L.tWg Wg C n Sb Res j Next) r o (G (b₀.at (a₀.put ((ops₀[i₀]?).bind (·.dst)) (.tuple #[])) (.inRegion ops₀ rest₀::k₀)) cs) w)
 (w:J)(a:F w/\WgLive L.tWg Wg w):
 ∃r,GoT P U (RMo L.tWg Wg C n) (DMo Wg Sb Giv) (KL P L.tWg Wg C n Sb Res Giv j Next) r o
  (G ((base L.add).at ⟨#[.pointer (NA Wg),.int NF 1,I,I,I,I,I,I,I,I,I,I,I,I,I,I,I,I,I,I,I,I,I,I,I,I,I,I,I,I,I,I,I,I,I,I,I,I,I,I,I,I,I,I,I,I,I,I,I,I,I,I,I,I,I,I,I,I,I,I,I,I,I,I,I,I,I,I,I,I,I,I,I,I,I,I,I,I,I,I,I,I,I,I,I,I,I,I,I,I,I,I,I,I,I,I,I,I,I,I,I,I,I,I,I,I,I,I,I,I,I,I,I,I,I,I,I],[]⟩ [.code (body_add L)]) (b₀.at a₀ (.inRegion ops₀ (i₀::rest₀)::k₀)::cs)) w:=by
 lib_facts
 simp only[body_add,addFn,UM];refine WW (m:=12) ?_
 u_c XJ (Z1 d) a
 u_cond U (Z1 d) a
 iterate 2 u_c XJ (Z1 d) a
 u_reg (Z1 d) a
 iterate 2 u_op (Z1 d) a
 u_c XD (Z1 d) a
 u_cond Z (Z1 d) a
 u_c UY (Z1 d) a
 u_c XJ (Z1 d) a
 u_reg (Z1 d) a
 refine UT (λt h=> ?_);replace a:=Z1 d a h;clear h;refine⟨rfl,_,stepG_mark0 .disable OD rfl rfl (by k_ne) rfl H.f_disable (x_disable_n L) (x_disable_b L) (x_disable_x L) (x_disable_f L),WW (m:=40) ?_⟩
 walk_nrm
 u_c XD (Z1 d) a
 u_reg (Z1 d) a
 u_defer (Z1 d) a
 u_c XD (Z1 d) a
 u_c XJ (Z1 d) a
 u_reg (Z1 d) a
 u_op (Z1 d) a
 u_c XD (Z1 d) a
 iterate 2 u_c XJ (Z1 d) a
 u_reg (Z1 d) a
 u_bub (Z1 d) a
 u_c XD (Z1 d) a
 u_cond Z (Z1 d) a
 u_c UY (Z1 d) a
 u_c XJ (Z1 d) a
 u_reg (Z1 d) a
 iterate 6 u_op (Z1 d) a
 u_call H.f_uAdd (nm_uAdd L) uAddFn (Z1 d) a
 u_c XJ (Z1 d) a
 u_reg (Z1 d) a
 u_op (Z1 d) a
 u_c XD (Z1 d) a
 u_c XJ (Z1 d) a
 u_reg (Z1 d) a
 iterate 4 u_op (Z1 d) a
 refine UT (λt h=> ?_);replace a:=Z1 d a h;clear h;refine⟨rfl,λv _ p=> ?_⟩;rcases TY v with rfl|hvp
 .replace p:WgAt L.tWg Wg t 0 0:=by simpa using p
  have z:(((0:Nat):Int)+1)*KK=KK:=OD
  rw[z];have M:IntKind.u64.wrap (0+4294967296)=KK:=OC
  refine⟨_,(stepG_add_atomic rfl rfl (by k_ne) rfl H.f_addU64 (x_addU64_n L) (x_addU64_b L) (x_addU64_x L) .u64 (x_addU64_f L) rfl rfl p.cellSt (p.thaw 0)).trans (by rw[M];rfl),Nl (m:=110) ?_⟩;replace a:=Z1 d a (HI K x (stA Wg) rfl (.int .u64 KK) ⟨_,_,p.setSt KK⟩);clear p;simp only[KK]at a⊢
  walk_nrm
  u_op (Z1 d) a
  u_c XD (Z1 d) a
  u_c SQ (Z1 d) a
  u_leave1 H.f_uAdd (Z1 d) a
  u_op (Z1 d) a
  u_c XD (Z1 d) a
  iterate 2 u_c XJ (Z1 d) a
  u_reg (Z1 d) a
  iterate 4 u_op (Z1 d) a
  iterate 2 u_skip (Z1 d) a
  u_op (Z1 d) a
  u_c XD (Z1 d) a
  u_cond Z (Z1 d) a
  u_c UY (Z1 d) a
  u_c XJ (Z1 d) a
  u_reg (Z1 d) a
  iterate 4 u_op (Z1 d) a
  u_c XD (Z1 d) a
  u_c XJ (Z1 d) a
  u_reg (Z1 d) a
  iterate 4 u_op (Z1 d) a
  u_c XD (Z1 d) a
  iterate 2 u_c XJ (Z1 d) a
  u_reg (Z1 d) a
  iterate 9 u_op (Z1 d) a
  u_op (Z1 d) a
  u_c XD (Z1 d) a
  u_cond U (Z1 d) a
  u_reg (Z1 d) a
  iterate 3 u_op (Z1 d) a
  u_conv H.underlying_tPU32 H.room_tU32 (WgLive.cell1 a.2).choose_spec (Z1 d) a
  refine UT (λt h=> ?_);replace a:=Z1 d a h;clear h;refine aU rfl λ_ B=> ?_
  replace a:=Z1 d a B;clear B;refine⟨_,⟨Wg,1,NB⟩,_,stepG_markAt .read OD rfl rfl (by k_ne) rfl H.f_raceRead (x_raceRead_n L) (x_raceRead_b L) (x_raceRead_x L) (x_raceRead_f L) (ad:=⟨Wg,1,NB⟩) (by simp[Act.eval]),.inl rfl,rfl,a.2,WW (m:=90) ?_⟩
  walk_nrm
  u_c XD (Z1 d) a
  iterate 2 u_c XJ (Z1 d) a
  u_reg (Z1 d) a
  iterate 2 u_op (Z1 d) a
  u_c XD (Z1 d) a
  u_cond Z (Z1 d) a
  u_c UY (Z1 d) a
  iterate 2 u_c XJ (Z1 d) a
  u_reg (Z1 d) a
  iterate 3 u_op (Z1 d) a
  iterate 2 u_skip (Z1 d) a
  iterate 2 u_op (Z1 d) a
  iterate 4 u_skip (Z1 d) a
  u_op (Z1 d) a
  u_c XD (Z1 d) a
  u_cond Z (Z1 d) a
  u_c UY (Z1 d) a
  iterate 2 u_c XJ (Z1 d) a
  u_reg (Z1 d) a
  iterate 3 u_op (Z1 d) a
  iterate 2 u_skip (Z1 d) a
  u_op (Z1 d) a
  u_c XD (Z1 d) a
  u_cond U (Z1 d) a
  u_c SQ (Z1 d) a
  refine UT (λt h=> ?_);replace a:=Z1 d a h;clear h;refine⟨rfl,_,stepG_unwind_entry (v:= .tuple #[]) (evs:= #[mk .enable]) rfl H.f_enable (x_enable_n L) (x_enable_b L) (x_enable_x L) (x_enable_f L) (by simp[Extern.Race.none_]) (by simp[mk]) (by simp[mk]),Nl (m:=1) ?_⟩
  u_leave0 H.f_add (Z1 d) a
  exact UT (λt h=>E _ (Z1 d a h).1 (Z1 d a h).2)
 .obtain⟨V,hV⟩:∃V:Int,V=(v:Int)+1:=⟨_,rfl⟩;obtain⟨S,u⟩:∃S:Int,S=V*KK:=⟨_,rfl⟩;have A:IntKind.u64.wrap ((v:Int)*KK+4294967296)=S:=by rw[IntKind.wrap_u64,u,hV];simp only[KK];omega
  rw[<-hV,<-u];have a1:S / 4294967296=V:=by rw[u];simp only[KK];omega
  have O:bits .and .u64 S 2147483648=0:=by rw[u,hV];have:=Go.ConcN.st_flag (v+1) 0 OA OA;simpa[KK]using this
  have X:bits .and .u64 S 2147483647=0:=by rw[u,hV];have:=Go.ConcN.st_waiters (v+1) 0 OA OA;simpa[KK]using this
  have T:IntKind.i32.wrap V=V:=by rw[IntKind.wrap_i32];omega
  have Y:1<V:=OA
  have W:V<2147483648:=OA
  have q1:(V==1)=Z:=by simp;omega
  have q2:decide (V=1)=Z:=XV OA;have q3:decide (V<0)=Z:=XV OA;have q4:decide (0<V)=U:=VB OA;have q5:(V==0)=Z:=by simp;omega
  have q6:decide (V=0)=Z:=XV OA;refine⟨_,(stepG_add_atomic rfl rfl (by k_ne) rfl H.f_addU64 (x_addU64_n L) (x_addU64_b L) (x_addU64_x L) .u64 (x_addU64_f L) rfl rfl p.cellSt (p.thaw 0)).trans (by rw[A];rfl),WW (m:=110) ?_⟩;replace a:=Z1 d a (HI K x (stA Wg) rfl (.int .u64 S) ⟨_,_,p.setSt S⟩);clear p u hV A
  walk_nrm
  u_op (Z1 d) a
  u_c XD (Z1 d) a
  u_c SQ (Z1 d) a
  u_leave1 H.f_uAdd (Z1 d) a
  u_op (Z1 d) a
  u_c XD (Z1 d) a
  iterate 2 u_c XJ (Z1 d) a
  u_reg (Z1 d) a
  iterate 4 u_op (Z1 d) a
  iterate 2 u_skip (Z1 d) a
  u_op (Z1 d) a
  u_c XD (Z1 d) a
  u_cnd Z (Z1 d) a
  u_c UY (Z1 d) a
  u_c XJ (Z1 d) a
  u_reg (Z1 d) a
  iterate 4 u_op (Z1 d) a
  u_c XD (Z1 d) a
  u_c XJ (Z1 d) a
  u_reg (Z1 d) a
  iterate 4 u_op (Z1 d) a
  u_c XD (Z1 d) a
  iterate 2 u_c XJ (Z1 d) a
  u_reg (Z1 d) a
  iterate 9 u_op (Z1 d) a
  u_op (Z1 d) a
  u_c XD (Z1 d) a
  u_cnd Z (Z1 d) a
  u_c UY (Z1 d) a
  iterate 2 u_c XJ (Z1 d) a
  u_reg (Z1 d) a
  iterate 2 u_op (Z1 d) a
  u_c XD (Z1 d) a
  u_cnd Z (Z1 d) a
  u_c UY (Z1 d) a
  iterate 2 u_c XJ (Z1 d) a
  u_reg (Z1 d) a
  iterate 3 u_op (Z1 d) a
  iterate 2 u_skip (Z1 d) a
  iterate 2 u_op (Z1 d) a
  iterate 4 u_skip (Z1 d) a
  u_op (Z1 d) a
  u_c XD (Z1 d) a
  u_cnd Z (Z1 d) a
  u_c UY (Z1 d) a
  iterate 2 u_c XJ (Z1 d) a
  u_reg (Z1 d) a
  iterate 3 u_op (Z1 d) a
  iterate 2 u_skip (Z1 d) a
  u_op (Z1 d) a
  u_c XD (Z1 d) a
  u_cnd U (Z1 d) a
  u_c SQ (Z1 d) a
  refine UT (λt h=> ?_);replace a:=Z1 d a h;clear h;refine⟨rfl,_,stepG_unwind_entry (v:= .tuple #[]) (evs:= #[mk .enable]) rfl H.f_enable (x_enable_n L) (x_enable_b L) (x_enable_x L) (x_enable_f L) (by simp[Extern.Race.none_]) (by simp[mk]) (by simp[mk]),Nl (m:=1) ?_⟩
  u_leave0 H.f_add (Z1 d) a
  exact UT (λt h=>E _ (Z1 d a h).1 (Z1 d a h).2)
end
def JD(L:WgLink)(F:(Nat->Prop)->J->Prop)(Wg:Nat)(c:NN)(cs:List NN)(o:Nat->Prop)(g:NR)(w:J):Prop:=
 ∃T:Array NM,g=G ((base L.wait).at ⟨T,[]⟩ [.code (L7 L),.inLoop (L7 L),.inBlock 0]) (c::cs)/\T.size=84/\T[0]? =NA (.pointer (NA Wg))/\F o w/\WgLive L.tWg Wg w
section
variable {End:(Nat->Prop)->NR->J->Prop}{F:(Nat->Prop)->J->Prop}
 {b₀:NN} {a₀:Act} {ops₀:Array Oper} {i₀:Nat} {rest₀:List Nat} {k₀:List Item} {cs:List NN}
def nd(H:WgLib P L)(Giv o:Nat->Prop)(p:∀o w d,RMo L.tWg Wg C n o w d->F o w->F o d)(w:J)(a:F o w/\WgLive L.tWg Wg w):
 ∃r,GoT P U (RMo L.tWg Wg C n) (DMo Wg Sb Giv) (MKd P L.tWg Wg C n Sb (JD L F Wg (b₀.at a₀ (.inRegion ops₀ (i₀::rest₀)::k₀)) cs) Giv) r o
  (G ((base L.wait).at ⟨#[.pointer (NA Wg),I,I,I,I,I,I,I,I,I,I,I,I,I,I,I,I,I,I,I,I,I,I,I,I,I,I,I,I,I,I,I,I,I,I,I,I,I,I,I,I,I,I,I,I,I,I,I,I,I,I,I,I,I,I,I,I,I,I,I,I,I,I,I,I,I,I,I,I,I,I,I,I,I,I,I,I,I,I,I,I,I,I,I],[]⟩ [.code (body_wait L)]) (b₀.at a₀ (.inRegion ops₀ (i₀::rest₀)::k₀)::cs)) w:=by
 lib_facts
 have d:=p o;simp only[body_wait,waitFn,UM];refine WW (m:=3) ?_
 u_c XJ (Z1 d) a
 u_cond U (Z1 d) a
 u_reg (Z1 d) a
 refine UT (λ_ h=> ?_);replace a:=Z1 d a h;clear h;refine⟨rfl,_,stepG_mark0 .disable OD rfl rfl (by k_ne) rfl H.f_disable (x_disable_n L) (x_disable_b L) (x_disable_x L) (x_disable_f L),WW (m:=3) ?_⟩
 walk_nrm
 u_c XD (Z1 d) a
 u_c stepG_block (Z1 d) a
 u_c stepG_loop (Z1 d) a
 exact UT (λ_ h=>⟨_,rfl,OD,OD,Z1 d a h⟩)
def nO(H:WgLib P L)(M:C≠Wg)(Y:∀o w O,RMo L.tWg Wg C n o w O->F o w->F o O)(A:∀o w,F o w->¬o Wg)
 (K:∀Giv o w,F o w->WgLive L.tWg Wg w->∃r,GoT P U (RMo L.tWg Wg C n) (DMo Wg Sb Giv) End r o (G (b₀.at (a₀.put ((ops₀[i₀]?).bind (·.dst)) (.tuple #[])) (.inRegion ops₀ rest₀::k₀)) cs) w)
 (Giv o:Nat->Prop)(g:NR)(w:J)(h:JD L F Wg (b₀.at a₀ (.inRegion ops₀ (i₀::rest₀)::k₀)) cs o g w):
 ∃r,GoT P U (RMo L.tWg Wg C n) (DMo Wg Sb Giv) (MW1 P L.tWg Wg C n Sb End (JD L F Wg (b₀.at a₀ (.inRegion ops₀ (i₀::rest₀)::k₀)) cs) Giv) r o g w:=by
 lib_facts
 obtain⟨T,rfl,x,B,a⟩:=h;have d:=Y o;have E:=A o w a.1;obtain⟨_,_,_,_,_,_,_,_,_,_,_,_,_,_,_,_,_,_,_,_,_,_,_,_,_,_,_,_,_,_,_,_,_,_,_,_,_,_,_,_,_,_,_,_,_,_,_,_,_,_,_,_,_,_,_,_,_,_,_,_,_,_,_,_,_,_,_,_,_,_,_,_,_,_,_,_,_,_,_,_,_,_,_,_,rfl⟩:=array84 T x;simp only[YC,YA,XM]at B;subst B;simp only[L7,body_wait,waitFn,UM];refine WW (m:=30) ?_
 u_c stepG_block (Z1 d) a
 u_c XJ (Z1 d) a
 u_reg (Z1 d) a
 iterate 3 u_op (Z1 d) a
 u_call H.f_uLoad (nm_uLoad L) uLoadFn (Z1 d) a
 u_c XJ (Z1 d) a
 u_reg (Z1 d) a
 u_op (Z1 d) a
 u_c XD (Z1 d) a
 u_c XJ (Z1 d) a
 u_reg (Z1 d) a
 iterate 3 u_op (Z1 d) a
 refine UT (λu p=> ?_);replace a:=Z1 d a p;clear p;refine⟨rfl,λv _ t=> ?_⟩;rcases TY v with rfl|hvp
 .replace t:WgAt L.tWg Wg u 0 0:=by simpa using t
  refine⟨_,stepG_load_atomic (v:=0) rfl rfl (by k_ne) rfl H.f_loadU64 (x_loadU64_n L) (x_loadU64_b L) (x_loadU64_x L) .u64 (x_loadU64_f L) rfl t.cellSt,λ_=>WW (m:=50) ?_,λh=>absurd rfl h⟩;clear t
  walk_nrm
  u_op (Z1 d) a
  u_c XD (Z1 d) a
  u_c SQ (Z1 d) a
  u_leave1 H.f_uLoad (Z1 d) a
  u_op (Z1 d) a
  u_c XD (Z1 d) a
  u_c XJ (Z1 d) a
  u_reg (Z1 d) a
  iterate 4 u_op (Z1 d) a
  u_c XD (Z1 d) a
  u_c XJ (Z1 d) a
  u_reg (Z1 d) a
  iterate 4 u_op (Z1 d) a
  u_c XD (Z1 d) a
  iterate 2 u_c XJ (Z1 d) a
  u_reg (Z1 d) a
  iterate 2 u_op (Z1 d) a
  u_c XD (Z1 d) a
  u_cond U (Z1 d) a
  u_c XJ (Z1 d) a
  u_cond U (Z1 d) a
  u_c XJ (Z1 d) a
  u_reg (Z1 d) a
  refine UT (λu p=> ?_);replace a:=Z1 d a p;clear p;refine⟨rfl,_,stepG_mark0 .enable OD rfl rfl (by k_ne) rfl H.f_enable (x_enable_n L) (x_enable_b L) (x_enable_x L) (x_enable_f L),WW (m:=12) ?_⟩
  walk_nrm
  u_c XD (Z1 d) a
  u_reg (Z1 d) a
  u_op (Z1 d) a
  u_conv H.underlying_tWgP H.room_tWg (WgLive.cell0 a.2).choose_spec (Z1 d) a
  refine UT (λu p=> ?_);replace a:=Z1 d a p;clear p;refine⟨rfl,_,stepG_markAt .acquire OD rfl rfl (by k_ne) rfl H.f_acquire (x_acquire_n L) (x_acquire_b L) (x_acquire_x L) (x_acquire_f L) (by simp[Act.eval,stA]),Nl (m:=30) ?_⟩
  walk_nrm
  u_c XD (Z1 d) a
  iterate 2 u_c XJ (Z1 d) a
  u_reg (Z1 d) a
  iterate 8 u_op (Z1 d) a
  iterate 2 u_skip (Z1 d) a
  u_op (Z1 d) a
  u_c XD (Z1 d) a
  u_cond Z (Z1 d) a
  u_c UY (Z1 d) a
  u_c SQ (Z1 d) a
  u_leave0 H.f_wait (Z1 d) a
  exact UT (λu p=>K _ _ _ (Z1 d a p).1 (Z1 d a p).2)
 .obtain⟨S,hS⟩:∃S:Int,(v:Int)*KK=S:=⟨_,rfl⟩;have a1:S / 4294967296=(v:Int):=by rw[<-hS];simp only[KK];omega
  have b1:bits .and .u64 S 2147483648=0:=by rw[<-hS];have:=Go.ConcN.st_flag v 0 OA OA;simpa[KK]using this
  have b2:bits .and .u64 S 2147483647=0:=by rw[<-hS];have:=Go.ConcN.st_waiters v 0 OA OA;simpa[KK]using this
  have c1:IntKind.i32.wrap (v:Int)=(v:Int):=by rw[IntKind.wrap_i32];omega
  have w1:IntKind.u64.wrap (S+1)=S+1:=by rw[IntKind.wrap_u64,<-hS];simp only[KK];omega
  have q3:decide ((v:Int)<0)=Z:=XV OA;have q4:decide (0<(v:Int))=U:=VB OA;have q5:((v:Int)==0)=Z:=by simp;omega
  have q6:decide ((v:Int)=0)=Z:=XV OA;rw[hS]at t;refine⟨_,stepG_load_atomic (v:=S) rfl rfl (by k_ne) rfl H.f_loadU64 (x_loadU64_n L) (x_loadU64_b L) (x_loadU64_x L) .u64 (x_loadU64_f L) rfl t.cellSt,λX=>absurd X OA,λ_=>WW (m:=60) ?_⟩;clear t
  walk_nrm
  u_op (Z1 d) a
  u_c XD (Z1 d) a
  u_c SQ (Z1 d) a
  u_leave1 H.f_uLoad (Z1 d) a
  u_op (Z1 d) a
  u_c XD (Z1 d) a
  u_c XJ (Z1 d) a
  u_reg (Z1 d) a
  iterate 4 u_op (Z1 d) a
  u_c XD (Z1 d) a
  u_c XJ (Z1 d) a
  u_reg (Z1 d) a
  iterate 4 u_op (Z1 d) a
  u_c XD (Z1 d) a
  iterate 2 u_c XJ (Z1 d) a
  u_reg (Z1 d) a
  iterate 2 u_op (Z1 d) a
  u_c XD (Z1 d) a
  u_cnd Z (Z1 d) a
  u_c UY (Z1 d) a
  u_c XJ (Z1 d) a
  u_reg (Z1 d) a
  iterate 6 u_op (Z1 d) a
  u_call H.f_uCas (nm_uCas L) uCasFn (Z1 d) a
  u_c XJ (Z1 d) a
  u_reg (Z1 d) a
  u_op (Z1 d) a
  u_c XD (Z1 d) a
  u_c XJ (Z1 d) a
  u_reg (Z1 d) a
  iterate 5 u_op (Z1 d) a
  refine UT (λu p=> ?_);replace a:=Z1 d a p;clear p;refine⟨rfl,λv' _ t=>⟨λe=> ?_,λe=> ?_⟩⟩
  .subst e;rw[hS]at t⊢;refine⟨_,(stepG_cas_hit (v:=S) (n:=S+1) rfl rfl (by k_ne) rfl H.f_casU64 (x_casU64_n L) (x_casU64_b L) (x_casU64_x L) .u64 (x_casU64_f L) rfl rfl rfl t.cellSt (t.thaw 0)).trans (by rfl),Nl (m:=70) ?_⟩;replace a:=Z1 d a (HI E M (stA Wg) rfl (.int .u64 (S+1)) ⟨_,_,t.setSt (S+1)⟩);clear t
   walk_nrm
   u_op (Z1 d) a
   u_c XD (Z1 d) a
   u_c SQ (Z1 d) a
   u_leave1 H.f_uCas (Z1 d) a
   u_c XD (Z1 d) a
   u_cond U (Z1 d) a
   iterate 2 u_c XJ (Z1 d) a
   u_reg (Z1 d) a
   iterate 4 u_op (Z1 d) a
   u_c XD (Z1 d) a
   u_cond U (Z1 d) a
   u_reg (Z1 d) a
   iterate 3 u_op (Z1 d) a
   u_conv H.underlying_tPU32 H.room_tU32 (WgLive.cell1 a.2).choose_spec (Z1 d) a
   refine UT (λu p=> ?_);replace a:=Z1 d a p;clear p;refine aU rfl λW z=> ?_
   replace a:=Z1 d a z;clear z;refine⟨_,⟨Wg,1,NB⟩,_,stepG_markAt .write OD rfl rfl (by k_ne) rfl H.f_raceWrite (x_raceWrite_n L) (x_raceWrite_b L) (x_raceWrite_x L) (x_raceWrite_f L) (ad:=⟨Wg,1,NB⟩) (by simp[Act.eval]),.inr rfl,rfl,a.2,WW (m:=90) ?_⟩
   walk_nrm
   u_c XD (Z1 d) a
   u_c XJ (Z1 d) a
   u_reg (Z1 d) a
   u_op (Z1 d) a
   u_c XD (Z1 d) a
   iterate 2 u_c XJ (Z1 d) a
   u_reg (Z1 d) a
   iterate 4 u_op (Z1 d) a
   u_skip (Z1 d) a
   u_op (Z1 d) a
   u_c XD (Z1 d) a
   u_cond Z (Z1 d) a
   u_c UY (Z1 d) a
   u_c XJ (Z1 d) a
   u_reg (Z1 d) a
   iterate 4 u_op (Z1 d) a
   refine UT (λu p=> ?_);replace a:=Z1 d a p;clear p;refine⟨rfl,rfl,fun⟨_,t⟩=>stepG_semacquire_wait rfl rfl rfl H.f_semacquire (x_semacquire_n L) (x_semacquire_b L) (x_semacquire_x L) (x_semacquire_f L) (by simp[Act.eval,smA]) t.cellSm,λy=> ?_⟩;refine⟨_,(stepG_semacquire (n:=1) rfl rfl (by k_ne) rfl H.f_semacquire (x_semacquire_n L) (x_semacquire_b L) (x_semacquire_x L) (x_semacquire_f L) (by simp[Act.eval,smA]) y.cellSm (by k_ne) (y.thaw 1)).trans (by rfl),WW (m:=30) ?_⟩;replace a:=Z1 d a (HI E M (smA Wg) rfl (.int .u32 0) ⟨_,_,y.setSm 0⟩);clear y
   walk_nrm
   u_c XD (Z1 d) a
   u_c XJ (Z1 d) a
   u_reg (Z1 d) a
   iterate 3 u_op (Z1 d) a
   u_call H.f_uLoad (nm_uLoad L) uLoadFn (Z1 d) a
   u_c XJ (Z1 d) a
   u_reg (Z1 d) a
   u_op (Z1 d) a
   u_c XD (Z1 d) a
   u_c XJ (Z1 d) a
   u_reg (Z1 d) a
   iterate 3 u_op (Z1 d) a
   refine UT (λu p=> ?_);replace a:=Z1 d a p;clear p;refine⟨rfl,λt=>⟨_,stepG_load_atomic (v:=0) rfl rfl (by k_ne) rfl H.f_loadU64 (x_loadU64_n L) (x_loadU64_b L) (x_loadU64_x L) .u64 (x_loadU64_f L) rfl t.cellSt,WW (m:=30) ?_⟩⟩;clear t
   walk_nrm
   u_op (Z1 d) a
   u_c XD (Z1 d) a
   u_c SQ (Z1 d) a
   u_leave1 H.f_uLoad (Z1 d) a
   iterate 2 u_op (Z1 d) a
   u_c XD (Z1 d) a
   u_c XJ (Z1 d) a
   u_cond U (Z1 d) a
   u_c XJ (Z1 d) a
   u_reg (Z1 d) a
   refine UT (λu p=> ?_);replace a:=Z1 d a p;clear p;refine⟨rfl,_,stepG_mark0 .enable OD rfl rfl (by k_ne) rfl H.f_enable (x_enable_n L) (x_enable_b L) (x_enable_x L) (x_enable_f L),WW (m:=12) ?_⟩
   walk_nrm
   u_c XD (Z1 d) a
   u_reg (Z1 d) a
   u_op (Z1 d) a
   u_conv H.underlying_tWgP H.room_tWg (WgLive.cell0 a.2).choose_spec (Z1 d) a
   refine UT (λu p=> ?_);replace a:=Z1 d a p;clear p;refine⟨rfl,_,stepG_markAt .acquire OD rfl rfl (by k_ne) rfl H.f_acquire (x_acquire_n L) (x_acquire_b L) (x_acquire_x L) (x_acquire_f L) (by simp[Act.eval,stA]),Nl (m:=30) ?_⟩
   walk_nrm
   u_c XD (Z1 d) a
   iterate 2 u_c XJ (Z1 d) a
   u_reg (Z1 d) a
   u_op (Z1 d) a
   u_c XD (Z1 d) a
   u_cond Z (Z1 d) a
   u_c UY (Z1 d) a
   u_c SQ (Z1 d) a
   u_leave0 H.f_wait (Z1 d) a
   exact UT (λu p=>K _ _ _ (Z1 d a p).1 (Z1 d a p).2)
  .refine⟨_,stepG_cas_miss (v:=(v':Int)*KK) (old:=S) (n:=S+1) rfl rfl (by k_ne) rfl H.f_casU64 (x_casU64_n L) (x_casU64_b L) (x_casU64_x L) .u64 (x_casU64_f L) rfl rfl rfl t.cellSt (t.thaw 0) (by rw[<-hS];simp only[KK];omega),WW (m:=20) ?_⟩;clear t
   walk_nrm
   u_op (Z1 d) a
   u_c XD (Z1 d) a
   u_c SQ (Z1 d) a
   u_leave1 H.f_uCas (Z1 d) a
   u_c XD (Z1 d) a
   u_cond Z (Z1 d) a
   u_c UY (Z1 d) a
   u_c stepG_inBlock (Z1 d) a
   u_c stepG_inLoop (Z1 d) a
   exact UT (λW z=>⟨_,rfl,OD,OD,Z1 d a z⟩)
end
end
section
open Go.Conc Go.RowKit Go.Conc.Lib Go.ConcR.Gen Go.ConcN.Gen
open Go.ConcN (ShN WgLive PayAt Has CTag RW AtR0 AtK1 DWs EvW)
open Go.ConcR (KK WgAt stA smA rd wr mk Payload DC0)
variable [Payload]{L:WgLink}
section
variable {R:J->J->Prop}{D:J->J->Array Event->Prop}{S SA:NR->J->Prop}
omit [Payload]in
def dA(B:∀a b c,R a b->R b c->R a c)(E:∀g w,S g w->∀A x,stepG P main g w≠.go A x #[]):
 ∀{t m:Nat}{g:NR}{w:J},Goes P main R DC0 SA t g w->Goes P main R D S m g w->Goes P main R DC0 (λg w=>SA g w/\∃m,Goes P main R D S m g w) t g w:=by
 intro t
 induction t with
 |zero=>exact λh u p d=>⟨h p d,_,Goes.rely B u d⟩
 |succ t H=>
  intro m g w h u;rcases h with h|⟨K,h⟩
  .exact .inl λp d=>⟨h p d,_,Goes.rely B u d⟩
  .refine .inr ⟨K,λp d=> ?_⟩;have y:=h p d;rcases QQ u with z|⟨_,rfl,z⟩
   .exfalso;obtain⟨A,x,es,e,⟨e1,e2⟩,_⟩:=goes_iff.1 y;subst e1;subst e2;exact E _ _ (z x d) _ _ e
   .obtain⟨A,x,es,e,_,h2⟩:=z p d;rw[e]at y⊢;exact⟨y.1,H y.2 h2⟩
omit [Payload]in
def jO{t:NR->J->Prop}(u:∀g w,S g w->t g w):∀{m:Nat}{g:NR}{w:J},Goes P main R D S m g w->Goes P main R D t m g w:=by
 intro m
 induction m with
 |zero=>exact λh p a=>u _ _ (h p a)
 |succ m y=>
  intro g w h;rcases h with h|⟨z,h⟩
  .exact .inl λp a=>u _ _ (h p a)
  .exact .inr ⟨z,λp a=>LH (h p a) λ_ _ es ⟨d,x⟩=>⟨d,y x⟩⟩
omit [Payload]in
def qm(Fk:∀a,R a a):∀{m:Nat}{g:NR}{w:J},Goes P main R DC0 S m g w->∃d,S d w:=by
 intro m
 induction m with
 |zero=>exact fun{g w} h=>⟨g,h w (Fk w)⟩
 |succ m p=>
  intro g w h;rcases h with h|⟨_,h⟩
  .exact⟨g,h w (Fk w)⟩
  .obtain⟨d,w',es,e,⟨e1,e2⟩,x⟩:=goes_iff.1 (h w (Fk w));subst e1;exact p x
end
section
variable {Rd:Nat->Prop}{S:NR->J->Prop}{St:(Nat->Prop)->NR->J->Prop}{F:J->Prop}
def kQ{a b:J}(h:DC0 a b es):DWo Wg C n Sb k Rd o a b es/\b=a:=by
 obtain⟨rfl,rfl⟩:=h;exact⟨⟨λ_ _ _ _=>rfl,id,λ_ _=>rfl,XA _,rfl,rfl,rfl,λe d=>by simp at d⟩,rfl⟩
def je(y:∀a b,RWo ty Wg C n k Rd o a b->F a->F b)(z:∀g w,S g w->F w->St o g w):∀{m:Nat}{g:NR}{w:J},Goes P Z (RW ty Wg C n 0 k) DC0 S m g w->F w->
 GoT P Z (RWo ty Wg C n k Rd) (DWo Wg C n Sb k Rd) St (.ofNat m) o g w:=by
 intro m
 induction m with
 |zero=>exact λh u t p=>z _ _ (h t p.rw) (y _ _ p u)
 |succ m A=>
  intro g w h u;rcases h with h|⟨E,h⟩
  .exact .inl λt p=>z _ _ (h t p.rw) (y _ _ p u)
  .refine .inr ⟨E,λt p=>LH (h t p.rw) λ_ _ es ⟨d,x⟩=> ?_⟩;obtain⟨B,rfl⟩:=kQ (Wg:=Wg) (C:=C) (n:=n) (k:=k) (Sb:=Sb) (Rd:=Rd) (o:=o) d;refine⟨B,?_⟩;rw[WI rfl];exact A x (y _ _ p u)
end
section
variable {c:NN}{cs:List NN}
def cP:∀g w,AtR0 P ty Wg C n 0 (k+1) val g w->∀d a,stepG P Z g w≠.go d a #[]:=by
 rintro g w ⟨_,_,_,e,_⟩ d a a;rw[e]at a;simp[mk]at a
def doneM(H:WgLib P L)(T:c.mode= .returning)(Y:QuitsD P qt 0 (G c cs))(w:J)(h:WgLive L.tWg Wg w/\Has C k val w):
 Goes P Z (RW L.tWg Wg C n 0 k) DC0 (AtR0 P L.tWg Wg C n 0 (k+1) val) 30 (G ((baseD L.done).at ⟨#[.pointer (NA Wg),I,I,I],[]⟩ [.code (body_done L)]) (c::cs)) w:=by
 have K:=doneN (Own:=λ_ _=>False) (Rd:=λ_ _=>False) (Low:=0) (n:=n) (k:=k+1) H T Y w h;have M:∀a b d,RW L.tWg Wg C n 0 k a b->RW L.tWg Wg C n 0 k b d->RW L.tWg Wg C n 0 k a d:=λ_ _ _ A u=>A.trans u
 have A:Goes P Z (RW L.tWg Wg C n 0 k) DC0 (λg w=>∃p,(stepG P Z g w= .go p w #[mk (.releaseMerge (stA Wg))])/\Goes P Z (RW L.tWg Wg C n 0 k) DC0 (λg w=>∃p,stepG P Z g w= .go p w #[mk .disable]) 6 p w) 30
  (G ((baseD L.done).at ⟨#[.pointer (NA Wg),I,I,I],[]⟩ [.code (body_done L)]) (c::cs)) w:=by
  clear K
  lib_facts
  simp only[body_done,body_add,doneFn,addFn,UM]
  u_reg kn_rely h
  u_op kn_rely h
  u_in kn_rely h
  refine goes_call rfl rfl (by k_ne) rfl H.f_add (nm_add L) rfl ⟨by u_nil,?_⟩
  walk_nrmf addFn
  u_c XJ kn_rely h
  u_cond U kn_rely h
  u_c XJ kn_rely h
  u_c XJ kn_rely h
  u_reg kn_rely h
  u_op kn_rely h
  u_op kn_rely h
  u_c XD kn_rely h
  u_cond U kn_rely h
  u_reg kn_rely h
  u_op kn_rely h
  u_conv H.underlying_tWgP H.room_tWg (WgLive.cell0 h.1).choose_spec kn_rely h
  refine UT (λO t=> ?_);replace h:=kn_rely h t;clear t;refine⟨_,stepG_markAt .releaseMerge OD rfl rfl (by k_ne) rfl H.f_relMerge (x_relMerge_n L) (x_relMerge_b L) (x_relMerge_x L) (x_relMerge_f L) (by simp[Act.eval,stA]),?_⟩
  walk_nrm
  u_c XD kn_rely h
  u_c XJ kn_rely h
  u_reg kn_rely h
  refine UT (λO t=> ?_);exact⟨_,stepG_mark0 .disable OD rfl rfl (by k_ne) rfl H.f_disable (x_disable_n L) (x_disable_b L) (x_disable_x L) (x_disable_f L)⟩
 have u:=dA M cP A K;refine jO (λg w x=> ?_) u;obtain⟨⟨p,e,y⟩,m,W⟩:=x;rcases QQ W with z|⟨_,rfl,z⟩
 .exact z w (.refl w)
 .exfalso;obtain⟨_,_,es,E,_,h3⟩:=z w (.refl w);rw[e]at E;cases E;have X:=dA M cP y h3;obtain⟨_,⟨_,e4⟩,_,h5⟩:=qm Go.ConcN.RW.refl X;rcases QQ h5 with B|⟨_,rfl,B⟩
  .obtain⟨_,_,g₅,e5,_⟩:=B w (.refl w);rw[e4]at e5;simp[mk]at e5
  .obtain⟨g₅,w₅,es₅,e5,⟨_,C3⟩,_⟩:=B w (.refl w);rw[e4]at e5;cases e5;have:=(C3 (mk .disable) OD).2.1;simp[mk]at this
end
end
end Go.Nk
namespace Go.Proofs.Tryq
open Go.Nk
abbrev link:Go.Conc.Lib.WgLink:={add:=138,done:=140,wait:=142,relMerge:=162,disable:=163,enable:=164,inBubble:=165,associate:=166,fatal:=167,uOr:=168,uAdd:=169,raceRead:=170,uLoad:=171,uStore:=172,disassociate:=173,semrelease:=174,acquire:=175,isAssociated:=176,uCas:=177,raceWrite:=178,semacquire:=179,orU64:=204,addU64:=205,loadU64:=206,storeU64:=207,casU64:=208,tWgP:=262,tUP:=155,tAssoc:=264,tWg:=243,tAU:=240,tU64:=148,tUint:=191,tU32:=241,tPU32:=268,tPAU:=295,tPU64:=297,tNoCopy:=236,tANoCopy:=237,tAlign64:=238}
def wgLib:Go.Conc.Lib.WgLib NX link:=
 ⟨Tryz.func138,Tryz.func140,Tryz.func142,Tryz.func162,Tryz.func163,Tryz.func164,Tryz.func165,Tryz.func166,Tryz.func167,Tryz.func168,Tryz.func169,Tryz.func170,Tryz.func171,Tryz.func172,Tryz.func173,Tryz.func174,Tryz.func175,Tryz.func176,Tryz.func177,Tryz.func178,Tryz.func179,Tryz.func204,Tryz.func205,Tryz.func206,Tryz.func207,Tryz.func208,Tryz.underlying262,Tryz.runUnderlying262,Tryz.sizeOf262,Tryz.isAgg262,Tryz.zeroValue262,Tryz.underlying155,Tryz.runUnderlying155,Tryz.sizeOf155,Tryz.isAgg155,Tryz.zeroValue155,Tryz.underlying264,Tryz.runUnderlying264,Tryz.sizeOf264,Tryz.isAgg264,Tryz.zeroValue264,Tryz.underlying243,Tryz.runUnderlying243,Tryz.sizeOf243,Tryz.isAgg243,Tryz.zeroValue243,Tryz.underlying240,Tryz.runUnderlying240,Tryz.sizeOf240,Tryz.isAgg240,Tryz.zeroValue240,Tryz.underlying148,Tryz.runUnderlying148,Tryz.sizeOf148,Tryz.isAgg148,Tryz.zeroValue148,Tryz.underlying191,Tryz.runUnderlying191,Tryz.sizeOf191,Tryz.isAgg191,Tryz.zeroValue191,Tryz.underlying241,Tryz.runUnderlying241,Tryz.sizeOf241,Tryz.isAgg241,Tryz.zeroValue241,Tryz.underlying268,Tryz.runUnderlying268,Tryz.sizeOf268,Tryz.isAgg268,Tryz.zeroValue268,Tryz.underlying295,Tryz.runUnderlying295,Tryz.sizeOf295,Tryz.isAgg295,Tryz.zeroValue295,Tryz.underlying297,Tryz.runUnderlying297,Tryz.sizeOf297,Tryz.isAgg297,Tryz.zeroValue297,Tryz.underlying0,Tryz.runUnderlying0,Tryz.sizeOf0,Tryz.isAgg0,Tryz.zeroValue0,Tryz.underlying3,Tryz.runUnderlying3,Tryz.sizeOf3,Tryz.isAgg3,Tryz.zeroValue3,Tryz.underlying4,Tryz.runUnderlying4,Tryz.sizeOf4,Tryz.isAgg4,Tryz.zeroValue4,Tryz.underlying9,Tryz.runUnderlying9,Tryz.sizeOf9,Tryz.isAgg9,Tryz.zeroValue9,Tryz.underlying20,Tryz.runUnderlying20,Tryz.sizeOf20,Tryz.isAgg20,Tryz.zeroValue20,Tryz.underlying21,Tryz.runUnderlying21,Tryz.sizeOf21,Tryz.isAgg21,Tryz.zeroValue21,OB,OB⟩
instance payload:Go.ConcR.Payload:=⟨188⟩
end Go.Proofs.Tryq
namespace Go.Proofs.Tryw
open Go.Nk Go.RowKit Go.Conc
open Go.Proofs.Tryq (theBan ShotAt Zg Grew Xi lo hi Sh shL shH Shots Zh shO link payload)
attribute [local instance] kidBan
attribute [local instance] payload
def FV{α:Type}(n:Nat)(d:α)(p:Nat->α->Prop)(h:∀i,i<n->∃x,p i x):∃a:Array α,a.size=n/\∀i,i<n->p i (a.getD i d):=by
 refine⟨Array.ofFn λi:Fin n=>Classical.choose (h i i.2),OD,λi hi=> ?_⟩;have e:(Array.ofFn λi:Fin n=>Classical.choose (h i i.2)).getD i d=Classical.choose (h i hi):=by
  simp[Array.getD,hi]
 rw[e];exact QE (h i hi)
def mask{L:Nat->Prop}(h: @VRel theBan ρ L v v'):∃u,VRel ρ (λ_=>False) u v'/\∀(k:IntKind)(n:Int),v=Value.int k n->u=v:=by
 induction h with
 |hole _ z=>exact⟨_,.hole rfl z,λk n e=>by cases e⟩
 |meth _=>exact⟨_,.meth rfl,λk n e=>by cases e⟩
 |bool b=>exact⟨_,.bool b,λk n e=>by cases e⟩
 |int k n=>exact⟨_,.int k n,λ_ _ _=>rfl⟩
 |string s=>exact⟨_,.string s,λk n e=>by cases e⟩
 |nilFunc=>exact⟨_,.nilFunc,λk n e=>by cases e⟩
 |nilIface=>exact⟨_,.nilIface,λk n e=>by cases e⟩
 |nilPtr=>exact⟨_,.nilPtr,λk n e=>by cases e⟩
 |ptr _=>exact⟨_,.hole rfl rfl,λk n e=>by cases e⟩
 |nilSlice l c=>exact⟨_,.nilSlice l c,λk n e=>by cases e⟩
 |slice l c _=>exact⟨_,.hole rfl rfl,λk n e=>by cases e⟩
 |nilMap=>exact⟨_,.nilMap,λk n e=>by cases e⟩
 |map _=>exact⟨_,.hole rfl rfl,λk n e=>by cases e⟩
 |nilChan=>exact⟨_,.nilChan,λk n e=>by cases e⟩
 |func _ _ _ _ _ _ _=>exact⟨_,.hole rfl rfl,λk n e=>by cases e⟩
 |yield _ _ _ _ _ _ _=>exact⟨_,.hole rfl rfl,λk n e=>by cases e⟩
 |iface t _ _=>exact⟨_,.hole rfl rfl,λk n e=>by cases e⟩
 |agg x _ p=>
  obtain⟨a,d,y⟩:=FV _ I _ p;exact⟨.agg a,.agg (d.trans x) λi hi=>(y i (d▸hi)).1,λk n e=>by cases e⟩
 |tuple x _ p=>
  obtain⟨a,d,y⟩:=FV _ I _ p;exact⟨.tuple a,.tuple (d.trans x) λi hi=>(y i (d▸hi)).1,λk n e=>by cases e⟩
def nh{L:Nat->Prop}{c:Array NM}(h: @AR theBan ρ L c c'):∃m,AR ρ (λ_=>False) m c'/\m.size=c.size/\∀(i:Nat)(k:IntKind)(n:Int),c[i]? =NA (Value.int k n)->m[i]? =NA (Value.int k n):=by
 obtain⟨a,d,p⟩:=FV c.size I (λi u=>VRel ρ (λ_=>False) u (c'.getD i I)/\∀(k:IntKind)(n:Int),c.getD i I=Value.int k n->u=c.getD i I) λi hi=>mask (h.2 i hi)
 refine⟨a,⟨d.trans h.1,λi hi=>(p i (d▸hi)).1⟩,d,λi k n hi=> ?_⟩;obtain⟨d,e⟩:=YF.1 hi;have e1:c.getD i I= .int k n:=by rw[WM d];exact e
 have e2:=(p i d).2 k n e1;have d:i<a.size:=OA
 rw[WM d,e1]at e2;rw[YN d,e2]
def Xs(V:J)(sb:Nat)(m:Array NM)(e:NT):J:={V with heap:=V.heap.mapIdx λi _=>if i=sb then .cells m e (0,m.size)else .coro NB}
section
variable {w:J}{m:Array NM}{G:Nat}{f':Nat×Nat}
def kidW_size:(Xs V sb m e).heap.size=V.heap.size:=by simp[Xs]
def KD(b:Nat):(Xs V sb m e).heap[b]? =(V.heap[b]?).map λ_=>if b=sb then .cells m e (0,m.size)else .coro NB:=by
 simp only[Xs,Array.getElem?_mapIdx]
def PY:Nk.Live (Xs V sb m e) b↔b=sb/\b<V.heap.size:=by
 unfold Nk.Live;rw[KD];constructor
 .rintro⟨o,h1,h2⟩;obtain⟨_,h,d⟩:=VA.1 h1;by_cases a:b=sb
  .exact⟨a,(YF.1 h).1⟩
  .rw[XB a]at d;subst d;cases h2
 .rintro⟨rfl,a⟩;exact⟨.cells m e (0,m.size),by rw[YN a];simp,rfl⟩
def lB(B:sb<V.heap.size)(x:w.heap[ρ sb]? =NA (.cells c' e f'))(y:AR ρ (λ_=>False) m c')(A:ρ sb<G↔sb<G)(t:G<=V.heap.size)(d:G<=w.heap.size):Emb ρ G (λb=>b<V.heap.size) (Xs V sb m e) w:=by
 refine⟨λb o a z=> ?_,λb b' a p _=> ?_,λb a=> ?_,λb a=> ?_,by rw[kidW_size];exact t,d⟩
 .have h:=(PY (V:=V) (sb:=sb) (m:=m) (e:=e) (b:=b)).1 ⟨o,a,z⟩;obtain⟨rfl,u⟩:=h;rw[KD,YN u]at a;simp only[XN,XY,XM]at a;subst a;exact⟨_,x,λh=>absurd u h,λ_=>⟨.cells (y.up λ_ h=>h.elim) (λh=>by cases h),_,_,_,rfl,XA _⟩⟩
 .exact(PY.1 a).1.trans (PY.1 p).1.symm
 .rw[kidW_size];exact a
 .obtain⟨rfl,_⟩:=PY.1 a;exact A
def ru(z:sb<V.heap.size)(y:AR ρ (λ_=>False) m c')(d:G<=V.heap.size)(p:AR id (λ_=>False) m m):Sim id G (λ_=>False) (Xs V sb m e) (Xs V sb m e):=by
 refine{obj:=λb o a u=> ?_,inj:=λ_ _ _ _ h=>h,fz:=λ_ h=>h.elim,low:=λ_ _=>UZ,gV:=by rw[kidW_size];exact d,gw:=by rw[kidW_size];exact d,tape:=λ_=>rfl,next:=λ_=>rfl};have h:=(PY (V:=V) (sb:=sb) (m:=m) (e:=e) (b:=b)).1 ⟨o,a,u⟩;obtain⟨rfl,x⟩:=h;have t:=a;rw[KD,YN x]at a;simp only[XN,XY,XM]at a;subst a;exact⟨_,t,λ_=> .cells (p.up λ_ h=>h.elim) (λ_=>rfl),λh=>h.elim⟩
def aI(Λ:Loop->Prop):LoopsOk Λ (Xs V sb m e):=λb l d=>by
 rw[KD]at d;obtain⟨_,_,a⟩:=VA.1 d;split at a<;>cases a
end
def mJ(h:VRel ρ (λ_=>False) v v'):VRel id (λ_=>False) v v:=by
 induction h with|hole _ _=>exact .undef|meth u=>exact .meth u|bool b=>exact .bool b|int k n=>exact .int k n|string s=>exact .string s|nilFunc=>exact .nilFunc|nilIface=>exact .nilIface|nilPtr=>exact .nilPtr|ptr h=>exact h.elim|nilSlice l c=>exact .nilSlice l c|slice l c h=>exact h.elim|nilMap=>exact .nilMap|map h=>exact h.elim|nilChan=>exact .nilChan|func x _ _ _ _ d p=>exact .func x rfl d rfl p|yield h _ _ _ _ _ _=>exact h.elim|iface t _ a=>exact .iface t a|agg _ _ a=>exact .agg rfl a|tuple _ _ a=>exact .tuple rfl a
def Five(cc:Array NM)(r0 r1 r2 r3:Int)(s:Sh)(o:Nat->Prop)(β:Nat->Nat)(w:J):Prop:=
 (∀j,j<5->o (β j))/\(∀j,j<5->w.heap[β j]? =(shO cc r0 r1 r2 r3 s)[j]?)/\∀i j,i<5->j<5->β i=β j->i=j
def HO{L:Nat->Prop}{c:Array NM}(h:AR ρ L c c')(hi:∀i,i<c.size->∃k n,c.getD i I= .int k n):c'=c:=by
 apply Array.ext h.1.symm;intro i t a;obtain⟨k,n,e⟩:=hi i a;have p:=h.2 i a;rw[e]at p;rw[<-WM t (d:=I),<-WM a (d:=I),e];generalize c'.getD i I=v at p;cases p;rfl
def Tj{a:Array NM}(h:a[i]? =NA v):a.getD i I=v:=by
 obtain⟨d,e⟩:=YF.1 h;rw[WM d,e]
def bL{L:Nat->Prop}(h:AR ρ L (Zg r0 r1 r2 r3 b off n cap) c')(z:ρ b=b'):c'=Zg r0 r1 r2 r3 b' off n cap:=by
 have u:(Zg r0 r1 r2 r3 b off n cap).size=5:=rfl;have t:c'.size=5:=by rw[<-h.1];exact u
 apply Array.ext (by rw[t];rfl);intro i y x;have p:=h.2 i (by rw[u];omega);rw[<-WM y (d:=I),<-WM x (d:=I)];generalize c'.getD i I=v at p⊢;obtain rfl|rfl|rfl|rfl|rfl:i=0\/i=1\/i=2\/i=3\/i=4:=OA
 .rw[Tj (a:=Zg r0 r1 r2 r3 b off n cap) (i:=0) rfl]at p;rw[Tj (a:=Zg r0 r1 r2 r3 b' off n cap) (i:=0) rfl];cases p;rfl
 .rw[Tj (a:=Zg r0 r1 r2 r3 b off n cap) (i:=1) rfl]at p;rw[Tj (a:=Zg r0 r1 r2 r3 b' off n cap) (i:=1) rfl];cases p;rfl
 .rw[Tj (a:=Zg r0 r1 r2 r3 b off n cap) (i:=2) rfl]at p;rw[Tj (a:=Zg r0 r1 r2 r3 b' off n cap) (i:=2) rfl];cases p;rfl
 .rw[Tj (a:=Zg r0 r1 r2 r3 b off n cap) (i:=3) rfl]at p;rw[Tj (a:=Zg r0 r1 r2 r3 b' off n cap) (i:=3) rfl];cases p;rfl
 .rw[Tj (a:=Zg r0 r1 r2 r3 b off n cap) (i:=4) rfl]at p;rw[Tj (a:=Zg r0 r1 r2 r3 b' off n cap) (i:=4) rfl];cases p;subst z;rfl
def nz{L:Nat->Prop}(h:L b):AR ρ L (Zg r0 r1 r2 r3 b off n cap) (Zg r0 r1 r2 r3 (ρ b) off n cap):=by
 have d:VRel ρ L (.slice (NA ⟨b,off,NB⟩) n cap) (.slice (NA ⟨ρ b,off,NB⟩) n cap):=VRel.slice (a:=⟨b,off,NB⟩) n cap h;exact((((AR.nil.push (.int _ r0)).push (.int _ r1)).push (.int _ r2)).push (.int _ r3)).push d
def BH{L:Nat->Prop}{k:Int}(a:L b):AR ρ L #[.agg (Zg r0 r1 r2 r3 b off n cap),k] #[.agg (Zg r0 r1 r2 r3 (ρ b) off n cap),k]:=by
 have h:=nz (ρ:=ρ) (r0:=r0) (r1:=r1) (r2:=r2) (r3:=r3) (off:=off) (n:=n) (cap:=cap) a;exact(AR.nil.push (.agg h.1 h.2)).push (.int _ k)
def part_ints(l h r0 r1:Int)(c a d:Nat)(i:Nat)(hi:i<(Go.Proofs.Tryq.part l h r0 r1 c a d).size):∃k n,(Go.Proofs.Tryq.part l h r0 r1 c a d).getD i I= .int k n:=
 ⟨_,_,Tj (Go.Proofs.Tryq.part_get l h r0 r1 c a d (by rw[Go.Proofs.Tryq.part_size]at hi;exact hi))⟩
def mem94:141∈keptList:=OC
def results94:Tryz.f141.results= #[.tmp 4]:=rfl
def ent94:Ent (Z6 NX fs) fs 141:=⟨Tryz.f141,Tryz.f141,func141,func141,rfl,rfl,OB,OB⟩
def nM(cc:Array NM)(r0 r1 r2 r3:Int)(s:Sh)(bot':List NN)(o:Nat->Prop)(g:NR)(w:J):Prop:=
 ∃(a:NN)(β:Nat->Nat),g=G a bot'/\a.fn=141/\a.kind= .normal/\a.mode= .returning/\a.defers=[]/\a.tmps.getD 4 I= .pointer (NA ⟨β 1,0,NB⟩)/\Five cc r0 r1 r2 r3 s o β w
def kc{w:J}{L:Nat->Prop}{Rd:Nat->Prop}{s:Sh}{c:Array NM}{f f':Nat×Nat}(hk:k<n)(a1:s.c<=90)(O:ShotAt V sb (off+k*5) s.c s.m s.M s.wi s.li)
 (hV:V.heap[sb]? =NA (.cells c e f))(hw:w.heap[ρ sb]? =NA (.cells c' e f'))(a2: @AR theBan ρ L c c')(Cr:ρ sb<Tryz.prog.globals.size↔sb<Tryz.prog.globals.size)(E:Tryz.prog.globals.size<=V.heap.size)(a3:Tryz.prog.globals.size<=w.heap.size)
 (a0:Rd (ρ sb))(Ji:¬Sb (ρ sb))(hC:C<w.heap.size)(Rn:¬o C):
 ∃r,GoT NX Z (RWo link.tWg Wg C n k Rd) (DWo Wg C n Sb k Rd) (nM (Zg r0 r1 r2 r3 (ρ sb) off n cap) r0 r1 r2 r3 s bot') r o (G (Frame.enter NX 141 #[.agg (Zg r0 r1 r2 r3 (ρ sb) off n cap),k] .normal) bot') w:=by
 obtain⟨m,hm,_,a4⟩:=nh a2;have Y:sb<V.heap.size:=(YF.1 hV).1;have T:AR id (λ_=>False) m m:=⟨rfl,λi hi=>mJ (hm.2 i hi)⟩;have Cb:Nk.Live (Xs V sb m e) sb:=PY.2 ⟨rfl,Y⟩;obtain⟨R,Kr⟩:∃R:NM->J->Prop,R=λv B=>v= .pointer (NA ⟨V.heap.size+1,0,NB⟩)/\B.heap.size=V.heap.size+5/\∀i,i<5->B.heap[V.heap.size+i]? =(shO (Zg r0 r1 r2 r3 sb off n cap) r0 r1 r2 r3 s)[i]? :=⟨_,rfl⟩
 have hR:∀t v V,R v V->R v (retape t V):=λt v V h=>by rw[Kr]at h⊢;exact h
 have hE:IsEnd (KY (Z6 NX fs) 141 4 R):=Gl hR;have hG:∀g,Gs g=U->Nk.Live (Xs V sb m e) g:=λg hg=>by cases hg
 have Bc:Self NX fs Gs (Frame.enter (Z6 NX fs) 141 #[.agg (Zg r0 r1 r2 r3 sb off n cap),k] .normal) [trap] (Xs V sb m e):=
  ⟨ru Y hm E T,aI _,FrR.enter (P:=Z6 NX fs) (solo.all 141 ent94) (BH (ρ:=id) Cb),.nil,λ_=>rfl⟩
 have A:∀(t:Nat->Question->Nat)(x:Nat)(y:Int),V.cell? ⟨sb,x,NB⟩=NA (.int NF y)->(retape t (Xs V sb m e)).cell? ⟨sb,x,NB⟩=NA (.int NF y):=by
  intro t x y h;have e1:(retape t (Xs V sb m e)).heap[sb]? =NA (.cells m e (0,m.size)):=by
   show(Xs V sb m e).heap[sb]? =_;rw[KD,hV];simp
  simp only[World.cell?,hV,e1]at h⊢;exact a4 x _ _ h
 have Ig:∀t,NW (Z6 NX fs) 141 #[.agg (Zg r0 r1 r2 r3 sb off n cap),k] (retape t (Xs V sb m e)) λe B=>∃v,e= .returned v/\R v B:=by
  intro t;have W:(retape t (Xs V sb m e)).heap.size=V.heap.size:=kidW_size;refine(FB r0 r1 r2 r3 s.m s.M s.wi s.li k s.c sb off n cap (retape t (Xs V sb m e)) OA OA (by rw[W];exact Y) a1 ?_ _ _ rfl rfl).mono ?_
  .simp only[US];exact⟨A t _ _ O.c0,A t _ _ O.c1,A t _ _ O.c2,A t _ _ O.c3,A t _ _ O.c4⟩
  .rintro e B ⟨rfl,Bq⟩;refine⟨_,rfl,?_⟩;rw[Kr];refine⟨by rw[W],by rw[Bq.size,W];rfl,λi hi=> ?_⟩;have:=Bq.new i hi;rw[W]at this;exact this
 have hH:=dK solo hE hG Bc (bH func141 results94 Ig)
 obtain⟨r,hr⟩:=po (k:=k) (n:=n) (Wg:=Wg) (κ:=λb=>if b=sb then NA (ρ sb)else NB) link.tWg solo fsOk (λf hf=>tm (ent_kept hf)) hE hH (bot':=bot') (o:=o) (Rd:=Rd) (Sb:=Sb) Bc
  (FrR.enter (fs:=fs) (tm mem94) (BH (ρ:=ρ) Cb)) .nil (λ_=>rfl) (lB Y hw hm Cr E a3) (aI _) (λg hg=>by cases hg) (λb c' h=>by
    by_cases p:b=sb
    .subst p;rw[YZ rfl]at h;cases h;exact⟨Cb,rfl⟩
    .rw[XB p]at h;cases h) (λb p Cz=>absurd (PY.1 p).2 Cz) (λb p _=>by rw[(PY.1 p).1];exact⟨a0,Ji⟩) hC Rn
 refine⟨r,hr.mono (λ_ _ _ h=>h) (λ_ _ _ _ h=>h) ?_⟩;rintro _ g _ ⟨ρ1,V1,_,d,rfl,a⟩;obtain⟨t,_,a5,A8,H,hv⟩:=a.fin;rw[Kr]at hv;obtain⟨hv,W,X⟩:=hv;have X:∀i,i<5->V1.heap[V.heap.size+i]? =(shO (Zg r0 r1 r2 r3 sb off n cap) r0 r1 r2 r3 s)[i]? :=X;have Dn:ρ1 sb=ρ sb:=(a.known sb _ (YZ rfl)).2;have Mk:∀i,i<5->Nk.Live V1 (V.heap.size+i):=by
  intro i hi;have h1:=X i hi;obtain rfl|rfl|rfl|rfl|rfl:i=0\/i=1\/i=2\/i=3\/i=4:=OA
  all_goals exact⟨_,h1,rfl⟩
 have hd:d.defers=[]:=by
  have:=a.fro.defers;rw[H]at this;generalize d.defers=x at this;cases this;rfl
 refine⟨d,λj=>ρ1 (V.heap.size+j),rfl,a.fro.fn.trans a5,a.fro.kind.2,a.fro.mode.1.trans A8,hd,?_,λj K=>a.own _ (Mk j K) OA,λj K=> ?_,λi j hi K h=> ?_⟩
 .have:=a.fro.tmps.at 4;rw[hv]at this;generalize d.tmps.getD 4 I=y at this;cases this;rfl
 .have Cz:¬V.heap.size+j<V.heap.size:=OA
  have h1:=X j K;obtain rfl|rfl|rfl|rfl|rfl:j=0\/j=1\/j=2\/j=3\/j=4:=OA
  all_goals
   obtain⟨_,h2,h3,_⟩:=a.emb.obj _ _ h1 rfl;have h3:=h3 Cz;rw[h2];cases h3 with|cells u z=> ?_
  .rw[bL u Dn,z rfl];rfl
  .rw[HO u (part_ints _ _ _ _ _ _ _),z rfl];rfl
  .rw[bL u Dn,z rfl];rfl
  .rw[HO u (λi hi=>by
    have hi:i<2:=hi;obtain rfl|rfl:i=0\/i=1:=OA;all_goals exact⟨_,_,rfl⟩),z rfl];rfl
  .rw[HO u (λi hi=>by
    have hi:i<5:=hi;obtain rfl|rfl|rfl|rfl|rfl:i=0\/i=1\/i=2\/i=3\/i=4:=OA;all_goals exact⟨_,_,rfl⟩),z rfl];rfl
 .have:=a.emb.inj _ _ (Mk i hi) (Mk j K) h;omega
end Go.Proofs.Tryw
