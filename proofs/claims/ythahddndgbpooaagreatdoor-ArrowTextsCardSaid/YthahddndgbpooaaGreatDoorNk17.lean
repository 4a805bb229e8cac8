import Derived.Test.YthahddndgbpooaaGreatDoorNk16
set_option linter.all false
set_option maxRecDepth 100000
set_option maxHeartbeats 8000000
open Go
open Option renaming some->I,none->NB
open Go renaming World->J,Value->NM,Act->NV,execOp->NU,Addr->NP,Program->NO,TypeId->NT,Calls->NW
open Go.Value renaming slice->U,pointer->NI,int->NE
open Go.Obj renaming cells->Z
open Bool renaming true->NC,false->ND
open Go.IntKind renaming i64->NF
variable {a:NV}{ops:Array Oper}{R:Exit->NV->J->Prop}{l:List Nat}{xs:List NM}{B2 cap fb i j kb n nb sb t yb yk:Nat}{ℓ:Nat->Bool}{X:Nat->Prop}{obj:Obj}{oi oj:Oper}{ow:Option Nat}{P:NO}{e:NT}{rv u v:NM}{W W' w w' w1:J}
namespace Go.Proofs.Tryq
open Go Go.Nk Go.RowKit
def IY(a b c:Int)(L:List Sf)(n:Nat)(z:Nat->Bool):∀(f:Nat)(l:List Int)(i:Nat)(s:List Int),s∈Zt a b c L n z f l i->(∀p∈l,0<=p/\p<i/\p<n)->l.Pairwise (·<·)->s.Pairwise (·<·)/\(∀p∈s,0<=p/\p<n)/\s.length=l.length+f
 |0,l,i,s,g,hl,m=>by
  cases XP.1 g;exact⟨m,λp h=>⟨(hl p h).1,(hl p h).2.2⟩,rfl⟩
 |f+1,l,i,s,g,hl,m=>by
  obtain⟨k,A,g⟩:=TV.1 g;rw[List.mem_range'_1]at A;split at g
  .have:=IY a b c L n z f (l++[(k:Int)]) (k+1) s g (by
    intro p m;rcases VI.1 m with h|h
    .have:=hl p h;omega
    .cases XP.1 h;omega) (by
    rw[RB];refine⟨m,OD,λx F y C=> ?_⟩;cases XP.1 C;have:=hl x F;omega)
   refine⟨this.1,this.2.1,?_⟩;rw[this.2.2];simp;omega
  .cases g
def pk(a b c:Int)(L:List Sf)(n f:Nat)(g:Nat->Bool):PR (Zt a b c L n g f [] 0):=by
 intro l m h y p hp;obtain⟨z,_⟩:=IY a b c L n g f [] 0 l m OD List.Pairwise.nil;cases l with
 |nil=>cases hp
 |cons x t=>
  cases y;rcases XG.1 hp with rfl|hp
  .exact RN _
  .exact Int.le_of_lt (SC z hp)
def Shr(B:Nat)(w:J)(v:NM)(c:List (List Int)):Prop:=(c=[]->v= U NB 0 0)/\∃b,w.ownsRow B 57 1 v b.length b/\Each (λu s=>OwnI B w u s) b c
def Map1(kb:Nat)(w w':J):Prop:=BelowX w.heap.size kb w w'
def Map1.refl(kb:Nat)(w:J):Map1 kb w w:=BelowX.refl _ _ _
def Map1.trans{kb:Nat}{a b c:J}(h:Map1 kb a b)(k:Map1 kb b c):Map1 kb a c:=
 ⟨k.os.trans h.os,k.tape.trans h.tape,k.output.trans h.output,XC h.size k.size,λi hi f=>(k.block i (YS hi h.size) f).trans (h.block i hi f)⟩
def Map1.of_ext(h:Ext w w'):Map1 kb w w':=⟨h.os,h.tape,h.output,h.size,λk b _=>h.old k b⟩
def MV{b c:Nat}(h:w.ownsRow b e c v n xs)(p:Map1 kb w w'){z:Array MapEntry}{A:Nat}(y:w.heap[kb]? =I (.map z A)):w'.ownsRow b e c v n xs:=by
 refine JK h λk f=>p.block k (h.lt k f).2 ?_
 rintro rfl;rcases h.2 with⟨rfl,_⟩|⟨g,_,_,rfl,_,m,_⟩
 .cases f
 .cases f;rw[y]at m;cases m
def Shr.map1{B:Nat}{f:List (List Int)}(h:Shr B w v f)(b:Map1 kb w w'){y:Array MapEntry}{A:Nat}(c:w.heap[kb]? =I (.map y A)):Shr B w' v f:=by
 obtain⟨z,g,p,m⟩:=h;exact⟨z,g,MV p b c,m.mono λu s h=>MV h b c⟩
def Shr.ext{B:Nat}{c:List (List Int)}(h:Shr B w v c)(b:Ext w w'):Shr B w' v c:=by
 obtain⟨p,f,m,g⟩:=h;exact⟨p,f,ZT m b,g.mono λu s h=>ZT h b⟩
def Shr.nil(B:Nat)(w:J):Shr B w (U NB 0 0) []:=⟨λ_=>rfl,[],VJ _ _ _ _,trivial⟩
def Shr.form{B:Nat}{c:List (List Int)}(h:Shr B w v c):∃f b,v= U f c.length b:=by
 obtain⟨_,_,p,m⟩:=h;rw[<-m.length];rcases p.2 with⟨rfl,h⟩|⟨g,b,_,rfl,_⟩
 .exact⟨NB,0,by rw[h]⟩
 .exact⟨_,b,rfl⟩
structure Known(T:List (List Int))(n B kb:Nat)(w:J)(G:NM->Option NM):Prop where
 map:MapAt prog 125 w kb G
 val:∀key v,G (.agg (Zs key))=I v->Shr B w v (Zk T n 0 key)
def Known.isMap{T:List (List Int)}{B:Nat}{G:NM->Option NM}(h:Known T n B kb w G):∃b c,w.heap[kb]? =I (.map b c):=by
 obtain⟨b,c,f,_⟩:=h.map;exact⟨b,c,f⟩
def Known.ext{T:List (List Int)}{n B kb:Nat}{w w':J}{G:NM->Option NM}(h:Known T n B kb w G)(c:Ext w w'):Known T n B kb w' G:=
 ⟨h.map.keep (c.old _ h.map.lt),λb v f=>(h.val b v f).ext c⟩
def KA(h:w.grownBy w' NB):Ext w w':=⟨h.size,λb c=>h.block b c (λe=>by cases e),h.tape,h.os,h.output⟩
def Cd{rest:List Oper}{o:Oper}{Q:Exit->NV->J->Prop}
 (C:o.guard=NB)(s x:Operand)(L:o.op=Op.call {callee:=Callee.builtin Builtin.append,args:= #[s,x],argTypes:= #[61,61]})
 (B g:Nat)(u:NM)(O:a.eval s= U (I g) 1 1)(z:w.ownsRow B 57 1 (U (I g) 1 1) 1 [u])(v:NM)(m:Nat)(f:List NM)(T:a.eval x=v)(y:w.ownsRow B 57 1 v m f)(Dm:m=0->v= U NB 0 0)
 (Uk:∀u∈f,u.oneCell'=NC)(b1:m<=1000000)(b3:B<=w.heap.size)
 (F:∀p c w',w'.ownsRow B 57 1 (U (I ⟨p,0,NB⟩) (m+1) c) (m+1) (u::f)->Ext w w'->wpList prog ops Q rest (a.put o.dst (U (I ⟨p,0,NB⟩) (m+1) c)) w'):
 wpList prog ops Q (o::rest) a w:=by
 have A1:f.length=m:=by have:=y.1;omega
 by_cases V:m=0
 .obtain rfl:=Dm V;subst V;obtain rfl:f=[]:=SP A1;refine wpList_plain C λK A=> ?_
  have Aj:=λty=>run_append_owned_none (P:=prog) w B 61 ty 57 Tryz.t57 1 u57 i27 (U (I g) 1 1) 1 [u] z
  unfold Oper.wp;simp[NU,L,resolve,invoke,builtin,O,T,Aj o.type,Result.andThen];exact A _ _ (F g 1 w z (Ext.rfl' w))
 .obtain⟨gx,cx,rfl,_,_⟩:=y.form OA;refine SN w C s x 61 L 57 Tryz.t57 (U NB 0 0) 1 24 u57 i27 t27z t27s t27b rfl OA (I g) 1 1 [u] O (λh=>by cases h) rfl (λb hb j w hj=>by cases hb;exact z.cells (g:=g) rfl j w hj) gx m cx f T OA (y.cells rfl) Uk OA (by simp[maxLen];omega) OA ?_;intro _ w' H Y;obtain⟨p,c,rfl,_,_⟩:=XT H OA;have e:m+1=1+m:=OA
  exact F p c w' (by rw[e];exact WX (by simpa using H) b3) (KA Y) |> λh=>by rw[e]at h;exact h
structure Ctb(a b c m:Int)(base:Option NP)(n cap:Nat)(T:List (List Int))(B sb nb yb fb kb yk:Nat)(W:J):Prop where
 hs:W.heap[sb]? =I (Z #[a,b,c,m,U base n cap] 117)
 hnb:W.heap[nb]? =I (Z #[.map (I kb)] 182)
 hyb:W.heap[yb]? =I (Z #[.map (I yk)] 181)
 hfn:W.heap[fb]? =I (Z #[.func (.func 106) #[] #[NI (I sb),NI (I nb),NI (I yb),NI (I fb)]] 183)
 rows:∃G,MapAt prog 3 W yk G/\∀i:Nat,i<n->Shr B W ((G (NE NF i)).getD (U NB 0 0)) (byL T i)
 ne:sb≠kb/\nb≠kb/\yb≠kb/\fb≠kb/\yk≠kb
 sz:B<=W.heap.size
def Ctb.step{a b c m:Int}{f:Option NP}{T:List (List Int)}{B:Nat}(h:Ctb a b c m f n cap T B sb nb yb fb kb yk W)(g:Map1 kb W W'){es:Array MapEntry}{A:Nat}(y:W.heap[kb]? =I (.map es A)):Ctb a b c m f n cap T B sb nb yb fb kb yk W':=by
 obtain⟨G,p,z⟩:=h.rows
 exact⟨(g.block _ (Z5 h.hs) h.ne.1).trans h.hs,(g.block _ (Z5 h.hnb) h.ne.2.1).trans h.hnb,(g.block _ (Z5 h.hyb) h.ne.2.2.1).trans h.hyb,(g.block _ (Z5 h.hfn) h.ne.2.2.2.1).trans h.hfn,
  ⟨G,p.keep (g.block _ p.lt h.ne.2.2.2.2),λi hi=>(z i hi).map1 g y⟩,h.ne,XC h.sz g.size⟩
def KV(w:J)(o:Obj):Map1 kb w (Go.ChangeMaps.setBlock w kb o):=
 ⟨rfl,rfl,rfl,by rw[GX];exact XA _,λk _ b=>L4 b o⟩
open Classical in
def Known.update{T:List (List Int)}{n B kb:Nat}{w:J}{G:NM->Option NM}(C:PR T)(H:∀l∈T,(∀p∈l,0<=p/\p<(n:Int))/\l.length<=9)(Y:n<=9)(h:Known T n B kb w G)(c:Nat->Bool)(V:NM)(O:Shr B w V (Zk T n 0 c)):
 ∃o y,(Instr.mapUpdate 182 (.map (I kb)) (.agg (Zs c)) V).run prog w= .ok () (Go.ChangeMaps.setBlock w kb o)/\Known T n B kb (Go.ChangeMaps.setBlock w kb o) y:=by
 obtain⟨_,z⟩:=CV c;obtain⟨_,_,g⟩:=h.isMap;obtain⟨o,F,m⟩:=h.map.update K138 u183 z V;refine⟨o,_,F,m,λb v f=> ?_⟩;split at f
 .rename_i he;cases f;have A:Zs b=Zs c:=by simpa using he
  rw[Io (N:=n) C (λl L p K=>((H l L).1 p K).2) n 0 b c (λj _ _=>fN A j OA)];exact O.map1 (KV w o) g
 .exact(h.val b v f).map1 (KV w o) g
def DV{B:Nat}{w:J}:∀{b:List NM}{c:List (List Int)},Each (λu s=>OwnI B w u s) b c->∀u∈b,u.oneCell'=NC
 |[],_,_,u,hu=>by cases hu
 |v::b,[],h,u,hu=>h.elim
 |v::b,l::c,⟨h1,h2⟩,u,hu=>by
  rcases XG.1 hu with rfl|hu
  .rcases h1.2 with⟨rfl,_⟩|⟨g,_,_,rfl,_⟩<;>rfl
  .exact DV h2 u hu
def J9(T:List (List Int)):∀(d i:Nat)(u:Nat->Bool),(Zk T d i u).length<=d
 |0,_,_=>by simp[Zk]
 |d+1,i,u=>by
  have c:∀a b:List (List Int),a.length<=d+1->b.length<=d+1->(WJ a b).length<=d+1:=λa b h _=>by unfold WJ;split<;>assumption
  have f:∀(B m:List (List Int)),m.length<=d+1->(B.foldl (ZL u (Zk T d (i+1))) m).length<=d+1:=by
   intro B
   induction B with
   |nil=>exact λm h=>h
   |cons l B g=>
    intro m h;rw[VU];refine g _ ?_;unfold ZL;split
    .exact h
    .exact c _ _ h (by rw[YP];have:=J9 T d (i+1) (by assumption);omega)
  rw[Zk];exact c _ _ (f _ _ OD) (by have:=J9 T d (i+1) u;omega)
def qo(a b c m:Int)(b2:Option NP)(n cap:Nat)(T:List (List Int))(B sb nb yb fb kb yk:Nat)(hn:n<=9)(hT:PR T)(Us:T.length<=1000000)(Mw:∀l∈T,(∀p∈l,0<=p/\p<n)/\l.length<=9):
 ∀(d A:Nat)(f:Nat->Bool)(W:J)(G:NM->Option NM),A+d=n->Ctb a b c m b2 n cap T B sb nb yb fb kb yk W->Known T n B kb W G->
 NW prog 106 #[A,.agg (Zs f),NI (I sb),NI (I nb),NI (I yb),NI (I fb)] W λe W'=>∃v G',e= .returned v/\Shr B W' v (Zk T d A f)/\Known T n B kb W' G'/\Map1 kb W W':=by
 intro d
 induction d with
 |zero=>
  intro A f W G hd hC hK;have hi:A=n:=OA
  subst hi;have s4:=Z0 hC.hs 4;simp only[YC,YA,YB]at s4;have A5:=Z5 hC.hs;generalize Co:Zs f=no;have c8:no.size=9:=by rw[<-Co];rfl
  go_enter fk Tryz.func106,Tryz.ntmps106;go_wp2;refine wp_scope_straight ?_;go_wp2;rw[Exit.noGoto_ret];refine VE (RR rfl _ _ _) rfl ?_;exact⟨_,G,rfl,Shr.nil _ _,hK.ext ((Ext.rfl' W).alloc _),Map1.of_ext ((Ext.rfl' W).alloc _)⟩
 |succ d ih=>
  intro A f W G hd hC hK;have s4:=Z0 hC.hs 4;simp only[YC,YA,YB]at s4;have A5:=Z5 hC.hs;have Ao:((A:Int)==(n:Int))=ND:=by simp;omega
  simp only[Zs];go_enter fk Tryz.func106,Tryz.ntmps106;go_wp2;refine wp_scope_straight ?_;go_wp2;have Br:Ext W ((W.alloc (Z (Zs f) 125)).alloc (Z (Zs f) 125)):=((Ext.rfl' W).alloc _).alloc _;have Cu:((W.alloc (Z (Zs f) 125)).alloc (Z (Zs f) 125)).heap[W.heap.size]? =I (Z (Zs f) 125):=by simp only[Z3,Z2];rw[XB OA,YZ trivial]
  have Hc:((W.alloc (Z (Zs f) 125)).alloc (Z (Zs f) 125)).heap[W.heap.size+1]? =I (Z (Zs (Xe 0 f)) 125):=by
   simp only[Z3,Z2];rw[YZ trivial];rw[KG (out:=Xe 0 f) (out':=f) (λj _=>by simp[Xe])]
  simp only[Zs]at Br Cu Hc;generalize (W.alloc _).alloc _=W1 at Br Cu Hc⊢;have d6:A<9:=OA
  go_loopw [10,27] (λ_ a4 wr=>∃i:Nat,i<=A/\a4= NE NF i/\Ext W wr/\wr.heap[W.heap.size]? =I (Z (Zs f) 125)/\wr.heap[W.heap.size+1]? =I (Z (Zs (Xe i f)) 125)) (λ_ a4 _=>A - (intOf a4).toNat)
  case atStart=>exact⟨0,XL _,rfl,Br,Cu,Hc⟩
  case round=>
   obtain⟨i,hi,rfl,hE,h0,z⟩:=hrel;clear Br Cu Hc;by_cases c5:i=A
   .subst c5;have Ut:=hK.ext hE;obtain⟨_,Gx⟩:=CV (Xe i f);have Ia:=Ut.map.lookup K138 u183 (H3 wr) Gx NC;have Ev:Zk T (d+1) i f=Zk T n 0 (Xe i f):=(by rw[ry (N:=n) hT (λl hl p hp=>((Mw l hl).1 p hp).2),hd]);have Ll:=(Map1.of_ext (kb:=kb) hE).block nb (Z5 hC.hnb) hC.ne.2.1;have n0:=Z0 (Ll.trans hC.hnb) 0;simp only[YC,YA]at n0;have y0:=Z0 z 0;have y1:=Z0 z 1;have y2:=Z0 z 2;have O:=Z0 z 3;have y4:=Z0 z 4;have y5:=Z0 z 5;have y6:=Z0 z 6;have y7:=Z0 z 7;have V:=Z0 z 8;simp only[Zs,YC,YA,YB]at y0 y1 y2 O y4 y5 y6 y7 V Ia;cases hG:G (.agg (Zs (Xe i f)))with
    |some v=>
     have hv:=Ut.val _ v hG;simp only[Zs]at hG;rw[hG]at Ia;simp only[XY,UM,Option.isSome_some]at Ia;go_wp2;rw[Exit.noGoto_ret];refine VE (RR rfl _ _ _) rfl ?_;exact⟨v,G,rfl,by rw[Ev];exact hv,Ut,Map1.of_ext hE⟩
    |none=>
     have d5:G (.agg (Zs (Xe i f)))=NB:=hG;simp only[Zs]at hG;rw[hG]at Ia;simp only[XY,Option.getD_none,Option.isSome_none]at Ia;obtain⟨_,_,Ho⟩:=hK.isMap;have Il:=hC.step (Map1.of_ext hE) Ho;obtain⟨Gy,b0,Cf⟩:=Il.rows;obtain⟨_,b4⟩:=ER i OA;have a6:=b0.lookup K3 u182 (H3 wr) b4 ND;have Am:=Cf i OA;simp only[XB (show¬(ND=NC) by decide)]at a6;generalize (Gy (NE NF i)).getD (U NB 0 0)=rv at a6 Am;obtain⟨ao,cp,rfl⟩:=Am.form;have x0:=Z0 Il.hyb 0;simp only[YC,YA]at x0;clear b0 Cf;go_wp2;refine wp_label ?_;go_wp2;have d1:(byL T i).length<=1000000:=XC (QC _ _) Us;obtain⟨wo,rfl⟩:∃wo:J,wo=wr:=⟨_,rfl⟩;clear y0 y1 y2 O y4 y5 y6 y7 V Ia a6 n0 x0;go_loopw [13,45] (λb6 a1 w2=>∃(j:Nat)(G':NM->Option NM),j<=(byL T i).length/\a1= NE NF j/\Shr B w2 b6 (((byL T i).take j).foldl (ZL f (Zk T d (i+1))) [])/\Known T n B kb w2 G'/\Map1 kb wo w2) (λ_ a1 _=>(byL T i).length - (intOf a1).toNat)
     case atStart=>exact⟨0,G,XL _,rfl,Shr.nil _ _,Ut,Map1.refl _ _⟩
     case round=>
      obtain⟨j,G',hj,rfl,K6,Sg,K⟩:=hrel;obtain⟨_,_,Qr⟩:=Ut.isMap;have Gx:=hK.map.lt;have Uu:=Il.step K Qr;have z0:=Z0 Uu.hfn 0;simp only[YC,YA]at z0;have Rv:=Z5 h0;have h7:wr.heap[W.heap.size]? =I (Z (Zs f) 125):=(K.block _ Rv OA).trans h0;have y0:=Z0 h7 0;have y1:=Z0 h7 1;have y2:=Z0 h7 2;have O:=Z0 h7 3;have y4:=Z0 h7 4;have y5:=Z0 h7 5;have y6:=Z0 h7 6;have y7:=Z0 h7 7;have V:=Z0 h7 8;simp only[Zs,YC,YA,YB]at y0 y1 y2 O y4 y5 y6 y7 V;obtain⟨H,C,rfl⟩:=K6.form;by_cases Kk:j=(byL T i).length
      .have Qs:Shr B wr (.slice H ((byL T i).foldl (ZL f (Zk T d (i+1))) []).length C) ((byL T i).foldl (ZL f (Zk T d (i+1))) []):=(by rw[Kk,TC]at K6;exact K6);have Be:=ih (i+1) f wr G' OA Uu Sg;have F0:Zk T (d+1) i f=WJ ((byL T i).foldl (ZL f (Zk T d (i+1))) []) (Zk T d (i+1) f):=rfl;rw[show((i+1:Nat):Int)=(i:Int)+1 from rfl]at Be;simp only[Zs]at Be;subst Kk;rw[TC];clear K6;generalize (byL T i).foldl (ZL f (Zk T d (i+1))) []=M at Qs F0⊢;generalize Zk T d (i+1) f=M2 at Be F0;by_cases Cq:M.length<M2.length
       .have F9:=λa3 c3 w=>JQ H M.length C a3 M2.length c3 w
        simp only[YZ Cq]at F9
        go_wp2_with (first
         |(go_at_call 106;refine Be.mono ?_;rintro e w3 ⟨v3,G3,rfl,Qt,Uv,Nt⟩
           obtain⟨a3,c3,rfl⟩:=Qt.form;obtain⟨b9,b7,Lm⟩:=Sg.isMap;have Sd:=Uu.step Nt Lm;have Uw:=Qs.map1 Nt Lm;have n3:=Z0 Sd.hnb 0;have y:w3.heap[W.heap.size+1]? =I (Z (Zs (Xe i f)) 125):=(Nt.block _ (by have:=K.size;have:=Z5 z;omega) OA).trans ((K.block _ (Z5 z) OA).trans z);have y0:=Z0 y 0;have y1:=Z0 y 1;have y2:=Z0 y 2;have O:=Z0 y 3;have y4:=Z0 y 4;have y5:=Z0 y 5;have y6:=Z0 y 6;have y7:=Z0 y 7;have V:=Z0 y 8;simp only[Zs,YC,YA,YB]at y0 y1 y2 O y4 y5 y6 y7 V n3;obtain⟨o,G4,Gb,a2⟩:=Uv.update hT Mw hn (Xe i f) (U a3 M2.length c3) (by rw[<-Ev,F0];simp only[WJ,YZ Cq];assumption);have Ux:=KV (kb:=kb) w3 o;simp only[Zs]at Gb)
         |(go_at_call 107;refine(F9 _ _ _).r λw4 P1=> ?_;subst P1))
        obtain⟨c0,b8,Qu⟩:=Uv.isMap;rw[Exit.noGoto_ret];refine VE (RR rfl _ _ _) rfl ?_;exact⟨_,G4,rfl,by rw[F0];simp only[WJ,YZ Cq];exact Qt.map1 Ux Qu,a2,((Map1.of_ext hE).trans K).trans (Nt.trans Ux)⟩
       .have F9:=λa3 c3 w=>JQ H M.length C a3 M2.length c3 w
        simp only[XB Cq]at F9
        go_wp2_with (first
         |(go_at_call 106;refine Be.mono ?_;rintro e w3 ⟨v3,G3,rfl,Qt,Uv,Nt⟩
           obtain⟨a3,c3,rfl⟩:=Qt.form;obtain⟨b9,b7,Lm⟩:=Sg.isMap;have Sd:=Uu.step Nt Lm;have Uw:=Qs.map1 Nt Lm;have n3:=Z0 Sd.hnb 0;have y:w3.heap[W.heap.size+1]? =I (Z (Zs (Xe i f)) 125):=(Nt.block _ (by have:=K.size;have:=Z5 z;omega) OA).trans ((K.block _ (Z5 z) OA).trans z);have y0:=Z0 y 0;have y1:=Z0 y 1;have y2:=Z0 y 2;have O:=Z0 y 3;have y4:=Z0 y 4;have y5:=Z0 y 5;have y6:=Z0 y 6;have y7:=Z0 y 7;have V:=Z0 y 8;simp only[Zs,YC,YA,YB]at y0 y1 y2 O y4 y5 y6 y7 V n3;obtain⟨o,G4,Gb,a2⟩:=Uv.update hT Mw hn (Xe i f) (U H M.length C) (by rw[<-Ev,F0];simp only[WJ,XB Cq];assumption);have Ux:=KV (kb:=kb) w3 o;simp only[Zs]at Gb)
         |(go_at_call 107;refine(F9 _ _ _).r λw4 P1=> ?_;subst P1))
        obtain⟨c0,b8,Qu⟩:=Uv.isMap;rw[Exit.noGoto_ret];refine VE (RR rfl _ _ _) rfl ?_;exact⟨_,G4,rfl,by rw[F0];simp only[WJ,XB Cq];exact Uw.map1 Ux Qu,a2,((Map1.of_ext hE).trans K).trans (Nt.trans Ux)⟩
      .have Dx:j<(byL T i).length:=OA;obtain⟨_,vs,b1,K7⟩:=Am.map1 K Qr;obtain⟨l,hl⟩:∃l,(byL T i)[j]? =I l:=⟨_,YH Dx⟩;obtain⟨u,hu,Gh⟩:=K7.get j l hl;have Ff:=YQ hl;obtain⟨_,_,Uy⟩:=GB hT Ff;have c4:=Mw l (UO.1 Ff).1;obtain⟨gr,cr,Uz,_,_⟩:=b1.form (by rw[K7.length];omega);obtain⟨rfl,Nv,rfl⟩:ao=I ⟨gr,0,NB⟩/\(byL T i).length=vs.length/\cp=cr:=(by simpa using Uz);have Ib:=b1.cells (g:=gr) rfl j u hu;rw[ZU]at Ib;obtain⟨gl,cl,rfl,_,_⟩:=Gh.form (by rw[Uy];simp);have Xw:((byL T i).take (j+1)).foldl (ZL f (Zk T d (i+1))) []=ZL f (Zk T d (i+1)) (((byL T i).take j).foldl (ZL f (Zk T d (i+1))) []) l:=(by rw[T4 hl,List.foldl_append];rfl);clear Uy;have d2:(0:Int)<=(j:Int):=OA;have d7:(j:Int)<((byL T i).length:Int):=OA;go_wp2;have As:Ext wr (wr.alloc (Z (Zs f) 125)):=(Ext.rfl' wr).alloc _;have h5:(wr.alloc (Z (Zs f) 125)).heap[wr.heap.size]? =I (Z (Zs f) 125):=(by rw[Z3,YZ rfl]);simp only[Zs]at As;have b3:(wr.alloc (Z #[.bool (f 0),.bool (f 1),.bool (f 2),.bool (f 3),.bool (f 4),.bool (f 5),.bool (f 6),.bool (f 7),.bool (f 8)] 125)).heap[wr.heap.size]? =I (Z (Zs f) 125):=h5
       clear h5 y0 y1 y2 O y4 y5 y6 y7 V;generalize wr.alloc _=w6 at As b3⊢;obtain⟨wq,rfl⟩:∃wq:J,wq=wr:=⟨_,rfl⟩;go_loopw [52] (λa5 w3=>∃(k:Nat)(L:Nat->Bool),k<=l.length/\a5= NE NF k/\Ext wq w3/\w3.heap[wq.heap.size]? =I (Z (Zs L) 125)/\Hid (take1 f l=take1 L (l.drop k))) (λa5 _=>l.length - (intOf a5).toNat)
       case atStart=>exact⟨0,f,XL _,rfl,As,b3,rfl⟩
       case round=>
        obtain⟨k,L,_,rfl,Y,F,Qv⟩:=hrel;by_cases a7:k=l.length
        .subst a7;have V5:take1 f l=I L:=(by rw[Qv.out,UW];rfl);have Si:=Uu.step (Map1.of_ext Y) (Sg.isMap).choose_spec.choose_spec;have Sj:=Sg.ext Y;have z6:=Z0 Si.hfn 0;simp only[YC,YA]at z6;have y0:=Z0 F 0;have y1:=Z0 F 1;have y2:=Z0 F 2;have O:=Z0 F 3;have y4:=Z0 F 4;have y5:=Z0 F 5;have y6:=Z0 F 6;have y7:=Z0 F 7;have V:=Z0 F 8;simp only[Zs,YC,YA,YB]at y0 y1 y2 O y4 y5 y6 y7 V;have Lp:=Gh.ext Y;have V6:=K6.ext Y;have c6:fb<wr.heap.size:=Z5 Si.hfn;have d0:wq.heap.size<wr.heap.size:=Z5 F;have Nw:ZL f (Zk T d (i+1)) (((byL T i).take j).foldl (ZL f (Zk T d (i+1))) []) l=WJ (((byL T i).take j).foldl (ZL f (Zk T d (i+1))) []) (l::Zk T d (i+1) L):=(by simp only[ZL,V5]);have V7:∀W8,Ext wr W8->_:=λW8 Ds=>ih (i+1) L W8 G' OA (Si.step (Map1.of_ext Ds) (Sj.isMap).choose_spec.choose_spec) (Sj.ext Ds)
         have P2:=OU wr B 57 #[U (I gl) l.length cl] 1 wr.heap.size rfl Si.sz rfl (by simp[maxLen]);rw[show((i+1:Nat):Int)=(i:Int)+1 from rfl]at V7;simp only[Zs]at V7;generalize ((byL T i).take j).foldl (ZL f (Zk T d (i+1))) []=Mp at V6 Nw Xw⊢;have Im:(Zk T d (i+1) L).length<=1000000:=XC (J9 T d (i+1) L) OA;generalize Zk T d (i+1) L=M9 at V7 Nw Im;by_cases Cq:Mp.length<M9.length+1
         .have F9:=λa3 c3 w=>JQ H Mp.length C a3 (M9.length+1) c3 w
          simp only[YZ Cq]at F9
          go_wp2_with (first
           |(go_at_call 106;refine(V7 _ OF).mono ?_;rintro e w9 ⟨v9,G9,rfl,V8,Jr,Qw⟩
             obtain⟨a9,c9,rfl⟩:=V8.form;obtain⟨Lq,a0,Va,Sl⟩:=V8;have Lr:=Sl.length;have Ls:=MV (P2:(wr.alloc (Z #[U (I gl) l.length cl] 57)).ownsRow B 57 1 _ 1 _) Qw (Sj.ext ((Ext.rfl' wr).alloc (Z #[U (I gl) l.length cl] 57))).isMap.choose_spec.choose_spec)
           |(at_builtin
             refine Cd rfl _ _ rfl B wr.heap.size _ rfl Ls (U a9 M9.length c9) M9.length a0 rfl (by rw[<-Lr];exact Lr▸Va) (λh=>Lq (SP h)) (DV Sl) Im (XC Si.sz (XC OD Qw.size)) ?_;intro g' a8 c2 Xu Fo)
           |(go_at_call 107;refine(F9 _ _ _).r λw4 P1=> ?_;subst P1))
          have Lt:Map1 kb wr w4:=((Map1.of_ext ((Ext.rfl' wr).alloc (Z #[U (I gl) l.length cl] 57))).trans Qw).trans (Map1.of_ext Fo);have Nf:=Sj.isMap.choose_spec.choose_spec;rw[Nv];refine⟨⟨_,_,_,_,_,_,_,_,_,_,_,_,_,_,_,_,_,_,_,_,_,_,_,_,_,_,_,_,_,_,_,_,⟨j+1,G9,OA,by push_cast;rfl,?_,Jr.ext Fo,(K.trans (Map1.of_ext Y)).trans Lt⟩,rfl⟩,by simp[intOf];omega⟩;rw[Xw,Nw,WJ,YZ (by simpa using Cq)];exact⟨λh=>(by cases h),_::a0,by rw[YP,Lr];exact Xu,MV Lp Lt Nf,Sl.mono λu s h=>ZT h Fo⟩
         .have F9:=λa3 c3 w=>JQ H Mp.length C a3 (M9.length+1) c3 w
          simp only[XB Cq]at F9
          go_wp2_with (first
           |(go_at_call 106;refine(V7 _ OF).mono ?_;rintro e w9 ⟨v9,G9,rfl,V8,Jr,Qw⟩
             obtain⟨a9,c9,rfl⟩:=V8.form;obtain⟨Lq,a0,Va,Sl⟩:=V8;have Lr:=Sl.length;have Ls:=MV (P2:(wr.alloc (Z #[U (I gl) l.length cl] 57)).ownsRow B 57 1 _ 1 _) Qw (Sj.ext ((Ext.rfl' wr).alloc (Z #[U (I gl) l.length cl] 57))).isMap.choose_spec.choose_spec)
           |(at_builtin
             refine Cd rfl _ _ rfl B wr.heap.size _ rfl Ls (U a9 M9.length c9) M9.length a0 rfl (by rw[<-Lr];exact Lr▸Va) (λh=>Lq (SP h)) (DV Sl) Im (XC Si.sz (XC OD Qw.size)) ?_;intro g' a8 c2 Xu Fo)
           |(go_at_call 107;refine(F9 _ _ _).r λw4 P1=> ?_;subst P1))
          have Lt:Map1 kb wr w4:=((Map1.of_ext ((Ext.rfl' wr).alloc (Z #[U (I gl) l.length cl] 57))).trans Qw).trans (Map1.of_ext Fo);have Nf:=Sj.isMap.choose_spec.choose_spec;rw[Nv];refine⟨⟨_,_,_,_,_,_,_,_,_,_,_,_,_,_,_,_,_,_,_,_,_,_,_,_,_,_,_,_,_,_,_,_,⟨j+1,G9,OA,by push_cast;rfl,?_,Jr.ext Fo,(K.trans (Map1.of_ext Y)).trans Lt⟩,rfl⟩,by simp[intOf];omega⟩;rw[Xw,Nw,WJ,XB (by simpa using Cq)];exact V6.map1 Lt Nf
        .obtain⟨p,hp⟩:∃p,l[k]? =I p:=⟨_,YH OA⟩;have Qn:=c4.1 p (YQ hp);obtain⟨q,rfl⟩:=UA Qn.1;have Qx:q<9:=OA;have El:=Gh.cells (g:=gl) rfl k (NE NF q) (by rw[List.getElem?_map,hp];rfl);rw[ZU]at El;replace El:=Y.cellS El;have Sm:=Z0 F q;rw[Oo _ q Qx]at Sm;have d8:=Z8 F q;have Xx:(0:Int)<=(k:Int):=OA;have d4:(k:Int)<(l.length:Int):=OA;have Tj:(0:Int)<=(q:Int):=OA;have c7:(q:Int)<9:=OA;have Q1:=WP hp;by_cases Xy:L q=NC
         .rw[Xy]at Sm;have Vb:take1 f l=NB:=(by rw[Qv.out,Q1,take1,YZ (by simpa using Xy)]);go_wp2;refine⟨⟨j+1,G',OA,by push_cast;rfl,?_,Sg.ext Y,K.trans (Map1.of_ext Y)⟩,by simp[intOf];omega⟩;rw[Xw];simp only[ZL,Vb];exact K6.ext Y
         .have huq':L q=ND:=(by simpa using Xy);rw[huq']at Sm;have b5:Hid (take1 f l=take1 (λj=>L j||j==q) (l.drop (k+1))):=by
           show _=_;rw[Qv.out,Q1,take1,XB (by simpa using Xy)];simp
          go_wp2;exact⟨⟨k+1,_,OA,by push_cast;rfl,Y.setCell _ _ (XA _),by rw[Zb F,EP _ q Qx],b5⟩,by simp[intOf];omega⟩
   .have Jk:i<A:=OA;have c1:=Z0 z i;rw[Oo _ i OA]at c1;have f1:=Z8 z i;have D8:(0:Int)<=(i:Int):=OA;have d9:(i:Int)<9:=OA;have d3:(i:Int)<(A:Int):=OA;go_wp2;refine⟨⟨i+1,OA,by push_cast;rfl,hE.setCell _ _ OD,(set_ne OD _).trans h0,?_⟩,by simp[intOf];omega⟩;rw[Zb z,EP _ i OA];rw[KG (out':=Xe (i+1) f)];intro j _;simp only[Xe];by_cases hj:j=i
    .subst hj;simp
    .have e1:(j==i)=ND:=(by simpa using hj);have e2:decide (j<i+1)=decide (j<i):=decide_eq_decide.2 OA;rw[e1,e2,Bool.or_false]
end Go.Proofs.Tryq
namespace Go.Nk
open Go Go.Region
open Go.Proofs.Tryq (Ext Z3 Z2)
variable {Q:Exit->NV->J->Prop}
variable {Dl:List (Option Tmp)}{S:List (Option NM)}{L0:Tmp->NM}{M:(Nat->Bool)->(Tmp->NM)->J->Prop}{o:Oper}
structure Sx where
 al:Nat
 t:Tmp
 k:Nat
 z:Array NM
 ty:NT
variable {B:List Sx}{x:Tmp->NM}
end Go.Nk
namespace Go.Proofs.Tryq
open Go Go.Nk Go.RowKit
open Go.Maps (Keyed)
open Go.ChangeMaps (setBlock)
def run_append_keep(w:J)(y:Nat)(t L e:NT)(i:TypeInfo)(z:NM)(f p:Nat)(O:P.underlying t=I (.slice e))(hi:P.info? e=I i)(hz:i.zero=I z)
 (En:i.size=f)(Ef:i.bytes=p)(Ny:z.cells.size=f)(Ba:0<f)
 (v:NM)(n:Nat)(xs:List NM)(K:w.ownsRow y e f v n xs)
 (a:NP)(m c:Nat)(h:List NM)(Y:h.length=m*f)(V:∀j u,h[j]? =I u->w.cell? (a.add j)=I u)(h1:∀u∈h,u.oneCell'=NC)
 (Fx:n+m<=maxLen)(Eh:(n+m)*p<=140737488355328)(A7:y<=w.heap.size):
 ∃C w',(Builtin.append_ #[t,t] L #[v,U (I a) m c]).run P w= .ok C w'/\w'.ownsRow y e f C (n+m) (xs++h)/\w.grownBy w' v.ownBlock/\
  ((C.ownBlock=v.ownBlock)\/∀k,C.ownBlock=I k->w.heap.size<=k):=by
 rcases K.2 with⟨rfl,rfl⟩|⟨g,cap,_,rfl,_,_,_,_,_,_⟩
 .have hx:xs=[]:=SP (by simpa using K.1);subst hx;obtain⟨C,w',H,F,A,_⟩:=run_append_own (P:=P) w w.heap.size t L e i z f p O hi hz En Ef Ny Ba (U NB 0 0) 0 [] (VJ _ _ _ _) a m c h Y V h1 Fx Eh (XA _);exact⟨C,w',H,WX F A7,A,.inr λk T=>(F.lt k T).1⟩
 .by_cases Vd:n+m<=cap
  .obtain⟨w',H,F,A⟩:=run_append_fits (P:=P) w y t L e i f O hi En g n cap xs K a m c h Y V h1 Vd;exact⟨_,w',H,F,A,.inl rfl⟩
  .obtain⟨C,w',H,F,A⟩:=run_append_arg_grows (P:=P) w t L e i z f p O hi hz En Ef Ny Ba g n cap xs K.1 (K.cells (g:=g) rfl) a m c h Y V OA Fx Eh;exact⟨C,w',H,WX F A7,⟨A.os,A.tape,A.output,A.size,λb hb _=>A.block b hb (λe=>by cases e)⟩,.inr λk T=>(F.lt k T).1⟩
def BW{o:Oper}{K:NV->J->Prop}{Q:Exit->NV->J->Prop}(s x:Operand)(t:NT)
 (ho:o.op= .call {callee:= .builtin .append,args:= #[s,x],argTypes:= #[t,t]})
 (p:Nat)(e:NT)(i:TypeInfo)(z:NM)(b g:Nat)(L:P.underlying t=I (.slice e))(hi:P.info? e=I i)(hz:i.zero=I z)
 (En:i.size=b)(H:i.bytes=g)(C:z.cells.size=b)(Ba:0<b)
 (v:NM)(n:Nat)(xs:List NM)(hs:a.eval s=v)(Ac:w.ownsRow p e b v n xs)
 (A:NP)(m c:Nat)(f:List NM)(hx:a.eval x= U (I A) m c)(hl:f.length=m*b)(D6:∀j u,f[j]? =I u->w.cell? (A.add j)=I u)(V:∀u∈f,u.oneCell'=NC)
 (Fx:n+m<=maxLen)(O:(n+m)*g<=140737488355328)(Y:p<=w.heap.size)
 (h:∀y w',w'.ownsRow p e b y (n+m) (xs++f)->w.grownBy w' v.ownBlock->((y.ownBlock=v.ownBlock)\/∀k,y.ownBlock=I k->w.heap.size<=k)->K (a.put o.dst y) w'):o.wp P a w K Q:=by
 obtain⟨y,w',hr,F,h3,T⟩:=run_append_keep (P:=P) w p t o.type e i z b g L hi hz En H C Ba v n xs Ac A m c f hl D6 V Fx O Y;unfold Oper.wp NU;simp only[ho,resolve,invoke,builtin,UH,Sem.run_pure,RZ,TD,VG,VX,hs,hx,hr];exact h y w' F h3 T
def ZO(G:NM->Option NM)(i:Nat):NM:=(G (NE NF i)).getD (U NB 0 0)
def ByAt(B B2 n yk:Nat)(D:List (List Int))(w:J):Prop:=
 ∃G:NM->Option NM,MapAt prog 3 w yk G/\(∀i:Nat,i<n->Shr B w (ZO G i) (byL D i))/\(∀i j:Nat,i<n->j<n->i≠j->(ZO G i).ownBlock=NB\/(ZO G i).ownBlock≠(ZO G j).ownBlock)/\∀i:Nat,i<n->∀k,(ZO G i).ownBlock=I k->B2<=k
def Shr.lt{B:Nat}{w:J}{v:NM}{f:List (List Int)}(h:Shr B w v f){k:Nat}(b:v.ownBlock=I k):B<=k/\k<w.heap.size:=by
 obtain⟨_,_,c,_⟩:=h;exact c.lt k b
def Shr.isCells{B:Nat}{y:List (List Int)}(h:Shr B w v y){k:Nat}(f:v.ownBlock=I k):∃c,w.heap[k]? =I (Z c 57):=by
 obtain⟨_,_,m,_⟩:=h;rcases m.2 with⟨rfl,_⟩|⟨g,_,b,rfl,_,p,_⟩
 .cases f
 .cases f;exact⟨b,p⟩
def Shr.grown{B:Nat}{f g:List (List Int)}(h:Shr B W v f)(y:Shr B W rv g)(c:W.grownBy w rv.ownBlock)(m:v.ownBlock=NB\/v.ownBlock≠rv.ownBlock):Shr B w v f:=by
 obtain⟨A,b,z,p⟩:=h;refine⟨A,b,z.kept c m,p.mono λu s b=>b.kept c ?_⟩;obtain⟨_,_,k1,_⟩:=y;exact MO b k1 OC
def OwnI.grownRow{B:Nat}{l:List Int}{b:List (List Int)}(h:OwnI B W u l)(c:Shr B W rv b)(f:W.grownBy w rv.ownBlock):OwnI B w u l:=by
 obtain⟨_,_,k1,_⟩:=c;exact World.ownsRow.kept h f (MO h k1 OC)
def ou(D:List (List Int))(l:List Int)(i:Nat):byL (D++[l]) i=if l.head? =I (i:Int)then byL D i++[l]else byL D i:=by
 unfold byL;rw[List.filter_append];by_cases h:l.head? =I (i:Int)
 .rw[YZ h,List.filter_cons_of_pos (by simpa using h),List.filter_nil]
 .rw[XB h,List.filter_cons_of_neg (by simpa using h),List.filter_nil,TB]
open Classical in
def ByAt.step{B:Nat}{D:List (List Int)}{G:NM->Option NM}(K:MapAt prog 3 W yk G)(H:∀i:Nat,i<n->Shr B W (ZO G i) (byL D i))
 (V:∀i j:Nat,i<n->j<n->i≠j->(ZO G i).ownBlock=NB\/(ZO G i).ownBlock≠(ZO G j).ownBlock)(Aw:∀i:Nat,i<n->∀k,(ZO G i).ownBlock=I k->B2<=k)(Dr:B2<=W.heap.size){l:List Int}{i:Nat}(hi:i<n)(hn:n<100)(hl:l.head? =I (i:Int)){u f:NM}{g:J}{z:List NM}
 (hu:OwnI B W u l)(Fp:W.ownsRow B 57 1 (ZO G i) z.length z)(T:Each (λu s=>OwnI B W u s) z (byL D i))
 (Ac:g.ownsRow B 57 1 f (z.length+1) (z++[u]))(C:W.grownBy g (ZO G i).ownBlock)(Lu:(f.ownBlock=(ZO G i).ownBlock)\/∀k,f.ownBlock=I k->W.heap.size<=k):
 ∃o,(Instr.mapUpdate 181 (.map (I yk)) (NE NF i) f).run prog g= .ok () (setBlock g yk o)/\ByAt B B2 n yk (D++[l]) (setBlock g yk o):=by
 have L:∀k,(ZO G i).ownBlock=I k->k≠yk:=by
  rintro k m rfl;obtain⟨c,hc⟩:=(H i hi).isCells m;obtain⟨es,ck,hb,_⟩:=K;rw[hb]at hc;cases hc
 have Y:MapAt prog 3 g yk G:=K.keep (C.block _ K.lt (λe=>L _ e.symm rfl));obtain⟨es,ck,Ho,_⟩:=Y;have Y:MapAt prog 3 g yk G:=K.keep (C.block _ K.lt (λe=>L _ e.symm rfl));obtain⟨_,Gx⟩:=ER i OA;obtain⟨o,h1,h2⟩:=Y.update K3 u182 Gx f;refine⟨o,h1,_,h2,?_,?_,?_⟩
 .have hX:=KV (kb:=yk) g o;intro j y;have A:ZO (λx=>if x=Value.int NF i then I f else G x) j=if j=i then f else ZO G j:=by
   unfold ZO;by_cases b:j=i
   .subst b;simp
   .have Ab:¬(Value.int NF (j:Int)=Value.int NF (i:Int)):=(by simp;omega);simp[b,Ab]
  rw[A,ou];by_cases b:j=i
  .subst b;rw[YZ rfl,YZ hl];have hr:=H j y;refine Shr.map1 (w:=g) ⟨λh=>by simp at h,z++[u],by simpa using Ac,Each.append (T.mono λu s h=>OwnI.grownRow h hr C) ⟨OwnI.grownRow hu hr C,trivial⟩⟩ hX Ho
  .rw[XB b,XB (by rw[hl];simp;omega)];exact((H j y).grown (H i hi) C (V j i y hi b)).map1 hX Ho
 .have A:∀j:Nat,ZO (λx=>if x=Value.int NF i then I f else G x) j=if j=i then f else ZO G j:=by
   intro j;unfold ZO;by_cases b:j=i
   .subst b;simp
   .have Ab:¬(Value.int NF (j:Int)=Value.int NF (i:Int)):=(by simp;omega);simp[b,Ab]
  intro p q hp hq P3;rw[A,A];have F:∀j,j<n->j≠i->∀k,(ZO G j).ownBlock=I k->f.ownBlock≠I k:=by
   intro j y b k m T;rcases Lu with h|h
   .rcases V j i y hi b with h'|h'
    .rw[m]at h';cases h'
    .rw[m,<-h,T]at h';exact h' rfl
   .have:=h k T;have:=((H j y).lt m).2;omega
  by_cases O:p=i
  .have Id:q≠i:=λh=>P3 (O.trans h.symm)
   rw[YZ O,XB Id];cases hv:f.ownBlock with|none=>exact .inl rfl|some k=>exact .inr λh=>F q hq Id k h.symm hv
  .rw[XB O];by_cases Id:q=i
   .rw[YZ Id];cases hv:(ZO G p).ownBlock with|none=>exact .inl rfl|some k=>exact .inr λh=>F p hp O k hv h.symm
   .rw[XB Id];exact V p q hp hq P3
 .intro j y k;have A:ZO (λx=>if x=Value.int NF i then I f else G x) j=if j=i then f else ZO G j:=by
   unfold ZO;by_cases b:j=i
   .subst b;simp
   .have Ab:¬(Value.int NF (j:Int)=Value.int NF (i:Int)):=(by simp;omega);simp[b,Ab]
  rw[A];by_cases b:j=i
  .rw[YZ b];intro m;rcases Lu with h|h
   .exact Aw i hi k (by rw[<-h];exact m)
   .exact XC Dr (h k m)
  .rw[XB b];exact Aw j y k
end Go.Proofs.Tryq
section
namespace Go.Nk
open Go Go.Region Go.Proofs.Tryq
section
def bg(k j:Nat){o q:Oper}{a:NV}{w:J}(hi:ops[k]? =I o)(m:ops[j]? =I q)(b:(decide (k<t)&&decide (j<t)&&decide (l.length<ops.size)&&Region.ready .any ops (mark ops.size l)==[k,j])=NC)(g:Region.wanted o (yielded ops a.tmps)=NC)(z:Region.wanted q (yielded ops a.tmps)=NC)
 (h:∀W,Ext w W->o.wp P a W (λc W'=>Ext W W'/\LX P ops R t (k::l) c W') FQ)(p:∀W,Ext w W->q.wp P a W (λc W'=>Ext W W'/\LX P ops R t (j::l) c W') FQ):LX P ops R t l a w:=by
 simp only[YG,XE,XU]at b;unfold LX at*;rw[show ops.size - l.length=(ops.size - (k::l).length)+1 by simp only[YP];omega];refine λW f=>⟨λy=>(by rw[y]at b;cases b.2),λi hi'=> ?_⟩
 rw[b.2]at hi';rcases XG.1 hi' with rfl|hi'
 .refine⟨λ_=> ?_,λh=>by omega⟩;unfold wpOp;simp only[hi,g,XY];exact .inl (h W f)
 .obtain rfl:i=j:=by simpa using hi'
  refine⟨λ_=> ?_,λh=>by omega⟩;unfold wpOp;simp only[m,z,XY];exact .inl (p W f)
variable {d:Nat}{pre:List Nat}
def Kv(ops:Array Oper):Nat->Nat->Nat->Bool
 |0,_,_=>ND
 |f+1,i,j=>match ops[j]? with|some o=>(ahead o).any λm=>m==i||Kv ops f i m|none=>ND
def Closed(ops:Array Oper)(b:Array Bool):Prop:=∀j o,ops[j]? =I o->b.getD j ND=NC->∀m∈ahead o,b.getD m ND=NC
def aR{b:Array Bool}(p:Closed ops b):∀(f i j:Nat)(o:Oper),ops[j]? =I o->(∀m∈ahead o,b.getD m ND=NC)->Kv ops f i j=NC->b.getD i ND=NC
 |0,_,_,_,_,_,h=>by cases h
 |f+1,i,j,o,ho,hm,h=>by
  rw[Kv,ho]at h;obtain⟨m,y,Jz⟩:=SM.1 h;have g:=hm m y;simp only[UF,XU]at Jz;rcases Jz with rfl|Jz
  .exact g
  .cases hom:ops[m]? with
   |none=>cases f<;>simp[Kv,hom]at Jz
   |some c=>exact aR p f i m c hom (p m c hom g) Jz
def CG{l:Array Bool}(h:l.getD i ND=NC):(l.setIfInBounds j NC).getD i ND=NC:=by
 simp only[Array.getD_eq_getD_getElem?,Array.getElem?_setIfInBounds]at*;split
 .split
  .rfl
  .rename_i h1 h2;subst h1;rw[Array.getElem?_eq_none OA]at h;exact h
 .exact h
def Closed.set{b:Array Bool}(F:Closed ops b){j:Nat}(z:j∈Region.ready .any ops b):Closed ops (b.setIfInBounds j NC):=by
 intro k o p g m f;by_cases e:k=j
 .subst e;obtain⟨_,_,c,y⟩:=UL.1 z;rw[p]at c;injection c with e;subst e;obtain⟨e,A,C,rfl⟩:=JV f;exact CG (y e A C)
 .have:b.getD k ND=NC:=by
   simp only[Array.getD_eq_getD_getElem?,Array.getElem?_setIfInBounds]at*;rw[XB (λh=>e h.symm)]at g;exact g
  exact CG (F k o p this m f)
def HU(ops:Array Oper)(t i:Nat):Bool:=(List.range ops.size).all λj=>decide (j<t)||Kv ops ops.size i j
def qC{b:Array Bool}(A:Closed ops b)(z:HU ops t i=NC)(hi:i∈Region.ready .any ops b)(g:j∈Region.ready .any ops b):j<t:=by
 rcases VC j t with h|h
 .exact h
 .obtain⟨_,oj,Ce,Au⟩:=UL.1 g;have h1:=YL.1 z j (YU.2 (YF.1 Ce).1);simp only[UF,XE]at h1;rcases h1 with h1|h1
  .omega
  .have h3:=aR A _ i j oj Ce (λm f=>by obtain⟨e,p,y,rfl⟩:=JV f;exact Au e p y) h1;have c:=(UL.1 hi).1;rcases VC i b.size with h'|h'
   .simp[h']at h3 c;rw[h3]at c;cases c
   .simp[Array.getElem?_eq_none h']at h3
def dM(ops:Array Oper)(l:List Nat):Bool:=(List.range ops.size).all λj=> !(mark ops.size l).getD j ND||match ops[j]? with|some o=>(ahead o).all λm=>(mark ops.size l).getD m ND|none=>NC
def pP(h:dM ops l=NC):Closed ops (mark ops.size l):=by
 intro j o c g m f;have b:=YL.1 h j (YU.2 (YF.1 c).1);rw[g,c]at b;simp only[SZ,TU]at b;exact YL.1 b m f
def Nj(a:NV):List (Nat×NM)->NV
 |[]=>a
 |(d,v)::L=>Nj (a.put (I d) v) L
def mY{c:Code}{T:Type}(L:T->List (Nat×NM))(F:T->J->Prop)(h:c.wp P (λe b w'=>e= .normal/\∃x,b=Nj a (L x)/\F x w') a w)(k:∀x w',F x w'->R .normal (Nj a (L x)) w'):c.wp P R a w:=
 Go.wp_mono h λe b w' ⟨f,x,g,m⟩=>by subst f g;exact k x w' m
end
end Go.Nk
namespace Go.Proofs.Tryq
open Go Go.Nk Go.RowKit
end Go.Proofs.Tryq
end
section
namespace Go.Nk
open Go Go.Region Go.Proofs.Tryq
structure Pre(E:J->J->Prop):Prop where
 rfl':∀w,E w w
 trans:∀{a b c},E a b->E b c->E a c
 drew:∀w,E w w.drew
structure GrE(E:J->J->Prop)(w:J) where
 W:J
 h:E w W
structure ExtX(X:Nat->Prop)(w w':J):Prop where
 size:w.heap.size<=w'.heap.size
 old:∀b,b<w.heap.size->¬X b->w'.heap[b]? =w.heap[b]?
 tape:w'.tape=w.tape
 os:w'.os=w.os
 output:w'.output=w.output
def ExtX.pre(X:Nat->Prop):Pre (ExtX X):=
 ⟨λw=>⟨XA _,λ_ _ _=>rfl,rfl,rfl,rfl⟩,λh c=>⟨XC h.size c.size,λb f g=>(c.old b (YS f h.size) g).trans (h.old b f g),c.tape.trans h.tape,c.os.trans h.os,c.output.trans h.output⟩,λw=>⟨XA _,λ_ _ _=>rfl,rfl,rfl,rfl⟩⟩
def Ext.toX(h:Ext w w')(X:Nat->Prop):ExtX X w w':=⟨h.size,λb c _=>h.old b c,h.tape,h.os,h.output⟩
def ExtX.cellS(h:ExtX X w w'){a:NP}{v:NM}(f:¬X a.block)(b:w.cell? a=I v):w'.cell? a=I v:=by
 have c:a.block<w.heap.size:=by
  unfold World.cell? at b;split at b
  .rename_i hh;exact(YF.1 hh).1
  .cases b
 simp only[World.cell?,h.old _ c f]at*;exact b
instance (X:Nat->Prop)(w:J):Nonempty (GrE (ExtX X) w):=⟨⟨w,(ExtX.pre X).rfl' w⟩⟩
def GrE.cell{X:Nat->Prop}{w:J}{a:NP}{v:NM}(c:¬X a.block)(b:w.cell? a=I v)(p:GrE (ExtX X) w):p.W.cell? a=I v:=p.h.cellS c b
section
variable {E:J->J->Prop}
def LU(P:NO)(ops:Array Oper)(R:Exit->NV->J->Prop)(E:J->J->Prop):Nat->Array Bool->NV->J->Prop
 |0,listed,a,w=>Region.ready .any ops listed=[]/\R .normal a w
 |n+1,listed,a,w=>(Region.ready .any ops listed=[]->R .normal a w)/\∀i∈Region.ready .any ops listed,
   wpOp P ops FQ i (λb W'=>E w W'/\LU P ops R E n (listed.setIfInBounds i NC) b W') a w
def wpAny_of_X:∀(n:Nat)(l:Array Bool)(a:NV)(w:J),LU P ops R E n l a w->wpAny P .any ops R n l a w
 |0,_,_,w,h=>h
 |n+1,_,_,w,h=>⟨h.1,λi hi=>OZ noFQ (λb w' c=>wpAny_of_X n _ b w' c.2) (h.2 i hi)⟩
def L5(P:NO)(o:Oper)(a:NV)(W:J)(v:NM):Prop:=match (NU a.eval o).run P W with
 | .ok (.value u) W'=>u=v/\W'=W
 | .ok .skip W'=>v=undef/\W'=W
 |_=>False
def YX(P:NO)(ops:Array Oper)(E:J->J->Prop)(w:J)(o:Oper)(v:NM)(a:NV):Prop:=
 (Region.wanted o (yielded ops a.tmps)=NC/\∀W,E w W->L5 P o a W v)\/(Region.wanted o (yielded ops a.tmps)=ND/\v=undef)
def YX.ext(b:Pre E){w W:J}{o:Oper}{v:NM}{a:NV}(h:YX P ops E w o v a)(e:E w W):YX P ops E W o v a:=
 h.imp (λh=>⟨h.1,λW' c=>h.2 W' (b.trans e c)⟩) id
def YX.kept{d:List Deferred}(c:oi.apart ops oj=NC)(h:∀g b,oi.op≠.select g b)(f:YX P ops E w oi v a):YX P ops E w oi v ({a with defers:=d}.put oj.dst u):=by
 obtain⟨_,_,b⟩:=QO c;have e1:NU ({a with defers:=d}.put oj.dst u).eval oi=NU a.eval oi:=execOp_put oi h _ oj.dst u b;have e2:=wanted_put oi ({a with defers:=d}:NV) oj.dst u b;unfold YX L5 at*;rw[e1,e2];exact f
def YX.wpOp(f:Pre E){i:Nat}{o:Oper}{v:NM}{a:NV}{w:J}(hi:ops[i]? =I o)(m:YX P ops E w o v a){K:NV->J->Prop}{R:Exit->NV->J->Prop}(h:K (a.put o.dst v) w):wpOp P ops R i K a w:=by
 unfold Go.wpOp;simp only[hi];rcases m with⟨c,g⟩|⟨c,rfl⟩
 .simp only[c,XY];refine .inl ?_;have b:=g w (f.rfl' w);unfold L5 at b;unfold Oper.wp;generalize (NU a.eval o).run P w=r at*;cases r with
  |ok n w'=>
   cases n<;>simp only at b<;>simp only[Oper.upon]
   case value u=>obtain⟨rfl,rfl⟩:=b;exact h
   case skip=>obtain⟨rfl,rfl⟩:=b;exact h
  |halt x w'=>simp only at b
 .simp only[c,YR,VF];exact h
def lm(p:Pre E){i:Nat}{oi:Oper}{v:NM}(hi:ops[i]? =I oi)(F:∀(j:Nat)(o:Oper) m b,ops[j]? =I o->o.op≠.select m b):
 ∀(n:Nat)(c:Array Bool)(a:NV)(w:J),
  (∀j oj,ops[j]? =I oj->j≠i->c.getD j NC=ND->(∀e∈oj.after,Region.binds .any e=NC->e.on≠i)->oi.apart ops oj=NC)->
  i∈Region.ready .any ops c->YX P ops E w oi v a->LU P ops R E n (c.setIfInBounds i NC) (a.put oi.dst v) w->LU P ops R E (n+1) c a w:=by
 intro n
 induction n with
 |zero=>
  intro c a w _ g z H;refine⟨λh=>(by rw[h]at g;cases g),λj A=> ?_⟩;by_cases f:j=i
  .subst f;exact z.wpOp p hi ⟨p.rfl' w,H⟩
  .have:=UV A f;rw[H.1]at this;cases this
 |succ n ih=>
  intro c a w L g z H;refine⟨λh=>(by rw[h]at g;cases g),λj A=> ?_⟩;by_cases f:j=i
  .subst f;exact z.wpOp p hi ⟨p.rfl' w,H⟩
  .obtain⟨Ec,oj,Ce,Au⟩:=UL.1 A;have T:=L j oj Ce f Ec (JW (j:=j) (UL.1 g).1 Au)
   have V:∀k y,ops[k]? =I y->k≠i->(c.setIfInBounds j NC).getD k NC=ND->
    (∀e∈y.after,Region.binds .any e=NC->e.on≠i)->oi.apart ops y=NC:=λk y Y Hb O Co=>by
    refine L k y Y Hb ?_ Co;by_cases C:j=k
    .subst C;exact Ec
    .rw[TX NC C]at O;exact O
   have h1:=H.2 j (UV A f);refine RQ (λ_ w' h3=> ?_) (LQ Ce T (λm b=>F j oj m b Ce) h1);obtain⟨⟨u,d,rfl⟩,K,h5⟩:=h3;refine⟨K,ih (c.setIfInBounds j NC) _ w' V (UV g (SJ f)) (YX.kept T (λm b=>F i oi m b hi) (z.ext p K)) ?_⟩;rw[UP _ _ f];exact h5
def LXE(P:NO)(ops:Array Oper)(R:Exit->NV->J->Prop)(E:J->J->Prop)(l:List Nat)(a:NV)(w:J):Prop:=LU P ops R E (ops.size - l.length) (mark ops.size l) a w
def DM(ops:Array Oper)(l:List Nat)(k:Nat):Bool:=decide (l.length<ops.size)&&(Region.ready .any ops (mark ops.size l)).contains k&&Region.free .any ops (mark ops.size l) k
def oG(c:Pre E){k:Nat}{o:Oper}{v:NM}{a:NV}{w:J}(p:Region.noSelect ops=NC)(hi:ops[k]? =I o)(b:DM ops l k=NC)(f:YX P ops E w o v a)(h:LXE P ops R E (k::l) (a.put o.dst v) w):LXE P ops R E l a w:=by
 unfold DM at b;simp only[YG,XE]at b;obtain⟨⟨_,m⟩,g⟩:=b;unfold LXE at*;rw[show ops.size - l.length=(ops.size - (k::l).length)+1 by simp only[YP];omega];exact lm c hi (RE p) _ _ a w (Region.free_spec hi g) (by simpa using m) f h
def MF(k:Nat){o:Oper}{a:NV}{w:J}(hi:ops[k]? =I o)(c:(decide (l.length<ops.size)&&Region.ready .any ops (mark ops.size l)==[k])=NC)(f:Region.wanted o (yielded ops a.tmps)=NC)
 (h:o.wp P a w (λg W'=>E w W'/\LXE P ops R E (k::l) g W') FQ):LXE P ops R E l a w:=by
 simp only[YG,XE,XU]at c;unfold LXE at*;rw[show ops.size - l.length=(ops.size - (k::l).length)+1 by simp only[YP];omega];refine⟨λm=>(by rw[m]at c;cases c.2),λi b=> ?_⟩;rw[c.2]at b;obtain rfl:i=k:=by simpa using b
 unfold wpOp;simp only[hi,f,XY];exact .inl h
def kv(k j:Nat){o q:Oper}{a:NV}{w:J}(hi:ops[k]? =I o)(g:ops[j]? =I q)(b:(decide (l.length<ops.size)&&Region.ready .any ops (mark ops.size l)==[k,j])=NC)(f:Region.wanted o (yielded ops a.tmps)=NC)(y:Region.wanted q (yielded ops a.tmps)=NC)
 (h:o.wp P a w (λc W'=>E w W'/\LXE P ops R E (k::l) c W') FQ)(m:q.wp P a w (λc W'=>E w W'/\LXE P ops R E (j::l) c W') FQ):LXE P ops R E l a w:=by
 simp only[YG,XE,XU]at b;unfold LXE at*;rw[show ops.size - l.length=(ops.size - (k::l).length)+1 by simp only[YP];omega];refine⟨λp=>(by rw[p]at b;cases b.2),λi hi'=> ?_⟩;rw[b.2]at hi';rcases XG.1 hi' with rfl|hi'
 .unfold wpOp;simp only[hi,f,XY];exact .inl h
 .obtain rfl:i=j:=by simpa using hi'
  unfold wpOp;simp only[g,y,XY];exact .inl m
def cO(b:(ops.size==l.length&&(Region.ready .any ops (mark ops.size l)).isEmpty)=NC)(h:R .normal a w):LXE P ops R E l a w:=by
 rw[YG,XU,QF]at b;unfold LXE;rw[show ops.size - l.length=0 by omega];exact⟨b.2,h⟩
def bR{o:Oper}(c:OW o=NC){a:NV}{C:J->Prop}{W:J}{v:NM}(b:o.quietAt P a C W v):L5 P o a W v:=by
 unfold Oper.quietAt at b;unfold L5;cases hr:(NU a.eval o).run P W with
 |ok n w'=>
  rw[hr]at b;cases n<;>simp only[Oper.quietUpon]at b
  case value u=>exact⟨b.2,b.1⟩
  case skip=>exact⟨b.2,b.1⟩
  case enter f args=>exact(bO c hr).elim
 |halt x w'=>rw[hr]at b;simp only[Oper.quietUpon]at b
def IJ(ops:Array Oper):List Nat->List Nat->Bool
 |[],_=>NC
 |k::ks,l=>DM ops l k&&(match ops[k]? with|some o=>OW o|none=>ND)&&IJ ops ks (k::l)
def pr(m:Pre E){w:J}(K:Region.noSelect ops=NC):∀(b l:List Nat)(a:NV),IJ ops b l=NC->wpQuiet P ops (λw'=>∃p:GrE E w,w'=p.W) (λg=>LXE P ops R E (doneL b l) g w) (ZR ops.toList b) a->LXE P ops R E l a w:=by
 intro b
 induction b with
 |nil=>intro l a _ h;exact h
 |cons k b C=>
  intro l a c h;simp only[IJ,YG]at c;obtain⟨⟨y,f⟩,c⟩:=c;cases hi:ops[k]? with
  |none=>rw[hi]at f;cases f
  |some o=>
   rw[hi]at f;rw[ZR,show ops.toList[k]? =I o by rw[Array.getElem?_toList];exact hi]at h;have A:qOp P ops (λw'=>∃p:GrE E w,w'=p.W) k (wpQuiet P ops (λw'=>∃p:GrE E w,w'=p.W) (λg=>LXE P ops R E (doneL (k::b) l) g w) (ZR ops.toList b)) a:=by
    unfold qOp;simp only[hi];exact h
   obtain⟨v,F,H⟩:=yieldsIn_of_qOp hi A;exact oG m K hi y (F.imp (λh=>⟨h.1,λW z=>bR f (h.2 W ⟨⟨W,z⟩,rfl⟩)⟩) id) (C _ _ c H)
def lP(c:Pre E){o:List Oper}(b:List Nat){a:NV}{w:J}(m:Region.noSelect o.toArray=NC)(f:IJ o.toArray b l=NC)(h:wpQuiet P o.toArray (λw'=>∃p:GrE E w,w'=p.W) (λg=>LXE P o.toArray R E (doneL b l) g w) (ZR o b) a):LXE P o.toArray R E l a w:=
 pr c m b l a f h
def fv(E:J->J->Prop){id:Nat}{a:NV}{w:J}(b:P.follows .mixedOrders=NC)(h:LXE P ops R E [] a w.drew):(Code.region id ops NC).wp P R a w:=by
 unfold LXE at h;exact wp_region_any b (wpAny_of_X _ _ _ _ h)
def JN{o:Oper}{K:NV->J->Prop}(h:∃W',(NU a.eval o).run P W= .ok .skip W'/\K (a.put o.dst undef) W'):o.wp P a W K FQ:=by
 obtain⟨W',b,h⟩:=h;unfold Oper.wp;rw[b];simp only[Oper.upon];exact h
end
end Go.Nk
namespace Go.Proofs.Tryq
open Go Go.Nk Go.RowKit
def Oy(h:w.grownBy w' ow)(f:∀k,ow=I k->X k):ExtX X w w':=
 ⟨h.size,λb c g=>h.block b c (λe=>g (f b e.symm)),h.tape,h.os,h.output⟩
end Go.Proofs.Tryq
end
namespace Go.Proofs.Tryq
section
open Go Go.Nk Go.RowKit
open Go.Maps (Keyed)
open Go.ChangeMaps (setBlock)
def cM(w:J){b:Nat}(f:X b)(o:Obj):ExtX X w (setBlock w b o):=
 ⟨by rw[GX];exact XA _,λk _ c=>L4 (λe=>c (by rw[e];exact f)) _,rfl,rfl,rfl⟩
def cn(a b c m:Int)(Y:Option NP)(n cap:Nat)(L:List Sf)(C:Nat->Bool)(w:J)(hG:Good a b c L)(A1:L.length=n)(hn:n<=9)(hm:2<=m/\m<=4)(hM:Meas w)(hS:RawA w Y L):
 NW prog 59 #[.agg #[a,b,c,m,U Y n cap],.agg (Zs C)] w λe w'=>∃v,e= .returned v/\Shr w.heap.size w' v (Zk (Zt a b c L n C m.toNat [] 0) n 0 C)/\Ext w w':=by
 have J0:=λW (hW:Ext w W)=>ic a b c m Y n cap L C W hG A1 hn hm (hM.ext hW) (hS.ext hW)
 have Rm:∀l∈Zt a b c L n C m.toNat [] 0,l.Pairwise (·<·)/\(∀p∈l,0<=p/\p<(n:Int))/\l.length=m.toNat:=λl hl=>by
  have:=IY a b c L n C m.toNat [] 0 l hl OD List.Pairwise.nil;exact⟨this.1,this.2.1,by simpa using this.2.2⟩
 have Us:(Zt a b c L n C m.toNat [] 0).length<=100000:=by
  refine XC (HZ a b c L n C hn m.toNat [] 0) ?_;have:m.toNat=2\/m.toNat=3\/m.toNat=4:=OA
  rcases this with h|h|h<;>rw[h]<;>decide
 have a6:PR (Zt a b c L n C m.toNat [] 0):=pk a b c L n m.toNat C;generalize Zt a b c L n C m.toNat [] 0=T at J0 Rm Us a6⊢;have Hf:= @run_makeMap prog;simp only[Zs]at J0⊢;go_enter fk Tryz.func59,Tryz.ntmps59
 go_wp2_with (
  go_at_call 105;refine(J0 _ (((((Ext.rfl' w).alloc _).alloc _).alloc _).alloc _)).mono ?_;rintro e V ⟨v,vs,rfl,Fp,K7,A2⟩
  have Ad:Ext w V:=Ext.trans (((((Ext.rfl' w).alloc _).alloc _).alloc _).alloc _) A2;have g0:V.heap[w.heap.size]? =I (Z #[a,b,c,m,U Y n cap] 117):=A2.get (by simp only[Z3,Z2];rw[XB OA,XB OA,XB OA,YZ trivial]);have g1:V.heap[w.heap.size+1]? =I (Z (Zs C) 125):=A2.get (by simp only[Z3,Z2];rw[XB OA,XB OA,YZ trivial];rfl);have g2:V.heap[w.heap.size+1+1]? =I (.map #[] 0):=A2.get (by simp only[Z3,Z2];rw[XB OA,YZ trivial]);have g3:V.heap[w.heap.size+1+1+1]? =I (Z #[.map (I (w.heap.size+1+1))] 181):=A2.get (by simp only[Z3,Z2];rw[YZ trivial]);have Dr:w.heap.size+4<=V.heap.size:=by have:=A2.size;simp only[Z2]at this;omega
  replace Fp:=WX Fp (show w.heap.size<=_ by simp only[Z2];omega);replace K7:=K7.mono λu s h=>OwnI.le h (show w.heap.size<=_ by simp only[Z2];omega)
  clear A2;obtain⟨ao,cp,rfl⟩:∃ao cp,v= U ao vs.length cp:=by
   rcases Fp.2 with⟨rfl,h⟩|⟨g,cp,_,rfl,_⟩
   .exact⟨NB,0,by rw[h]⟩
   .exact⟨_,cp,rfl⟩)
 clear J0 Hf;have Nv:=K7.length;rw[Nv]at Fp⊢;obtain⟨B,hB⟩:∃B,B=w.heap.size:=⟨_,rfl⟩;rw[<-hB]at Fp K7;have Ve:ByAt B V.heap.size n (w.heap.size+1+1) (T.take 0) V:=by
  refine⟨λ_=>NB,⟨#[],0,g2,OD,OD,OD,OD⟩,λi hi=>Shr.nil _ _,λi j _ _ _=> .inl rfl,λi hi k hk=>by cases hk⟩
 go_loopw [15] (λa1 wr=>∃j:Nat,j<=T.length/\a1= NE NF j/\Map1 (w.heap.size+1+1) V wr/\ByAt B V.heap.size n (w.heap.size+1+1) (T.take j) wr) (λa1 _=>T.length - (intOf a1).toNat)
 case atStart=>exact⟨0,XL _,rfl,Map1.refl _ _,Ve⟩
 case round=>
  obtain⟨j,_,rfl,O,a3⟩:=hrel;clear Ve;by_cases Kk:j=T.length
  .subst Kk;rw[TC]at a3;obtain⟨G,Dy,Cf,_,_⟩:=a3;have Bp:Ext w wr:=BelowX.ext O Ad OA Ad.size;have c0:=O.size;have g5:=(O.block _ (Z5 g0) OA).trans g0;have g6:=(O.block _ (Z5 g1) OA).trans g1;have g7:=(O.block _ (Z5 g3) OA).trans g3;have z0:=Z0 g6 0;have z1:=Z0 g6 1;have z2:=Z0 g6 2;have z3:=Z0 g6 3;have z4:=Z0 g6 4;have z5:=Z0 g6 5;have z6:=Z0 g6 6;have z7:=Z0 g6 7;have z8:=Z0 g6 8;simp only[Zs,YC,YA,YB]at z0 z1 z2 z3 z4 z5 z6 z7 z8
   have Cm:∀W,W=(((wr.alloc (.map #[] 0)).alloc (Z #[.map (I wr.heap.size)] 182)).alloc (Z #[.func (.func 106) #[] #[NI (I w.heap.size),NI (I ⟨wr.heap.size+1,0,NB⟩),NI (I ⟨w.heap.size+1+1+1,0,NB⟩),NI (I ⟨wr.heap.size+1+1,0,NB⟩)]] 183))->
    NW prog 106 #[NE NF 0,.agg (Zs C),NI (I w.heap.size),NI (I ⟨wr.heap.size+1,0,NB⟩),NI (I ⟨w.heap.size+1+1+1,0,NB⟩),NI (I ⟨wr.heap.size+1+1,0,NB⟩)] W λe W'=>∃v,e= .returned v/\Shr B W' v (Zk T n 0 C)/\Ext w W':=by
    intro W hW;have Bj:Ext wr W:=(by rw[hW];exact(((Ext.rfl' wr).alloc _).alloc _).alloc _);have k0:W.heap[wr.heap.size]? =I (.map #[] 0):=(by rw[hW];simp only[Z3,Z2];rw[XB OA,XB OA,YZ trivial]);have k1:W.heap[wr.heap.size+1]? =I (Z #[.map (I wr.heap.size)] 182):=(by rw[hW];simp only[Z3,Z2];rw[XB OA,YZ trivial]);have k2:W.heap[wr.heap.size+1+1]? =I (Z #[.func (.func 106) #[] #[NI (I w.heap.size),NI (I ⟨wr.heap.size+1,0,NB⟩),NI (I ⟨w.heap.size+1+1+1,0,NB⟩),NI (I ⟨wr.heap.size+1+1,0,NB⟩)]] 183):=(by rw[hW];simp only[Z3,Z2];rw[YZ trivial]);have Nf:MapAt prog 125 W wr.heap.size (λ_=>NB):=⟨#[],0,k0,OD,OD,OD,OD⟩;have Ju:=Dy.lt
    refine(qo a b c m Y n cap T B w.heap.size (wr.heap.size+1) (w.heap.size+1+1+1) (wr.heap.size+1+1) wr.heap.size (w.heap.size+1+1) hn a6 OA (λl hl=>⟨(Rm l hl).2.1,by rw[(Rm l hl).2.2];omega⟩) n 0 C W (λ_=>NB) OA
     ⟨Bj.get g5,k1,Bj.get g7,k2,⟨G,Dy.keep (Bj.old _ Ju),λi hi=>(Cf i hi).ext Bj⟩,⟨OA,OA,OA,OA,OA⟩,by have:=Bj.size;omega⟩ ⟨Nf,λ_ v hv=>by cases hv⟩).mono ?_
    rintro e W' ⟨v,_,rfl,b7,_,b0⟩;exact⟨v,rfl,b7,BelowX.ext b0 (Bp.trans Bj) Bp.size (Bp.trans Bj).size⟩
   simp only[Zs]at Cm;have Hf:= @run_makeMap prog;clear O Cf Dy;have b5:=Z5 g6;have Ri:∀(o1 o2 o3:Obj)(k:Nat),(((wr.alloc o1).alloc o2).alloc o3).cell? ⟨w.heap.size+1,k,NB⟩=wr.cell? ⟨w.heap.size+1,k,NB⟩:=λo1 o2 o3 k=>((((Ext.rfl' wr).alloc o1).alloc o2).alloc o3).cell b5
   go_wp2_with (
    go_at_call 106;refine(Cm _ rfl).mono ?_;rintro e _ ⟨v,rfl,b1,As⟩)
   go_ret;exact⟨v,rfl,by rw[<-hB];exact b1,As⟩
  .have Dx:j<T.length:=OA
   have c1:j<vs.length:=OA
   obtain⟨l,hl⟩:∃l,T[j]? =I l:=⟨_,YH Dx⟩;obtain⟨u,hu,Gh⟩:=K7.get j l hl;obtain⟨_,Cp,Ox⟩:=Rm l (YQ hl);obtain⟨gr,cr,Uz,_,Nu⟩:=Fp.form OA;obtain⟨rfl,rfl⟩:ao=I ⟨gr,0,NB⟩/\cp=cr:=by simpa using Uz
   have Ib:=Fp.cells (g:=gr) rfl j u hu;rw[ZU]at Ib;obtain⟨y,cl,rfl,_,Lo⟩:=Gh.form OA;obtain⟨p,hp⟩:∃p,l[0]? =I p:=⟨_,YH OA⟩;have Qn:=Cp p (YQ hp);obtain⟨i,rfl⟩:=UA Qn.1;have Nr:=Gh.cells (g:=y) rfl 0 (NE NF i) (by rw[List.getElem?_map,hp];rfl);rw[ZU]at Nr;have Ao:i<n:=OA
   obtain⟨_,_,_⟩:∃es ck,V.heap[w.heap.size+1+1]? =I (.map es ck):=⟨_,_,g2⟩;have a7:gr≠w.heap.size+1+1:=by
    rintro rfl;obtain⟨_,⟨h,_⟩|⟨_,_,_,h,_,hc,_⟩⟩:=Fp
    .cases h
    .cases h;rw[g2]at hc;cases hc
   have Vg:y≠w.heap.size+1+1:=by
    rintro rfl;obtain⟨_,⟨h,_⟩|⟨_,_,_,h,_,hc,_⟩⟩:=Gh
    .cases h
    .cases h;rw[g2]at hc;cases hc
   have J1:∀(q:NP),q.block<V.heap.size->q.block≠w.heap.size+1+1->wr.cell? q=V.cell? q:=λq h1 h2=>by simp only[World.cell?,O.block _ h1 h2]
   replace Ib:=(J1 ⟨gr,j,NB⟩ Nu a7).trans Ib;have b3:wr.drew.cell? ⟨y,0,NB⟩=I (NE NF i):=(J1 y Lo Vg).trans Nr;have b8:wr.drew.cell? ⟨w.heap.size+1+1+1,0,NB⟩=I (.map (I (w.heap.size+1+1))):=(J1 ⟨w.heap.size+1+1+1,0,NB⟩ (Z5 g3) OD).trans (by rw[Z0 g3];rfl);obtain⟨G,Dy,Cf,De,C2⟩:=a3;have Am:=Cf i Ao;obtain⟨K,H,Qy⟩:=Am.form;obtain⟨Fk,F,Qz,a9⟩:=Am;rw[Qy]at Qz Fk;have Fi:=a9.length;have Vh:wr.drew.ownsRow B 57 1 (.slice K (byL (T.take j) i).length H) F.length F:=ZT Qz ((Ext.rfl' wr).drew);have P4:wr.drew.ownsRow B 57 1 (.slice K (byL (T.take j) i).length H) (byL (T.take j) i).length F:=by have h:=Vh;rw[Fi]at h;exact h
   have P5:∀W,W=wr.drew\/W=wr.drew.alloc (Z #[U (I y) l.length cl] 57)->(Instr.lookup 181 (.map (I (w.heap.size+1+1))) (NE NF i) ND).run prog W= .ok (.slice K (byL (T.take j) i).length H) W:=by
    intro W hW;obtain⟨_,Gx⟩:=ER i OA;have Hd:MapAt prog 3 W (w.heap.size+1+1) G:=by
     rcases hW with rfl|rfl
     .exact Dy.keep rfl
     .exact Dy.keep (((Ext.rfl' wr).drew.alloc _).old _ Dy.lt)
    have:=Hd.lookup K3 u182 (H3 W) Gx ND;rw[XB OC]at this;rw[this];exact RJ (λv=>Result.ok v W) Qy
   have Vi:B<=(wr.drew.alloc (Z #[U (I y) l.length cl] 57)).heap.size:=by simp only[Z2];have:=O.size;have:wr.drew.heap.size=wr.heap.size:=rfl;omega
   have b6:(byL (T.take j) i).length<=100000:=XC (QC _ _) (by rw[VN];omega);obtain⟨A,hA⟩:∃A:NM->J->Prop,A=λv f=>f.ownsRow B 57 1 v (F.length+1) (F++[U (I y) l.length cl])/\(wr.drew.alloc (Z #[U (I y) l.length cl] 57)).grownBy f (Value.ownBlock (.slice K (byL (T.take j) i).length H))/\((v.ownBlock=Value.ownBlock (.slice K (byL (T.take j) i).length H))\/∀k,v.ownBlock=I k->(wr.drew.alloc (Z #[U (I y) l.length cl] 57)).heap.size<=k):=⟨_,rfl⟩
   have a2:∀v f,A v f->f.ownsRow B 57 1 v (F.length+1) (F++[U (I y) l.length cl])/\(wr.drew.alloc (Z #[U (I y) l.length cl] 57)).grownBy f (Value.ownBlock (.slice K (byL (T.take j) i).length H))/\((v.ownBlock=Value.ownBlock (.slice K (byL (T.take j) i).length H))\/∀k,v.ownBlock=I k->(wr.drew.alloc (Z #[U (I y) l.length cl] 57)).heap.size<=k):=λv f h=>by rw[hA]at h;exact h
   have a4:∀v f,f.ownsRow B 57 1 v (F.length+1) (F++[U (I y) l.length cl])/\(wr.drew.alloc (Z #[U (I y) l.length cl] 57)).grownBy f (Value.ownBlock (.slice K (byL (T.take j) i).length H))/\((v.ownBlock=Value.ownBlock (.slice K (byL (T.take j) i).length H))\/∀k,v.ownBlock=I k->(wr.drew.alloc (Z #[U (I y) l.length cl] 57)).heap.size<=k)->A v f:=λv f h=>by rw[hA];exact h
   clear hA;have Vj:∀v f,A v f->∀k,k<V.heap.size->f.heap[k]? =wr.heap[k]? :=by
    intro v f h k hk;obtain⟨_,hg,_⟩:=a2 v f h;rw[hg.block k (by simp only[Z2];have:=O.size;have:wr.drew.heap.size=wr.heap.size:=rfl;omega) (λe=>by have:=C2 i Ao k (by rw[Qy];exact e.symm);omega)];rw[Z3,XB (by have:=O.size;have:wr.drew.heap.size=wr.heap.size:=rfl;omega)];rfl
   have Ah:∀v f,A v f->∃o,(Instr.mapUpdate 181 (.map (I (w.heap.size+1+1))) (NE NF i) v).run prog f= .ok () (setBlock f (w.heap.size+1+1) o)/\ByAt B V.heap.size n (w.heap.size+1+1) (T.take (j+1)) (setBlock f (w.heap.size+1+1) o):=by
    intro v f h;obtain⟨h1,h2,h3⟩:=a2 v f h;rw[T4 hl];have So:Ext wr (wr.drew.alloc (Z #[U (I y) l.length cl] 57)):=(Ext.rfl' wr).drew.alloc _
    exact ByAt.step (W:=wr.drew.alloc (Z #[U (I y) l.length cl] 57)) (G:=G) (Dy.keep (So.old _ Dy.lt)) (λq hq=>(Cf q hq).ext So) De C2 (XC O.size So.size) Ao OA (by rw[List.head?_eq_getElem?];exact hp)
     (ZT (MV Gh O g2) So) (by rw[Qy];exact ZT Qz So) (a9.mono λu s h=>ZT h So) h1 (by rw[Qy];exact h2) (by rw[Qy];exact h3)
   have Mv:¬((l.length:Int)<=0):=OA
   have b9:¬l=[]:=by rintro rfl;simp at Mv
   clear Ox;clear J1;go_wp2_with fail;refine mY (T:=NM×J×Obj) (λz=>[(19,.map (I (w.heap.size+1+1))),(20,U (I y) l.length cl),(21,NI (I y)),(22,NE NF i),(23,.map (I (w.heap.size+1+1))),(24,U (I y) l.length cl),(25,NI (I y)),(26,NE NF i),(27,.slice K (byL (T.take j) i).length H),(28,U (I y) l.length cl),(29,U (I wr.drew.heap.size) 1 1),(30,z.1)]) (λz W=>A z.1 z.2.1/\W=setBlock z.2.1 (w.heap.size+1+1) z.2.2/\ByAt B V.heap.size n (w.heap.size+1+1) (T.take (j+1)) (setBlock z.2.1 (w.heap.size+1+1) z.2.2)) ?_ ?_
   .refine fv (ExtX λq=>wr.heap.size<=q\/Value.ownBlock (.slice K (byL (T.take j) i).length H)=I q\/q=w.heap.size+1+1) OB ?_;have b4:=((Ext.rfl' wr).drew).cellS b8;have b2:=((Ext.rfl' wr).drew).cellS b3;have a0:∀k,Value.ownBlock (.slice K (byL (T.take j) i).length H)=I k->V.heap.size<=k:=λk hk=>C2 i Ao k (by rw[Qy];exact hk)
    have c2:=Z5 g3;have a8:¬(wr.heap.size<=w.heap.size+1+1+1\/Value.ownBlock (.slice K (byL (T.take j) i).length H)=I (w.heap.size+1+1+1)\/w.heap.size+1+1+1=w.heap.size+1+1):=by
     rintro(h|h|h)
     .have:=O.size;omega
     .have:=a0 _ h;omega
     .omega
    have a5:¬(wr.heap.size<=y\/Value.ownBlock (.slice K (byL (T.take j) i).length H)=I y\/y=w.heap.size+1+1):=by
     rintro(h|h|h)
     .have:=O.size;omega
     .have:=a0 _ h;omega
     .exact Vg h
    have gy:=GrE.cell (X:=λq=>wr.heap.size<=q\/Value.ownBlock (.slice K (byL (T.take j) i).length H)=I q\/q=w.heap.size+1+1) a8 b4;have gz:=GrE.cell (X:=λq=>wr.heap.size<=q\/Value.ownBlock (.slice K (byL (T.take j) i).length H)=I q\/q=w.heap.size+1+1) a5 b2;clear a8 a5 a0;refine lP (ExtX.pre _) [0,1,2,3,4,5,6,7,9] OB OB ?_;simp only[ZR,YB,YA,YK,YJ]
    repeat (go_big_quiet_step (fail))
    refine XI ?_;clear gy gz;refine kv 8 10 rfl rfl OB rfl rfl ?_ ?_
    .refine Ye ⟨.slice K (byL (T.take j) i).length H,wr.drew,by have Ia:=P5 (wr.drew) (.inl rfl);simp[go_sem,NU,Act.eval,Ia],Go.Nk.Ext.toX (Ext.rfl' _) _,?_⟩;go_simp;refine MF 10 rfl OB rfl ?_;refine Ye ⟨U (I wr.drew.heap.size) 1 1,wr.drew.alloc (Z #[U (I y) l.length cl] 57),OE,Go.Nk.Ext.toX ((Ext.rfl' _).alloc _) _,?_⟩;go_simp;refine MF 11 rfl OB rfl ?_;refine BW _ _ 61 rfl B 57 Tryz.t57 (U NB 0 0) 1 24 u57 i27 t27z t27s t27b rfl OA (.slice K (byL (T.take j) i).length H) (byL (T.take j) i).length F rfl (P4.alloc _) wr.drew.heap.size 1 1 [U (I y) l.length cl] rfl rfl (WU _ _ _) (by intro u hu;rw[XP.1 hu];rfl) (by simp[maxLen];omega) OA Vi (λv' f Ae Lv R0=>⟨Oy Lv (λk hk=> .inr (.inl hk)),?_⟩);have Vk:=a4 v' f ⟨by rw[Fi];exact Ae,Lv,R0⟩;obtain⟨o,Gb,Ef⟩:=Ah v' f Vk;go_simp;refine MF 12 rfl OB rfl (JN ⟨setBlock f (w.heap.size+1+1) o,by simp[go_sem,NU,Act.eval,Gb],cM f (.inr (.inr rfl)) o,?_⟩);go_simp;refine cO OB ?_;exact⟨rfl,v',(by simp only[Nj,Act.put];go_simp),f,Vk,o,rfl,(by rw[hB]at Ef;exact Ef)⟩
    .refine Ye ⟨U (I wr.drew.heap.size) 1 1,wr.drew.alloc (Z #[U (I y) l.length cl] 57),OE,Go.Nk.Ext.toX ((Ext.rfl' _).alloc _) _,?_⟩;go_simp;refine MF 8 rfl OB rfl ?_;refine Ye ⟨.slice K (byL (T.take j) i).length H,wr.drew.alloc (Z #[U (I y) l.length cl] 57),by have Ia:=P5 (wr.drew.alloc (Z #[U (I y) l.length cl] 57)) (.inr rfl);simp only[World.alloc_drew]at Ia;simp[go_sem,NU,Act.eval,Ia],Go.Nk.Ext.toX (Ext.rfl' _) _,?_⟩;go_simp;refine MF 11 rfl OB rfl ?_;refine BW _ _ 61 rfl B 57 Tryz.t57 (U NB 0 0) 1 24 u57 i27 t27z t27s t27b rfl OA (.slice K (byL (T.take j) i).length H) (byL (T.take j) i).length F rfl (P4.alloc _) wr.drew.heap.size 1 1 [U (I y) l.length cl] rfl rfl (WU _ _ _) (by intro u hu;rw[XP.1 hu];rfl) (by simp[maxLen];omega) OA Vi (λv' f Ae Lv R0=>⟨Oy Lv (λk hk=> .inr (.inl hk)),?_⟩);have Vk:=a4 v' f ⟨by rw[Fi];exact Ae,Lv,R0⟩;obtain⟨o,Gb,Ef⟩:=Ah v' f Vk;go_simp;refine MF 12 rfl OB rfl (JN ⟨setBlock f (w.heap.size+1+1) o,by simp[go_sem,NU,Act.eval,Gb],cM f (.inr (.inr rfl)) o,?_⟩)
     go_simp;refine cO OB ?_;exact⟨rfl,v',(by simp only[Nj,Act.put];go_simp),f,Vk,o,rfl,(by rw[hB]at Ef;exact Ef)⟩
   .rintro⟨v9,w9,o9⟩ W ⟨Vl,P6,R1⟩;simp only at Vl P6 R1;simp only[Nj,Act.put];replace P6:Hid (W=setBlock w9 (w.heap.size+1+1) o9):=P6;go_simp;replace P6:=P6.out;have Vm:Map1 (w.heap.size+1+1) V W:=by
     obtain⟨_,k1,_⟩:=a2 _ _ Vl;rw[P6];have H6:=k1.size;simp only[Z2]at H6;have Q1:wr.drew.heap.size=wr.heap.size:=rfl;exact⟨k1.os.trans O.os,k1.tape.trans O.tape,k1.output.trans O.output,by rw[GX];have:=O.size;omega,λk hk Ab=>(L4 Ab _).trans ((Vj _ _ Vl k hk).trans (O.block k hk Ab))⟩
    rw[<-P6]at R1;clear P6;go_wp2;exact⟨⟨j+1,OA,by push_cast;rfl,Vm,R1⟩,by simp[intOf];omega⟩
end
section
open Go Go.Nk Go.RowKit
def dY{b:Nat}{x:Int}(h:w.heap[b]? =I (Z #[x] 3)):RawI w (I b) [x]:=by
 intro i y c
 match i,c with
 |0,c=>
  obtain rfl:=YT c;exact⟨b,0,rfl,Z5 h,by rw[Z0 h];rfl⟩
def Ml(a b c m:Int)(L:List Sf)(k:Int):Int:=if Zo a b c m L [k]=0 then(Zk (Zt a b c L L.length (λj=>j==k.toNat) m.toNat [] 0) L.length 0 (λj=>j==k.toNat)).length else 0
def qw(a b c m:Int)(g:Option NP)(n cap:Nat)(L:List Sf)(k:Int)(w:J)(C:L.length=n)(hn:n<=20)(T:Meas w)(Y:RawA w g L):
 NW prog 24 #[.agg #[a,b,c,m,U g n cap],k] w (OI (.tuple #[NE NF (Ml a b c m L k),NE NF (Zo a b c m L [k])]) w):=by
 have A:=λW p ad hl=>J7 a b c m g n cap L ad 1 1 [k] W C hn rfl OA (T.ext p) (Y.ext p) hl
 by_cases h:Zo a b c m L [k]=0
 .obtain⟨hG,Ao,Q3,hm⟩:=IM h;have V:=Ao k OD;obtain⟨q,rfl⟩:=UA V.1;have hq:q<9:=OA
  have Tj:(0:Int)<=(q:Int):=OA
  have Qx:(q:Int)<9:=OA
  have z:Ml a b c m L q=(Zk (Zt a b c L n (λj=>j==q) m.toNat [] 0) n 0 (λj=>j==q)).length:=by rw[Ml,YZ h,C,US]
  have F:=λW p=>cn a b c m g n cap L (λj=>j==q) W hG C OA hm (T.ext p) (Y.ext p)
  rw[h]at A⊢;rw[z];generalize Zk (Zt a b c L n (λj=>j==q) m.toNat [] 0) n 0 (λj=>j==q)=Bs at F⊢;simp only[Zs]at F;clear z h V Ao;have H:q=3\/q=0\/q=1\/q=2\/q=4\/q=5\/q=6\/q=7\/q=8:=OA
  clear hq Tj Qx;rcases H with rfl|rfl|rfl|rfl|rfl|rfl|rfl|rfl|rfl
  all_goals
   go_enter fk Tryz.func24,Tryz.ntmps24
   go_wp2_with (first
    |(go_at_call 55;refine(A _ OF _ (dY (by simp only[Z3,Z2];exact YZ trivial))).r λO K=> ?_
      have y:Ext w O:=Ext.trans OF K)
    |(go_at_call 59;refine(F _ (by(repeat (with_reducible first|assumption|exact Ext.rfl' _|apply Ext.alloc|apply Ext.drew|exact Ext.setCell OF _ _ (by simp only[Z2];have:=y.size;omega))))).mono ?_;rintro e _ ⟨v,rfl,Vn,Ag⟩
      obtain⟨_,_,rfl⟩:=Vn.form))
   go_ret2;exact⟨rfl,((y.alloc _).alloc _).trans Ag⟩
 .have z:Ml a b c m L k=0:=by rw[Ml,XB h]
  have Ab:(Zo a b c m L [k] !=0)=NC:=by simpa using h
  rw[z];generalize Zo a b c m L [k]=f at A Ab⊢;go_enter fk Tryz.func24,Tryz.ntmps24
  go_wp2_with (
   go_at_call 55;refine(A _ OF _ (dY (by simp only[Z3,Z2];exact YZ trivial))).r λO K=> ?_
   have y:Ext w O:=Ext.trans OF K)
  go_ret2;exact⟨rfl,y.alloc _⟩
end
end Go.Proofs.Tryq
