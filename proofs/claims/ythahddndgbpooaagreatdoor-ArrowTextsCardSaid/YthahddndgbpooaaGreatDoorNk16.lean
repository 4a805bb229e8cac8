import Derived.Test.YthahddndgbpooaaGreatDoorNk15
import Derived.Stop.RegionWithIn
set_option linter.all false
set_option maxRecDepth 100000
set_option maxHeartbeats 8000000
open Go
open Option renaming some->J,none->NB
open Go.Value renaming slice->U,pointer->NI,int->NE,agg->NJ
open Go.Obj renaming cells->Z
open Go.Proofs.Tryp renaming prog->I
open Go renaming World->NL,Calls->NW,Value->NM
open Go.IntKind renaming i64->NF
open Go.Ending renaming returned->NK
open Bool renaming false->ND,true->NC
variable {a c m r0 r1 r2 r3 y:Int}{B x:List UInt8}{b b0 cp f g n off:Nat}{out out':Nat->Bool}{v:NM}{w w':NL}
namespace Go.Proofs.Tryp
section
open Go.Lib
def Kd(n:Nat):decDigits n=if n<10 then[UInt8.ofNat (48+n)]else decDigits (n / 10)++[UInt8.ofNat (48+n % 10)]:=by
 rw[decDigits];split<;>rfl
def Po(b:UInt8):Prop:=48<=b.toNat/\b.toNat<=57
def dec_len:∀(k n:Nat),n<10 ^ (k+1)->(decDigits n).length<=k+1
 |0,n,h=>by
  rw[Kd,YZ OA];simp
 |k+1,n,h=>by
  rw[Kd];split
  .simp
  .have:=dec_len k (n / 10) (by rw[Nat.pow_succ]at h;omega);simp only[XH,YP,XW];omega
end
section
open Go.Nk Go.RowKit Go.Shelf Go.Proofs Go.Proofs.Tryq
attribute [local instance] k3
def lM(l p:List UInt8)(w:NL):NW I 158 #[str l,str p] w (OJ (.tuple #[str (Lib.trimPrefix l p),.bool (Lib.hasPrefix l p)]) w):=by
 have h:=Any.strings_CutPrefix lCp ⟨l.toArray⟩ ⟨p.toArray⟩ w;exact h
def mw(l:List UInt8)(n:Int)(w:NL)(d:l.length<=18)(h:Lib.atoi l=J n):NW I 160 #[str l] w (OI (.tuple #[n,.nilIface]) w):=by
 refine(Any.strconv_Atoi lA ⟨l.toArray⟩ n (by show l.toArray.size<=18;simpa using d) h w).mono λe w' ⟨i,t,j⟩=>⟨i,?_⟩
 subst j;exact aD w _ _
def pT(l:List UInt8)(w:NL)(i:0<l.length)(o:l.length<=1000):NW I 159 #[str l,.string ⟨#[48,49,50,51,52,53,54,55,56,57]⟩] w (OI (str (Lib.trimS l [48,49,50,51,52,53,54,55,56,57])) w):=by
 refine(Any.strings_Trim_set lT (by intro w;kernel_rfl) OB ⟨l.toArray⟩ ⟨#[48,49,50,51,52,53,54,55,56,57]⟩ w OC (by show 0<l.toArray.size;simpa using i) (by show l.toArray.size<=_;simp;omega) OC ?_).mono λe w' ⟨d,q,e⟩=>⟨d,?_⟩
 .intro j b hb;have:∀b∈([48,49,50,51,52,53,54,55,56,57]:List UInt8),b.toNat<128:=OC
  exact this b (YQ hb)
 .subst e;have h:=((Ext.rfl' w).alloc (Z (Lib.setCells [48,49,50,51,52,53,54,55,56,57]) (ren.t 116))).alloc (Z (Lib.setCells [48,49,50,51,52,53,54,55,56,57]) (ren.t 116));exact⟨h.size,h.old,h.tape,h.os,h.output⟩
def MaxL(w:NL):Prop:=∃m:Int,w.cell? ⟨7,0,NB⟩=J (NE NF m)
def MaxL.ext(h:MaxL w)(e:Ext w w'):MaxL w':=h.imp λ_ h=>e.cellS h
def rl(l p:List UInt8)(w:NL)(j:l.length<=100000)(d:MaxL w):NW I 157 #[str l,str p] w (OI (.tuple #[str (Lib.cut l p).1,str (Lib.cut l p).2.1,.bool (Lib.cut l p).2.2]) w):=by
 obtain⟨m,d⟩:=d;refine(Any.strings_Cut lC ⟨l.toArray⟩ ⟨p.toArray⟩ m w (by show l.toArray.size<_;simp;omega) d).mono λe w' ⟨h,q,i⟩=>⟨h,?_⟩
 subst i;exact⟨XA _,λ_ _=>rfl,rfl,rfl,rfl⟩
def u57:Tryp.prog.underlying 57=J (.slice 3):=(underlying_eq 57).trans Tryz.underlying57
def ErrF(w:NL):Prop:=∃t v,w.cell? ⟨3,0,NB⟩=J (.iface t v)
def ErrF.ext(h:ErrF w)(e:Ext w w'):ErrF w':=h.imp λ_ h=>h.imp λ_ h=>e.cellS h
end
section
open Go.Lib
def ky{b:UInt8}(h:Po b):([48,49,50,51,52,53,54,55,56,57]:List UInt8).contains b=NC:=by
 have d:b.toNat=48\/b.toNat=49\/b.toNat=50\/b.toNat=51\/b.toNat=52\/b.toNat=53\/b.toNat=54\/b.toNat=55\/b.toNat=56\/b.toNat=57:=by unfold Po at h;omega
 rcases d with h|h|h|h|h|h|h|h|h|h<;>(rw[<-UInt8.ofNat_toNat (x:=b),h];decide)
def cU{p:UInt8->Bool}:∀{l:List UInt8},(∀b∈l,p b=NC)->l.dropWhile p=[]
 |[],_=>rfl
 |b::l,h=>by
  rw[List.dropWhile_cons,YZ (h b YY)];exact cU λc d=>h c (YW _ d)
def nB{l:List UInt8}(h:∀b∈l,Po b):trimS l [48,49,50,51,52,53,54,55,56,57]=[]:=by
 unfold trimS trimRightS trimLeftS;rw[cU (l:=l.reverse) λb d=>ky (h b (List.mem_reverse.1 d))];rfl
def qX(c:UInt8)(t:List UInt8):∀l:List UInt8,c∉l->index l (c::t)= -1
 |[],_=>rfl
 |b::l,h=>by
  simp only[XG,not_or]at h;have d:(c==b)=ND:=by rw[XQ];exact h.1
  unfold index;rw[qX c t l h.2];simp[List.isPrefixOf,d]
def pre_self:∀t q:List UInt8,t.isPrefixOf (t++q)=NC
 |[],_=>by simp
 |b::t,q=>by simp[List.isPrefixOf,pre_self t q]
def CI(c:UInt8)(t q:List UInt8):∀p:List UInt8,c∉p->index (p++(c::t++q)) (c::t)=p.length
 |[],_=>by
  show index (c::(t++q)) (c::t)=0;unfold index;rw[YZ];simp[List.isPrefixOf,pre_self t q]
 |b::p,h=>by
  simp only[XG,not_or]at h;have e:(c==b)=ND:=by rw[XQ];exact h.1
  have d:=CI c t q p h.2;show index (b::(p++(c::t++q))) (c::t)=_;unfold index;rw[d,XB (by simp[List.isPrefixOf,e]),XB (by first|simp;done|simp;omega)];simp
def Kf(x y:List UInt8)(r:List (List UInt8)):[32].intercalate (x::y::r)=x++([32]++[32].intercalate (y::r)):=by
 show join (x::y::r) [32]=x++([32]++join (y::r) [32]);rw[join_cons,join_cons];simp[joinTail]
def JM(x:List UInt8):[32].intercalate [x]=x:=by simp[List.intercalate]
def count_ic:∀(x:List UInt8)(l:List (List UInt8)),(∀y∈x::l,32∉y)->([32].intercalate (x::l)).count 32=l.length
 |x,[],h=>by
  rw[JM];exact List.count_eq_zero.2 (h x YY)
 |x,y::l,h=>by
  rw[Kf,List.count_append,List.count_append,count_ic y l λz d=>h z (YW _ d),(List.count_eq_zero (l:=x)).2 (h x YY)];simp;omega
def split_ic:∀(x:List UInt8)(l:List (List UInt8)),(∀y∈x::l,32∉y)->splitK [32] 0 l.length ([32].intercalate (x::l))=x::l
 |x,[],h=>by
  rw[JM];rfl
 |x,y::l,h=>by
  have d:=split_ic y l λz e=>h z (YW _ e)
  have e:=CI 32 [] ([32].intercalate (y::l)) x (h x YY);rw[Kf];rw[show(32::[]++[32].intercalate (y::l):List UInt8)=[32]++[32].intercalate (y::l)from rfl]at e;show splitK [32] 0 (l.length+1) _=_;unfold splitK;rw[e,XB (by first|simp;done|simp;omega)];have e2:(x++([32]++[32].intercalate (y::l))).drop (((x.length:Nat):Int).toNat+[(32:UInt8)].length)=[32].intercalate (y::l):=by
   rw[show((x.length:Nat):Int).toNat+[(32:UInt8)].length=x.length+1 from rfl,<-List.drop_drop,List.drop_left];rfl
  rw[e2,d];simp
def lE(x:List UInt8)(l:List (List UInt8))(h:∀y∈x::l,32∉y):count ([32].intercalate (x::l)) [32]=l.length/\split ([32].intercalate (x::l)) [32]=x::l:=by
 have d:count ([32].intercalate (x::l)) [32]=l.length:=by rw[count_one,count_ic x l h]
 exact⟨d,by rw[split,d,split_ic x l h]⟩
def AN(c:UInt8):∀l:List UInt8,c∉l->indexByte l c= -1
 |[],_=>rfl
 |b::l,h=>by
  simp only[XG,not_or]at h;have d:(b==c)=ND:=by rw[XQ];exact λe=>h.1 e.symm
  unfold indexByte;rw[AN c l h.2,d];rfl
def cK(c:UInt8)(q:List UInt8):∀p:List UInt8,c∉p->indexByte (p++c::q) c=p.length
 |[],_=>by
  show indexByte (c::q) c=0;unfold indexByte;simp
 |b::p,h=>by
  simp only[XG,not_or]at h;have d:(b==c)=ND:=by rw[XQ];exact λe=>h.1 e.symm
  show indexByte (b::(p++c::q)) c=_;unfold indexByte;rw[cK c q p h.2,d,XB OD,XB (by first|simp;done|simp;omega)];simp
def kZ(B:List UInt8):trimSuffix (B++[10]) [10]=B:=by
 have:hasSuffix (B++[10]) [10]=NC:=by
  unfold hasSuffix;rw[List.isSuffixOf_iff_suffix];exact List.suffix_append _ _
 rw[trimSuffix,this];simp
def jz(h:10∉B):trimSuffix B [10]=B:=by
 have:hasSuffix B [10]=ND:=by
  rw[<-Bool.not_eq_true];unfold hasSuffix;rw[List.isSuffixOf_iff_suffix];intro d;exact h (d.subset (XP.2 rfl))
 rw[trimSuffix,this];rfl
def pcOk(rest x:List UInt8)(B:List UInt8):Prop:=10∉B/\(x=B++[10]\/(x=B/\rest=[]/\B≠[]))
def pcOk.trim{rest:List UInt8}(h:pcOk rest x B):trimSuffix x [10]=B:=by
 rcases h.2 with rfl|⟨rfl,_⟩
 .exact kZ B
 .exact jz h.1
end
section
open Go.Nk Go.RowKit Go.Shelf Go.Proofs Go.Proofs.Tryq
attribute [local instance] k3
def ZW(a b:Int):List UInt8:=if a=b then Lib.itoa a else Lib.itoa a++[46,46]++Lib.itoa b
def okS(x:Int):Prop:= -9223372036854775808<=x/\x<=9223372036854775807
def Dy(x:Int)(h:okS x)(w:NL)(d:Pow w):NW I 44 #[x] w (OI (str (Lib.itoa x)) w):=dU x (by have:=h.1;omega) (by have:=h.2;omega) w d
def HH(a b:Int)(p:okS a)(j:okS b)(w:NL)(d:Pow w):NW I 39 #[NJ #[a,b]] w (OI (str (ZW a b)) w):=by
 have e:(w.alloc (Z #[a,b] 49)).heap[w.heap.size]? =J (Z #[a,b] 49):=by rw[Z3,YZ rfl]
 have i:Ext w (w.alloc (Z #[a,b] 49)):=(Ext.rfl' w).alloc _;have o:=λw d=>Dy a p w d
 have E:=λw d=>Dy b j w d
 have A:=VV a (by have:=p.1;omega) (by have:=p.2;omega);have C:=VV b (by have:=j.1;omega) (by have:=j.2;omega);clear p j;go_enter fq Tryz.func39,Tryz.ntmps39
 go_wp2_with (first|go_at_call 44;refine(o _ (d.ext i)).r λF u=> ?_)
 .rename_i h;go_ret;refine⟨?_,i.trans u⟩;rw[ZW,YZ (by simpa using h)];rfl
 .rename_i h K hK;have H:Hid (ZW a b=Lib.itoa a++[46,46]++Lib.itoa b):=by show _=_;rw[ZW,XB (by simpa using h)]
  clear h;have t:=d.ext i;generalize World.alloc _ (Z #[a,b] 49)=z at i e t⊢;have q0:=Z0 e 0;have q1:=Z0 e 1;simp only[YC,YA,YB]at q0 q1;have L:=A;have A:=C;clear e d
  go_region_with (first
   |((with_reducible refine(o _ ?_).mono ?_);.exact t.ext (Ext.rfl' z).drew
     rintro e F ⟨rfl,u⟩;have o:=(Ext.rfl' z).drew.trans u;have u:=o.cellS q0;have u:=o.cellS q1)
   |((with_reducible refine(E _ ?_).mono ?_);.exact t.ext o
     rintro e _ ⟨rfl,e⟩))
  all_goals
   refine hK _ _ ?_;go_wp2;go_ret;refine⟨?_,(i.trans o).trans e⟩;rw[H.out,show(⟨#[46,46]⟩:ByteArray)=⟨[46,46].toArray⟩from rfl,VH,VH];rfl
def ZY(word:List UInt8)(l:List (List UInt8)):List UInt8:=[32].intercalate (word::l)++[10]
def Nq(a b c m:Int):List UInt8:=ZY [114,117,108,101] ([a,b,c,m].map Lib.itoa)
def Y9(x:Sf):List UInt8:=ZY [115,104,97,102,116] [x.nm.data.toList,ZW x.a0 x.a1,ZW x.b0 x.b1,ZW x.c0 x.c1]
def GP(a b c m:Int)(L:List Sf):List UInt8:=Nq a b c m++(L.map Y9).flatten
structure okL(x:Sf):Prop where
 nm:x.nm.size<=1000
 a0:okS x.a0
 a1:okS x.a1
 b0:okS x.b0
 b1:okS x.b1
 c0:okS x.c0
 c1:okS x.c1
def Pt(K:Nat):∀l:List (List UInt8),(∀x∈l,x.length<=K)->([32].intercalate l).length<=l.length*(K+1)
 |[],_=>by simp[List.intercalate]
 |x::r,h=>by
  have p:=h x YY;show(Lib.join (x::r) [32]).length<=_;rw[Lib.join_cons,Lib.joinTail];have d:∀r:List (List UInt8),(∀y∈r,y.length<=K)->((r.map ([32]++·)).flatten).length<=r.length*(K+1):=by
   intro r
   induction r with
   |nil=>intro _;simp
   |cons y r i=>
    intro h;have t:=h y YY;have e:=i λz o=>h z (YW _ o)
    simp only[VG,RU,XH,YP,XW,QX]at e⊢;omega
  have e:=d r λy j=>h y (YW _ j)
  rw[XH,YP,QX];omega
def ID(w:NL)(l:List Int)(t:TypeId)(j:Nat)(x:Int)(h:l[j]? =J x):(w.alloc (.cells (l.map (Value.int NF)).toArray t)).cell? ⟨w.heap.size,0+j,NB⟩=J (NE NF x):=by
 rw[VD,Z0 (by rw[Z3,YZ rfl])];simp[h]
def WA{l:List (List UInt8)}(h:Xd b0 w (U (J g) n cp) l)(j:Nat)(x:NM)(d:(l.map str)[j]? =J x):w.cell? ⟨g,j,NB⟩=J x:=by
 have:=h.cells (g:=g) rfl j x d
 rwa [ZU]at this
def PQ(u v:Int)(e:okS u)(d:okS v):(ZW u v).length<=100:=by
 have i:=VV u e.1 e.2;have h:=VV v d.1 d.2;unfold ZW;split
 .omega
 .simp only[XH,YP,XW];omega
def GM(x:Sf)(d:okL x):([32].intercalate ([115,104,97,102,116]::[x.nm.data.toList,ZW x.a0 x.a1,ZW x.b0 x.b1,ZW x.c0 x.c1])).length<=140737488355328:=by
 have:=Pt 1000 ([115,104,97,102,116]::[x.nm.data.toList,ZW x.a0 x.a1,ZW x.b0 x.b1,ZW x.c0 x.c1]) (by
  intro y e;simp only[XG,XO,UE]at e;rcases e with rfl|rfl|rfl|rfl|rfl
  .simp
  .have:=d.nm;simpa using this
  .exact XC (PQ _ _ d.a0 d.a1) OA
  .exact XC (PQ _ _ d.b0 d.b1) OA
  .exact XC (PQ _ _ d.c0 d.c1) OA)
 simp only[YP,XW]at this;exact XC this OA
def LF(K:Nat):∀l:List (List UInt8),(∀x∈l,x.length<=K)->l.flatten.length<=l.length*K
 |[],_=>by simp
 |x::r,h=>by
  have d:=h x YY;have d:=LF K r λy d=>h y (YW _ d)
  simp only[RU,XH,YP,QX];omega
def oT(x:Sf)(p:okL x)(d:Nat){i:NL}(W:NL)(h:i.heap[d]? =J (Z #[.string x.nm,str (ZW x.a0 x.a1),str (ZW x.b0 x.b1),str (ZW x.c0 x.c1)] 9))(e:Ext i W):NW I 37 #[str [115,104,97,102,116],U (J d) 4 4] W (OI (str (Y9 x)) W):=by
 have o:str x.nm.data.toList= .string x.nm:=by simp[str]
 refine IN [115,104,97,102,116] d 4 4 [x.nm.data.toList,ZW x.a0 x.a1,ZW x.b0 x.b1,ZW x.c0 x.c1] W rfl OA (λj y j=>e.cellS ?_) (e.lt (Z5 h)) OA ?_
 .rw[Z0 h];simp only[VG,VX,o]at j;exact(by simpa using j)
 .exact GM x p
def kM(a b c m:Int)(d:Option Addr)(n t:Nat)(L:List Sf)(w:NL)(M:L.length=n)(hn:n<=20)(P:Meas w)(K:RawA w d L)(hp:Pow w)
 (h0:Zp a b c m L=0)(ha:okS a)(hb:okS b)(hc:okS c)(hm:okS m)(hL:∀x∈L,okL x):
 NW I 7 #[NJ #[a,b,c,m,U d n t]] w (OI (.tuple #[str (GP a b c m L),NE NF 0]) w):=by
 have hg:(w.alloc (Z #[a,b,c,m,U d n t] 26)).heap[w.heap.size]? =J (Z #[a,b,c,m,U d n t] 26):=by rw[Z3,YZ rfl]
 have O:Ext w (w.alloc (Z #[a,b,c,m,U d n t] 26)):=(Ext.rfl' w).alloc _;have Bb:=λw P K=>IZ a b c m d n t L w M P K
 rw[h0]at Bb;have I8:=P.ext O;have Bi:=K.ext O;have Fr:=hp.ext O;replace K:Hid (RawA w d L):=K;replace M:Hid (L.length=n):=M;replace hL:Hid (∀x∈L,okL x):=hL;replace P:Hid (Meas w):=P;have Em:∀x∈[a,b,c,m],okS x:=by
  intro x u;simp only[XG,XO,UE]at u;rcases u with rfl|rfl|rfl|rfl<;>assumption
 replace Em:Hid (∀x∈[a,b,c,m],okS x):=Em;have Fi:([32].intercalate ([114,117,108,101]::[a,b,c,m].map Lib.itoa)).length<=140737488355328:=by
  have:=Pt 100 ([114,117,108,101]::[a,b,c,m].map Lib.itoa) (by
   intro x u;simp only[VG,VX,XG,XO,UE]at u;rcases u with rfl|rfl|rfl|rfl|rfl
   .simp
   all_goals exact XC (VV _ (by first|exact ha.1|exact hb.1|exact hc.1|exact hm.1) (by first|exact ha.2|exact hb.2|exact hc.2|exact hm.2)) OA)
  simp only[VG,VX,YP,XW]at this;exact XC this OA
 replace Fi:Hid _:=Fi;clear ha hb hc hm h0;go_enter fq Tryz.func7,Tryz.ntmps7
 go_wp2_with (first
  |(go_at_call 36;refine(Bb _ I8 Bi).r λV A2=> ?_
    have Ad:=O.trans A2;have F:=A2.get hg;have q0:=Z0 F 0;have q1:=Z0 F 1;have q2:=Z0 F 2;have q3:=Z0 F 3;have q4:=Z0 F 4;simp only[YC,YA,YB]at q0 q1 q2 q3 q4)
  |(go_at_call 38;refine(KQ V.heap.size 0 4 4 [a,b,c,m] _ rfl OA (ID V [a,b,c,m] 3) OD Em.out ((hp.ext Ad).ext ((Ext.rfl' V).alloc _))).mono ?_
    rintro e w3 ⟨v,rfl,hv,Ag⟩;obtain⟨g,cp,rfl,G5,Eo⟩:=XT hv OD;have As:Ext V w3:=((Ext.rfl' V).alloc _).trans Ag;have Am:=IN [114,117,108,101] g 4 cp ([a,b,c,m].map Lib.itoa) w3 rfl OA (WA hv) Eo OA Fi.out;clear hv)
  |(go_at_call 37;refine Am.r λ_ B0=> ?_
    have Cw:=(Ad.trans As).trans B0;have Bu:=(As.trans B0).get F;replace q4:=(As.trans B0).cellS q4))
 clear Em Bb I8 Bi Fr Am G5 Eo Ag;go_loopw [5,31] (λv5 E wr=>∃i:Nat,i<=n/\E= NE NF i/\v5=str (Nq a b c m++((L.take i).map Y9).flatten)/\Ext w wr) (λ_ E _=>n - (intOf E).toNat)
 case atStart=>exact⟨0,OA,rfl,by simp[Nq,ZY],Cw⟩
 case round=>
  obtain⟨i,hi,rfl,rfl,Bp⟩:=hrel;by_cases Ao:i=n
  .subst Ao;go_wp2;go_ret2;rw[XX (by have:=M.out;omega)];exact⟨rfl,Bp⟩
  .have A5:(i:Int)<(n:Int):=OA
   obtain⟨x,u⟩:∃x,L[i]? =J x:=⟨_,YH (by have:=M.out;omega)⟩;obtain⟨_,_,rfl,_,p,_⟩:=(K.out.ext Bp) i x u;have x0:=p.1;have x1:=p.2;have x2:=p.3;have x3:=p.4;have x4:=p.5;have x5:=p.6;have x6:=p.7;have C:=hL.out x (YQ u);clear p;go_wp2;have o:Ext w _:=Bp.alloc (Z #[.string x.nm,x.a0,x.a1,x.b0,x.b1,x.c0,x.c1] 51);have A:(wr.alloc (Z #[.string x.nm,x.a0,x.a1,x.b0,x.b1,x.c0,x.c1] 51)).heap[wr.heap.size]? =J (Z #[.string x.nm,x.a0,x.a1,x.b0,x.b1,x.c0,x.c1] 51):=by rw[Z3,YZ rfl]
   have Fu:∀(H:Nat){W5:NL}(W:NL),W5.heap[H]? =J (Z #[.string x.nm,str (ZW x.a0 x.a1),str (ZW x.b0 x.b1),str (ZW x.c0 x.c1)] 9)->Ext W5 W->NW I 37 #[str [115,104,97,102,116],U (J H) 4 4] W (OI (str (Y9 x)) W):=oT x C
   have Ba:¬9223372036854775807<(Nq a b c m++((L.take i).map Y9).flatten).length+(Y9 x).length:=by
    have h1:=Fi.out;have h2:=GM x C
    have h3:=LF 140737488355329 ((L.take i).map Y9) (by
     intro y hy;obtain⟨z,hz,rfl⟩:=VW.1 hy;have:=GM z (hL.out z (QH hz));simp only[Y9,ZY,XH,YP,XW];omega)
    rw[TH,VN]at h3;have h4:min i L.length<=20:=OA;have h5:=SG 140737488355329 h4;simp only[Nq,Y9,ZY,XH,YP,XW];omega
   have hH:Hid (L.take (i+1)=L.take i++[x]):=by show _=_;rw[VL,u];rfl
   obtain⟨T,Eg⟩:∃T,Hid (T=Nq a b c m++((L.take i).map Y9).flatten):=⟨_,rfl⟩;obtain⟨p,Fe⟩:∃p,Hid (p=Y9 x):=⟨_,rfl⟩;rw[<-Eg.out]at Ba⊢;rw[<-Fe.out]at Ba Fu;generalize World.alloc wr (Z #[.string x.nm,x.a0,x.a1,x.b0,x.b1,x.c0,x.c1] 51)=w7 at o A⊢;obtain⟨B7,Lh⟩:∃B7,B7=wr.heap.size:=⟨_,rfl⟩;rw[<-Lh]at A⊢;clear Lh;have y0:=Z0 A 0;have y1:=Z0 A 1;have y2:=Z0 A 2;have y3:=Z0 A 3;have y4:=Z0 A 4;have y5:=Z0 A 5;have y6:=Z0 A 6;simp only[YC,YA,YB]at y0 y1 y2 y3 y4 y5 y6;have a7:=ZQ y0;have a4:=ZQ y1;have a6:=ZQ y2;have a8:=ZQ y3;have a2:=ZQ y4;have a5:=ZQ y5;have a3:=ZQ y6;have Jp:=hp;clear u x0 x1 x2 x3 x4 x5 x6 q0 q1 q2 q3 q4 Bu F hg O A2 Ad As B0 Cw;refine Z9 16 OB ?_;refine ZS [0,1,2,3,4,6,7,9,10] OB OB ?_;simp only[ZR,YB,YA,YK,YJ]
   repeat (go_big_quiet_step (fail))
   refine XI ?_;refine Yu 5 rfl OB rfl (λW h=>Yd (f:=39) (args:= #[NJ #[x.a0,x.a1]]) OE ?_);refine(HH x.a0 x.a1 C.a0 C.a1 W (Jp.ext (o.trans h))).r λW2 j=> ?_;refine⟨str (ZW x.a0 x.a1),rfl,j,?_⟩;replace o:=o.trans (h.trans j);clear h j;go_simp;refine Yu 8 rfl OB rfl (λW h=>Yd (f:=39) (args:= #[NJ #[x.b0,x.b1]]) OE ?_);refine(HH x.b0 x.b1 C.b0 C.b1 W (Jp.ext (o.trans h))).r λW2 j=> ?_;refine⟨str (ZW x.b0 x.b1),rfl,j,?_⟩;replace o:=o.trans (h.trans j);clear h j;go_simp;refine Yu 11 rfl OB rfl (λW h=>Yd (f:=39) (args:= #[NJ #[x.c0,x.c1]]) OE ?_);refine(HH x.c0 x.c1 C.c0 C.c1 W (Jp.ext (o.trans h))).r λW2 j=> ?_;refine⟨str (ZW x.c0 x.c1),rfl,j,?_⟩;replace o:=o.trans (h.trans j);clear h j;go_simp;refine Yu 12 rfl OB rfl (λW h=>Ye ⟨U (J W.heap.size) 4 4,W.alloc (Z #[.string x.nm,str (ZW x.a0 x.a1),str (ZW x.b0 x.b1),str (ZW x.c0 x.c1)] 9),OE,(Ext.rfl' W).alloc _,?_⟩)
   have Y:=o.trans (h.trans ((Ext.rfl' W).alloc (Z #[.string x.nm,str (ZW x.a0 x.a1),str (ZW x.b0 x.b1),str (ZW x.c0 x.c1)] 9)));have X:(W.alloc (Z #[.string x.nm,str (ZW x.a0 x.a1),str (ZW x.b0 x.b1),str (ZW x.c0 x.c1)] 9)).heap[W.heap.size]? =J (Z #[.string x.nm,str (ZW x.a0 x.a1),str (ZW x.b0 x.b1),str (ZW x.c0 x.c1)] 9):=by rw[Z3,YZ rfl]
   generalize W.alloc (Z #[.string x.nm,str (ZW x.a0 x.a1),str (ZW x.b0 x.b1),str (ZW x.c0 x.c1)] 9)=W5 at Y X⊢;obtain⟨H,S9⟩:∃H,H=W.heap.size:=⟨_,rfl⟩;rw[<-S9]at X⊢;clear h o S9;go_simp;refine Yu 13 rfl OB rfl (λW h=>Yd (f:=37) (args:= #[str [115,104,97,102,116],U (J ⟨H,0,NB⟩) 4 4]) OE ?_);refine(Fu H W X h).r λ_ j=> ?_;refine⟨str p,rfl,j,?_⟩;replace Y:=Y.trans (h.trans j);clear h j X;go_simp;refine ZS [14,15] OB OB ?_;simp only[ZR,YB,YA,YK,YJ]
   repeat (go_big_quiet_step (fail))
   refine XI ?_;refine Yt OB (λW h=> ?_);go_wp2;go_roundw
   case rel=>exact⟨i+1,OA,by push_cast;rfl,by rw[VH,Eg.out,Fe.out,hH.out];simp,Y.trans h⟩
   case measure=>simp[intOf];omega
def okP(x:Int):Prop:=0<=x/\x<=99999
def okP.s{x:Int}(h:okP x):okS x:=⟨by have:=h.1;omega,by have:=h.2;omega⟩
def gj(l:List ByteArray):l.map Value.string=(l.map (·.data.toList)).map str:=by
 rw[List.map_map];refine List.map_congr_left λx _=> ?_
 simp[str]
def ia(x:List UInt8)(l:List (List UInt8))(w:NL)(o:([32].intercalate (x::l)).length<=100000)(h:∀y∈x::l,32∉y)(d:MaxL w):
 NW I 126 #[str ([32].intercalate (x::l)),.string ⟨#[32]⟩] w λe w'=>e= NK (U (J w.heap.size) (l.length+1) (l.length+1))/\w'=w.alloc (.cells ((x::l).map str).toArray 9):=by
 obtain⟨m,d⟩:=d;obtain⟨j,_⟩:=lE x l h;have e:=Any.strings_Split lSp OB ⟨([32].intercalate (x::l)).toArray⟩ ⟨#[32]⟩ m w (by show([32].intercalate (x::l)).toArray.size<_;simp;omega) d OC;have i:Lib.countB ⟨([32].intercalate (x::l)).toArray⟩ ⟨#[32]⟩=l.length:=by
  show Lib.count ([32].intercalate (x::l)).toArray.toList [32]=_;rw[List.toList_toArray,j]
 rw[i,gj,Lib.splitB_data]at e;have i:Lib.splitK (⟨#[32]⟩:ByteArray).data.toList 0 l.length (⟨([32].intercalate (x::l)).toArray⟩:ByteArray).data.toList=x::l:=split_ic x l h;rw[i]at e;exact e
def np(l p:List UInt8)(w:NL)(d:l.length<=100000):NW I 87 #[str l,str p] w (OJ (str (Lib.trimSuffix l p)) w):=
 Any.strings_TrimSuffix lTS ⟨l.toArray⟩ ⟨p.toArray⟩ w (by show l.toArray.size<=_;simp;omega)
end
section
open Go.Nk Go.RowKit Go.Shelf Go.Proofs Go.Proofs.Tryq
def big(l:List UInt8):Prop:=l≠[]/\∀b∈l,33<=b.toNat
def rb{s:ByteArray}(h:Xm s=NC):big s.data.toList/\s.size<=12/\∃b r,s.data.toList=b::r/\97<=b.toNat:=by
 unfold Xm at h;rw[YG,YG]at h;obtain⟨⟨j,d⟩,i⟩:=h;rw[XE]at j;rw[XZ,List.any_eq_false]at i;refine⟨⟨?_,λb o=> ?_⟩,j.2,?_⟩
 .intro e;have:s.data.toList.length=s.size:=RH;rw[e]at this;simp at this;omega
 .have:=i b o;simp only[ZM,WY,S0,YG,XZ,decide_eq_false_iff_not,not_and]at this;by_cases i:(97:Int)<=b.toNat/\(b.toNat:Int)<=122
  .omega
  .have:=this λx y=>i ⟨x,y⟩
   simp at this;omega
 .split at d
  .cases d
  .rename_i c r e;simp only[WY,XE]at d;exact⟨c,r,e,OA⟩
structure okX(x:Sf):Prop where
 nm:big (nmL x)
 hd:∃b r,nmL x=b::r/\97<=b.toNat
 sz:x.nm.size<=12
 a0:okP x.a0
 a1:okP x.a1
 b0:okP x.b0
 b1:okP x.b1
 c0:okP x.c0
 c1:okP x.c1
def okX.l{x:Sf}(h:okX x):okL x:=⟨by have:=h.sz;omega,h.a0.s,h.a1.s,h.b0.s,h.b1.s,h.c0.s,h.c1.s⟩
def shA_ok:∀(L:List Sf)(d:List (List UInt8)),shA d L=0->∀x∈L,Xm x.nm=NC/\WO x=NC
 |[],_,_,x,hx=>by cases hx
 |y::t,d,h,x,hx=>by
  rw[shA]at h;split at h
  .cases h
  .rename_i h1;split at h
   .cases h
   .split at h
    .cases h
    .rename_i h2;rcases XG.1 hx with rfl|hx
     .exact⟨by simpa using h1,by simpa using h2⟩
     .exact shA_ok t _ h x hx
def K2{x:Int}(h:firstV [x,y]=0):x=0/\y=0:=by
 simp only[firstV]at h;split at h
 .rename_i h0;split at h
  .rename_i h1;exact⟨h0,h1⟩
  .exact absurd h (by assumption)
 .exact absurd h (by assumption)
def EA{b:Int}{L:List Sf}(h:Zp a b c m L=0):okP a/\okP b/\okP c/\okP m/\L.length<=9/\∀x∈L,okX x:=by
 obtain⟨e,d⟩:=K2 h;unfold W4 at e;split at e
 .rename_i hr;simp only[YG,okA,XE]at hr;unfold Zj at d;split at d
  .cases d
  .rename_i h9;refine⟨⟨OA,OA⟩,⟨OA,OA⟩,⟨OA,OA⟩,⟨OA,OA⟩,OA,λx t=> ?_⟩;obtain⟨u,p⟩:=shA_ok L [] d x t;obtain⟨i,j,o⟩:=rb u;simp only[WO,ZF,spA,YG,XE]at p;exact⟨i,o,j,⟨OA,OA⟩,⟨OA,OA⟩,⟨OA,OA⟩,⟨OA,OA⟩,⟨OA,OA⟩,⟨OA,OA⟩⟩
 .cases e
structure okR(s:Rs):Prop where
 a:okP s.a
 m:okP s.m
 M:okP s.M
 wi:okP s.wi
 li:okP s.li
def EE{S:List Rs}(h:ZC r0 r1 r2 r3 S=0):okP r0/\okP r1/\okP r2/\okP r3/\S.length<=8/\∀s∈S,okR s:=by
 obtain⟨e,d⟩:=K2 h;unfold Sw at e;split at e
 .rename_i hr;simp only[YG,okN,XE]at hr;unfold Uk at d;split at d
  .cases d
  .rename_i h8;split at d
   .rename_i ha;refine⟨⟨OA,OA⟩,⟨OA,OA⟩,⟨OA,OA⟩,⟨OA,OA⟩,OA,λs i=> ?_⟩;have:=YL.1 ha s i;simp only[Tryq.okS,okN,YG,XE]at this;exact⟨⟨OA,OA⟩,⟨OA,OA⟩,⟨OA,OA⟩,⟨OA,OA⟩,⟨OA,OA⟩⟩
   .cases d
 .cases e
def ZX(a b c m:Int):List (List UInt8):=[a,b,c,m].map Lib.itoa
def Qw(x:Sf):List (List UInt8):=[x.nm.data.toList,ZW x.a0 x.a1,ZW x.b0 x.b1,ZW x.c0 x.c1]
def ZZ(s:Rs):List (List UInt8):=[Lib.itoa s.a,ZW s.m s.M,Lib.itoa s.wi,Lib.itoa s.li]
def FJ(a b c m:Int)(S:List Rs):List UInt8:=ZY [115,105,103,104,116] (ZX a b c m)++(S.map λs=>ZY [115,104,111,116] (ZZ s)).flatten
end
section
open Go.Nk Go.RowKit Go.Shelf Go.Proofs Go.Proofs.Tryq
attribute [local instance] k3
def func81:Tryp.prog.funcs[81]? =J Tryz.f81:=ZV OB OB
abbrev ntmps81:=Tryz.ntmps81
@[simp] def call81 (d:Array NM) (w:NL):(callFunc 81 d).run I w= .ok (.enter 81 d) w:=Z7 func81 OB OB d w
def u202:Tryp.prog.underlying 202=J (.slice 5):=(underlying_eq 202).trans Tryz.underlying202
def iH(k:Nat)(d:k<10)(w:NL):(convert 202 9 (U (J w.heap.size) 1 1)).run I (w.alloc (Z #[NE .u8 (48+(k:Int))] 5))= .ok (str [UInt8.ofNat (48+k)]) (w.alloc (Z #[NE .u8 (48+(k:Int))] 5)):=by
 rw[run_convert_bytes_string _ 202 9 5 _ _ _ u202 u5 u9];refine(run_bytesToString _ _ _ _ [48+(k:Int)] ?_).trans ?_
 .refine run_loadCells_list (P:=I) _ (⟨w.heap.size,0,NB⟩:Addr) [Value.int .u8 (48+(k:Int))] (λj v h=> ?_);rw[ZU,Z0 (by rw[Z3,YZ rfl])];simpa using h
 .rw[VU,show(48+(k:Int)).toNat=48+k by omega];rfl
def up_any:∀(n:Nat)(w:NL),(n:Int)<=99999->NW I 81 #[NE .u64 n] w (OI (str (Lib.decDigits n)) w):=by
 intro n
 induction n using Nat.strongRecOn with
 |ind n d=>
  intro w _;have e:=dec_len 4 n OA;by_cases h:n<10
  .have hd:Hid (Lib.decDigits n=[UInt8.ofNat (48+n)]):=by show _=_;rw[Kd,YZ h]
   have p:=iH n h w;clear d e;generalize UInt8.ofNat (48+n)=b at hd p;go_enter func81,ntmps81;go_wp2;go_ret;rw[hd.out];exact⟨rfl,(Ext.rfl' w).alloc _⟩
  .have hd:Hid (Lib.decDigits n=Lib.decDigits (n / 10)++Lib.decDigits (n % 10)):=by show _=_;rw[Kd n,XB h,Kd (n % 10),YZ (Nat.mod_lt _ OA)]
   have j:=λw=>d (n / 10) OA w OA
   have i:=λw=>d (n % 10) OA w OA
   rw[hd.out,XH]at e;rw[show((n / 10:Nat):Int)=(n:Int) / 10 by omega]at j;rw[show((n % 10:Nat):Int)=(n:Int) % 10 by omega]at i;clear d;go_enter func81,ntmps81
   go_wp2_with (first|go_at_call 81;(with_reducible refine(j _).r λ_ o=> ?_)|go_at_call 81;(with_reducible refine(i _).r λ_ t=> ?_))
   go_ret;rw[VH,hd.out];exact⟨OD,o.trans t⟩
def func41:Tryp.prog.funcs[41]? =J Tryz.f41:=ZV OB OB
abbrev ntmps41:=Tryz.ntmps41
@[simp] def call41 (d:Array NM) (w:NL):(callFunc 41 d).run I w= .ok (.enter 41 d) w:=Z7 func41 OB OB d w
def Vr(x:Int)(h:okP x)(w:NL):NW I 41 #[x] w (OI (str (Lib.itoa x)) w):=by
 obtain⟨n,rfl⟩:∃n:Nat,x=n:=⟨x.toNat,by have:=h.1;omega⟩;have hi:Lib.itoa n=Lib.decDigits n:=by rw[Lib.itoa,XB OA];rfl
 rw[hi];have d:=λw=>up_any n w h.2
 have e:=h.2;clear h;go_enter func41,ntmps41;go_wp2_with (go_at_call 81;refine(d _).r λ_ d=> ?_);go_ret;exact⟨rfl,d⟩
def func42:Tryp.prog.funcs[42]? =J Tryz.f42:=ZV OB OB
abbrev ntmps42:=Tryz.ntmps42
@[simp] def call42 (d:Array NM) (w:NL):(callFunc 42 d).run I w= .ok (.enter 42 d) w:=Z7 func42 OB OB d w
def JA(a b:Int)(i:okP a)(d:okP b)(w:NL):NW I 42 #[NJ #[a,b]] w (OI (str (ZW a b)) w):=by
 have e:(w.alloc (Z #[a,b] 49)).heap[w.heap.size]? =J (Z #[a,b] 49):=by rw[Z3,YZ rfl]
 have j:Ext w (w.alloc (Z #[a,b] 49)):=(Ext.rfl' w).alloc _;have p:=λw=>Vr a i w
 have A:=λw=>Vr b d w
 have u:=VV a i.s.1 i.s.2;have z:=VV b d.s.1 d.s.2;clear i d;go_enter func42,ntmps42
 go_wp2_with (first|go_at_call 41;refine(p _).r λC o=> ?_)
 .rename_i h;go_ret;refine⟨?_,j.trans o⟩;rw[ZW,YZ (by simpa using h)];rfl
 .rename_i h K hK;have H:Hid (ZW a b=Lib.itoa a++[46,46]++Lib.itoa b):=by show _=_;rw[ZW,XB (by simpa using h)]
  clear h;generalize World.alloc _ (Z #[a,b] 49)=t at j e⊢;have q0:=Z0 e 0;have q1:=Z0 e 1;simp only[YC,YA,YB]at q0 q1;have E:=u;have u:=z;clear e
  go_region_with (first|((with_reducible refine(p _).r λC o=> ?_);have e:=(Ext.rfl' t).drew.trans o;have o:=e.cellS q0;have o:=e.cellS q1)|(with_reducible refine(A _).r λ_ o=> ?_))
  all_goals
   refine hK _ _ ?_;go_wp2;go_ret;refine⟨?_,(j.trans e).trans o⟩;rw[H.out,show(⟨#[46,46]⟩:ByteArray)=⟨[46,46].toArray⟩from rfl,VH,VH];rfl
def Uh(h:Ext w w'):w.grownBy w' NB:=⟨h.os,h.tape,h.output,h.size,λk d _=>h.old k d⟩
def Lft(j B:Nat)(d:Nat->NL->Prop):Prop:=∀i W h e,d i W->W.grownBy h e->(∀r,e=J r->r=j\/(B<=r/\∃o:Obj,W.heap[r]? =J o/\o.isCells=ND))->d i h
def Pcs(T:List (List UInt8)):Prop:=∀(i:Nat)(x:List UInt8),T[i]? =J x->∃B,pcOk (T.drop (i+1)).flatten x B
def lIB:Lays.n137 prog ren:=by
 constructor
 all_goals first|(with_reducible refine ZV (n:=_) ?_ ?_)<;>kernel_rfl|(intros;kernel_rfl)
def ij(l:List UInt8)(w:NL):NW I 125 #[str l,NE .u8 10] w (OJ (NE NF (Lib.indexByte l 10)) w):=
 Any.strings_IndexByte lIB ⟨l.toArray⟩ 10 w
def HM{s:ByteArray}{l:List UInt8}(h:s.data.toList=l):s=⟨l.toArray⟩:=by
 subst h;simp
def qJ(x r:List UInt8):(⟨(x++r).toArray⟩:ByteArray).extract 0 x.length=⟨x.toArray⟩:=HM (by
 rw[Lib.extract_from_zero];show((x++r).toArray.toList).take x.length=x;simp)
def hQ(x r:List UInt8):(⟨(x++r).toArray⟩:ByteArray).extract x.length (x++r).length=⟨r.toArray⟩:=HM (by
 have h:=Lib.extract_to_end (⟨(x++r).toArray⟩:ByteArray) x.length;have e:(⟨(x++r).toArray⟩:ByteArray).size=(x++r).length:=by show(x++r).toArray.size=_;simp
 rw[e]at h;rw[h];show((x++r).toArray.toList).drop x.length=r;simp)
def Y4(c:UInt8):List UInt8->List (List UInt8)
 |[]=>[[]]
 |b::l=>if b=c then[]::Y4 c l else match Y4 c l with
  |[]=>[[b]]
  |x::r=>(b::x)::r
def dl{c:UInt8}:∀{x:List UInt8},c∉x->Y4 c x=[x]
 |[],_=>rfl
 |b::l,h=>by
  simp only[XG,not_or]at h;rw[Y4,XB λe=>h.1 e.symm,dl h.2]
def dX{c:UInt8}(y:List UInt8):∀{x:List UInt8},c∉x->Y4 c (x++c::y)=x::Y4 c y
 |[],_=>by rw[YJ,Y4,YZ rfl]
 |b::l,h=>by
  simp only[XG,not_or]at h;rw[YK,Y4,XB λe=>h.1 e.symm,dX y h.2]
def II(l:List UInt8)(a b:Nat):(⟨l.toArray⟩:ByteArray).extract a b=⟨((l.drop a).take (b - a)).toArray⟩:=HM (by
 have h:=Lib.extract_toList (⟨l.toArray⟩:ByteArray) a b;simpa using h)
def IW{l:List UInt8}{i:Nat}{b:UInt8}(h:l[i]? =J b)(hi:i<(⟨l.toArray⟩:ByteArray).size):(⟨l.toArray⟩:ByteArray)[i]=b:=by
 obtain⟨_,rfl⟩:=YI.1 h;rfl
def dn(l:List UInt8)(a:Nat):(⟨l.toArray⟩:ByteArray).extract a l.length=⟨(l.drop a).toArray⟩:=by
 rw[II,XX (by rw[List.length_drop];omega)]
def bW{P:List (List UInt8)}{s:ByteArray}(h:w.ownsRow b 9 1 v (P.length+1) (P.map str++[.string s]))(e:s=⟨x.toArray⟩):Xd b w v (P++[x]):=by
 subst e;rw[Xd,XH,QL];exact h
def T4{l:List UInt8}{i:Nat}{b:UInt8}(h:l[i]? =J b)(d:f<=i):(l.drop f).take (i+1 - f)=(l.drop f).take (i - f)++[b]:=by
 rw[show i+1 - f=(i - f)+1 by omega,VL,List.getElem?_drop,show f+(i - f)=i by omega,h];rfl
def ql{l:List UInt8}{i:Nat}{b:UInt8}(h:l[i]? =J b)(d:f<=i):l.drop f=(l.drop f).take (i - f)++b::l.drop (i+1):=by
 have e:(l.drop f).drop (i - f)=l.drop i:=by rw[List.drop_drop,show f+(i - f)=i by omega]
 obtain⟨hi,rfl⟩:=YI.1 h;rw[<-VP hi,<-e,QB]
def BV(c:UInt8)(l:List UInt8)(w:NL)(hl:l.length<=100000):NW I 92 #[str l,NE .u8 c.toNat] w λe w'=>∃v,e= NK v/\Xd w.heap.size w' v (Y4 c l)/\Ext w w':=by
 go_enter fq Tryz.func92,Tryz.ntmps92;go_wp2;go_loopw [5,6,7] (λO W E wr=>∃(P:List (List UInt8))(f i:Nat),W= NE NF f/\E= NE NF i/\f<=i/\i<=l.length/\P.length<=f/\Xd w.heap.size wr O P/\Ext w wr/\Hid (c∉(l.drop f).take (i - f))/\Hid (Y4 c l=P++Y4 c (l.drop f))) (λ_ _ E _=>l.length - (intOf E).toNat)
 case atStart=>exact⟨[],0,0,rfl,rfl,XA _,XL _,XA _,VJ _ _ _ _,Ext.rfl' w,(by show _∉_;simp),rfl⟩
 case round=>
  rename_i O _ _;obtain⟨P,f,i,rfl,rfl,L,Y,hP,j,d,o,C⟩:=hrel;have M:P.length+1<=maxLen:=by simp[maxLen];omega
  have K:(P.length+1)*16<=140737488355328:=OA
  by_cases Ao:i=l.length
  .subst Ao
   go_wp2_with (first
    |(at_builtin
      refine UB _ rfl _ _ _ rfl w.heap.size 9 Tryz.t9 (.string ⟨#[]⟩) 1 16 u85 i9 t9z t9s t9b rfl OA _ _ _ rfl (j.alloc _) _ 1 1 [_] rfl rfl (WU _ _ _) (by intro u h;simp at h;subst h;rfl) M K (by have:=d.size;simp;omega) ?_;intro V p H F _;have A:Ext w p:=((d).alloc _).grown F (λk z=>(j.lt k z).1)))
   go_ret;refine⟨_,rfl,?_,A⟩;rw[C.out,dl (x:=l.drop f) (by have:=o.out;rwa [XX (by rw[List.length_drop];omega)]at this)];exact bW H (dn l f)
  .have A5:i<l.length:=OA
   obtain⟨b,t⟩:∃b,l[i]? =J b:=⟨_,YH A5⟩;have T:((⟨l.toArray⟩:ByteArray)[i]'A5).toNat=b.toNat:=by rw[IW t A5]
   go_wp2_with (first
    |(at_builtin
      refine UB _ rfl _ _ _ rfl w.heap.size 9 Tryz.t9 (.string ⟨#[]⟩) 1 16 u85 i9 t9z t9s t9b rfl OA _ _ _ rfl (j.alloc _) _ 1 1 [_] rfl rfl (WU _ _ _) (by intro u h;simp at h;subst h;rfl) M K (by have:=d.size;simp;omega) ?_;intro V p H F _;have A:Ext w p:=((d).alloc _).grown F (λk z=>(j.lt k z).1)))
   .have h1:((b.toNat:Int)==(c.toNat:Int))=NC:=(by assumption);obtain rfl:b=c:=QK.1 (by have:=eq_of_beq h1;omega)
    exact⟨⟨P++[(l.drop f).take (i - f)],i+1,i+1,by push_cast;rfl,by push_cast;rfl,XA _,A5,by simp;omega,bW H (II l f i),A,(by show _∉_;simp),by
     show _=_;have e:=ql t L;generalize (l.drop f).take (i - f)=x at e o⊢;rw[C.out,e,dX _ o.out,RV];rfl⟩,by simp[intOf];omega⟩
   .have h1:((b.toNat:Int)==(c.toNat:Int))=ND:=(by assumption);have X:b≠c:=λe=>by rw[e,beq_self_eq_true]at h1;cases h1
    exact⟨⟨P,f,i+1,rfl,by push_cast;rfl,OA,A5,hP,j,d,(by
     show _∉_;rw[T4 t L];simp only[VI,XP,not_or];exact⟨o.out,X.symm⟩),C⟩,by simp[intOf];omega⟩
def CT(w:NL)(b off:Nat)(T:List (List UInt8)):Prop:=∀(j:Nat)(x:List UInt8),T[j]? =J x->w.cell? ⟨b,off+j,NB⟩=J (str x)
def CT.ext{T:List (List UInt8)}(h:CT w b off T)(e:Ext w w'):CT w' b off T:=λj x d=>e.cellS (h j x d)
def bm{T:List (List UInt8)}(h:Xd b w v T)(i:0<T.length):∃g cp,v= U (J ⟨g,0,NB⟩) T.length cp/\b<=g/\g<w.heap.size/\T.length<=cp/\CT w g 0 T:=by
 obtain⟨g,cp,rfl,e,d⟩:=XT h i;refine⟨g,cp,rfl,e,d,?_,λj x e=> ?_⟩
 .rcases h.2 with⟨h,_⟩|⟨_,_,_,d,_,_,h,_⟩
  .cases h
  .cases d;exact h
 .have:=h.cells (g:=g) rfl j (str x) (by rw[List.getElem?_map,e];rfl)
  rwa [ZU,<-VD j]at this
def KM(c:UInt8)(l:List UInt8):0<(Y4 c l).length:=by
 cases l with
 |nil=>exact Nat.one_pos
 |cons b l=>
  rw[Y4];split
  .simp
  .split<;>simp
def MG(c:UInt8):∀l:List UInt8,(Y4 c l).length<=l.length+1
 |[]=>XA _
 |b::l=>by
  have d:=MG c l;rw[Y4];split
  .simp;omega
  .split
   .simp
   .rename_i h;rw[h]at d;simp at d⊢;omega
def lD(b off n o:Nat)(T:List (List UInt8))(w:NL)(d:T.length=n)(A:n<=200000)(p:CT w b off T):
 NW I 136 #[U (J ⟨b,off,NB⟩) n o,.string ⟨#[]⟩] w λe w'=>∃r:Int,e= NK (NE NF r)/\w'=w/\(0<=r↔[]∈T):=by
 replace p:Hid (CT w b off T):=p;replace d:Hid (T.length=n):=d;go_enter fq Tryz.func136,Tryz.ntmps136;go_wp2;go_loopw [5] (λj wr=>∃i:Nat,j= NE NF i/\i<=n/\wr=w/\Hid ([]∉T.take i)) (λj _=>n - (intOf j).toNat)
 case atStart=>exact⟨0,rfl,XL _,rfl,by show _∉_;simp⟩
 case round=>
  obtain⟨i,rfl,_,rfl,z⟩:=hrel;by_cases hi:i=n
  .subst hi;go_wp2;go_ret;refine⟨-1,rfl,rfl,⟨λh=>by omega,λh=> ?_⟩⟩;have:=z.out;rw[XX (by have:=d.out;omega)]at this;exact absurd h this
  .have A5:i<n:=OA
   obtain⟨x,u⟩:∃x,T[i]? =J x:=⟨_,YH (by have:=d.out;omega)⟩;have q0:=p.out i x u;cases x with
   |nil=>
    go_wp2;go_ret;exact⟨i,rfl,rfl,⟨λ_=>YQ u,λ_=>by omega⟩⟩
   |cons c t=>
    go_wp2
    exact⟨⟨i+1,by push_cast;rfl,OA,trivial,by
     show _∉_;rw[VL,u];simp only[VI,RL,XP,not_or];exact⟨z.out,OD⟩⟩,by simp[intOf];omega⟩
def Y1(l:List UInt8):List (List UInt8):=if(Y4 10 l).getLast? =J []then(Y4 10 l).dropLast else Y4 10 l
def CT.take{T:List (List UInt8)}(h:CT w b off (T++[x])):CT w b off T:=λj y d=>h j y (by
 rw[List.getElem?_append_left (YI.1 d).1,d])
def BJ(l:List UInt8)(w:NL)(W:l.length<=100000):NW I 48 #[str l] w λe w'=>∃g cp,e= NK (.slice (J ⟨g,0,NB⟩) (Y1 l).length cp)/\CT w' g 0 (Y1 l)/\Ext w w'/\w.heap.size<=g/\g<w'.heap.size:=by
 have C:=λw=>BV 10 l w W
 have p:=KM 10 l;obtain⟨P,x,F⟩:∃P x,Y4 10 l=P++[x]:=⟨_,_,(List.dropLast_concat_getLast (List.ne_nil_of_length_pos p)).symm⟩;have i:Y1 l=if x=[]then P else P++[x]:=by
  unfold Y1;rw[F];simp
 have E:=MG 10 l;rw[F]at C p E;clear F;replace i:Hid _:=i;have z:(P++[x]).length=P.length+1:=OD
 rw[z]at E;replace E:(P.length:Int)<=100000:=OA
 have d:∀{j:NL}{v:NM},Xd w.heap.size j v (P++[x])->∃g cp,v= U (J ⟨g,0,NB⟩) (P.length+1) cp/\(w.heap.size<=g/\g<j.heap.size)/\P.length+1<=cp/\Hid (CT j g 0 (P++[x]))/\j.cell? ⟨g,P.length,NB⟩=J (str x):=λh=>by
  obtain⟨g,cp,rfl,O,V,L,M⟩:=bm h p;rw[z]at L⊢;exact⟨g,cp,rfl,⟨O,V⟩,L,M,by have:=M P.length x OD;rwa [VD]at this⟩
 clear p z;cases x with
 |nil=>
  have A:Hid (Y1 l=P):=i.out.trans (YZ rfl);clear i;go_enter fq Tryz.func48,Tryz.ntmps48
  go_wp2_with (first
   |(go_at_call 92;refine(C _).mono ?_;rintro e j ⟨v,rfl,o,K⟩
     obtain⟨g,cp,rfl,u,T,H,q0⟩:=d o;clear o d))
  go_ret;rw[A.out];exact⟨g,cp,rfl,H.out.take,K,u⟩
 |cons c t=>
  have A:Hid (Y1 l=P++[c::t]):=i.out.trans (XB OD);clear i;go_enter fq Tryz.func48,Tryz.ntmps48
  go_wp2_with (first
   |(go_at_call 92;refine(C _).mono ?_;rintro e j ⟨v,rfl,o,K⟩
     obtain⟨g,cp,rfl,u,T,H,q0⟩:=d o;clear o d))
  go_ret;rw[A.out];exact⟨g,cp,by rw[XH];rfl,H.out,K,u⟩
def Words(C:List (List UInt8))(e:Ending)(w':NL):Prop:=
 ([]∈C/\∃a b,e= NK (.tuple #[a,b,.bool ND]))\/([]∉C/\∃x T b g cp,C=x::T/\e= NK (.tuple #[str x,U b T.length cp,.bool NC])/\(T≠[]->b=J ⟨g,1,NB⟩/\CT w' g 1 T/\g<w'.heap.size/\T.length<=cp))
def BY(l:List UInt8)(w:NL)(W:l.length<=100000):NW I 93 #[str l] w λe w'=>Words (Y4 32 l) e w'/\Ext w w':=by
 have z:=λw=>BV 32 l w W
 have i:=KM 32 l;have u:=MG 32 l;obtain⟨x,T,C⟩:∃x T,Y4 32 l=x::T:=by
  cases h:Y4 32 l with
  |nil=>rw[h]at i;cases i
  |cons x T=>exact⟨x,T,rfl⟩
 rw[C]at z i u⊢;clear C;replace u:(T.length:Int)<=100000:=by simp at u;omega
 have p:∀{o:NL}{v:NM},Xd w.heap.size o v (x::T)->∃g cp,v= U (J ⟨g,0,NB⟩) (T.length+1) cp/\g<o.heap.size/\T.length+1<=cp/\Hid (CT o g 0 (x::T))/\o.cell? ⟨g,0,NB⟩=J (str x):=λh=>by
  obtain⟨g,cp,rfl,_,V,L,A⟩:=bm h i;exact⟨g,cp,rfl,V,L,A,A 0 x rfl⟩
 clear i;by_cases d:[]∈x::T
 all_goals
  replace d:Hid _:=d;go_enter fq Tryz.func93,Tryz.ntmps93
  go_wp2_with (first
   |(go_at_call 92;refine(z _).mono ?_;rintro e o ⟨v,rfl,H,F⟩
     obtain⟨g,cp,rfl,O,_,E,q0⟩:=p H;clear H p)
   |(go_at_call 136;refine(lD g 0 (T.length+1) cp (x::T) _ rfl OA E.out).mono ?_;rintro e _ ⟨r,rfl,rfl,t⟩
     first
      |have M:0<=r:=t.2 d.out
      |have M:r<0:=Int.not_le.1 λh=>d.out (t.1 h)
     clear t))
 .go_ret3;exact⟨.inl ⟨d.out,_,_,rfl⟩,F⟩
 .rename_i K hK
  go_region
  all_goals
   refine hK _ _ ?_;go_wp2
  all_goals
   go_ret3;refine⟨.inr ⟨d.out,x,T,_,g,_,rfl,rfl,λP=>⟨?_,λj y X=> ?_,O,OA⟩⟩,F.drew⟩
   .first|rfl|(cases T with|nil=>exact absurd rfl P|cons=>simp at*;omega)
   .have:=E.out (j+1) y X
    rwa [VD,Nat.add_comm]at this
def ic_flat:∀(l:List (List UInt8))(x:List UInt8),[32].intercalate (x::l)=x++l.flatMap λy=>32::y
 |[],x=>by rw[JM];simp
 |y::l,x=>by rw[Kf,ic_flat l y,UN];rfl
def func40:Tryp.prog.funcs[40]? =J Tryz.f40:=ZV OB OB
abbrev ntmps40:=Tryz.ntmps40
@[simp] def call40 (d:Array NM) (w:NL):(callFunc 40 d).run I w= .ok (.enter 40 d) w:=Z7 func40 OB OB d w
def JE(word:List UInt8)(b off n o:Nat)(T:List (List UInt8))(w:NL)(e:T.length=n)(A:n<=10)(p:CT w b off T)(z:word.length<=1000)(t:∀x∈T,x.length<=1000):
 NW I 40 #[str word,U (J ⟨b,off,NB⟩) n o] w (OJ (str (ZY word T)) w):=by
 replace p:Hid (CT w b off T):=p;replace e:Hid (T.length=n):=e;replace t:Hid _:=t;have u:Hid (ZY word T=word++(T.flatMap λy=>32::y)++[10]):=by show _=_;rw[ZY,ic_flat]
 go_enter func40,ntmps40;go_wp2;go_loopw [5,6] (λj h wr=>∃(i:Nat)(d:List UInt8),h= NE NF i/\i<=n/\j=str d/\wr=w/\Hid (d=word++(T.take i).flatMap λy=>32::y)/\d.length<=1000+i*1001) (λ_ h _=>n - (intOf h).toNat)
 case atStart=>exact⟨0,word,rfl,XL _,rfl,rfl,(by show _=_;simp:Hid _),OA⟩
 case round=>
  obtain⟨i,d,rfl,hi,rfl,rfl,j,_⟩:=hrel;by_cases h:i=n
  .subst h;have h:Hid (ZY word T=d++[10]):=by
    show _=_;have:=j.out;rw[XX (by have:=e.out;omega)]at this;rw[u.out,this]
   clear j u;go_wp2;go_ret;rw[h.out,show(⟨#[10]⟩:ByteArray)=⟨[10].toArray⟩from rfl,VH];exact⟨OD,rfl⟩
  .have A5:i<n:=OA
   obtain⟨x,h⟩:∃x,T[i]? =J x:=⟨_,YH (by have:=e.out;omega)⟩;have q0:=p.out i x h;have u:=t.out x (YQ h);have u:Hid (d++[32]++x=word++(T.take (i+1)).flatMap λy=>32::y):=by
    show _=_;rw[VL,h,j.out];simp
   clear h j;go_wp2;exact⟨⟨i+1,d++[32]++x,by push_cast;rfl,A5,by rw[show(⟨#[32]⟩:ByteArray)=⟨[32].toArray⟩from rfl,VH,VH],trivial,u,by simp;omega⟩,by simp[intOf];omega⟩
end
end Go.Proofs.Tryp
namespace Go.Proofs.Tryq
section
open Go.Nk Go.RowKit
def lW{i:Nat}(h:i<n):List.range' i (n - i)=i::List.range' (i+1) (n - (i+1)):=by
 obtain⟨d,rfl⟩:∃d,n=i+(d+1):=⟨n - i - 1,OA⟩;rw[show i+(d+1) - i=d+1 by omega,show i+(d+1) - (i+1)=d by omega];rfl
def mC(a b c m:Int)(o:Option Addr)(n M:Nat)(L:List Sf)(out:Nat->Bool)(B sb ob wb fb:Nat)(hG:Good a b c L)(A1:L.length=n)(hn:n<=9)(hm:2<=m/\m<=4):
 ∀(f:Nat)(l:List Int)(E:Nat)(W:NL)(v V:NM)(O:List NM),(l.length:Int)+f=m->E<=n->(∀p∈l,0<=p/\p<n)->O.length+(Zt a b c L n out f l E).length<=100000->
 Ctx a b c m o n M L out B sb ob wb fb W->W.heap[ob]? =J (Z #[V] 61)->W.ownsRow B 57 1 V O.length O->OwnI B W v l->
 NW prog 137 #[v,E,NI (J sb),NI (J ob),NI (J wb),NI (J fb)] W λe W'=>(∃u,e= NK u)/\∃H t,Left B ob W v l V O (Zt a b c L n out f l E) W' H t:=by
 intro f
 induction f with
 |zero=>
  intro l E W v V O Ff D8 Ao F0 C Fh Am Y;exact jF a b c m o n M L out B sb ob wb fb E W v V l O C OA OA OA OA Fh Am Y
 |succ f ih=>
  intro l E W v V O Ff D8 Ao F0 C Fh Am Y;obtain⟨F,hF⟩:∃F:Nat->List (List Int),F=fun(k:Nat)=>if out k=ND/\Zr (apA a b c L (l++[(k:Int)]))=1 then Zt a b c L n out f (l++[(k:Int)]) (k+1)else[]:=⟨_,rfl⟩
  have Li:Hid (Zt a b c L n out (f+1) l E=[]++(List.range' E (n - E)).flatMap F):=by show _=_;rw[hF];rfl
  obtain⟨ao,cp,rfl⟩:∃ao cp,v= U ao l.length cp:=by
   rcases Y.2 with⟨rfl,h⟩|⟨g,cp,_,rfl,_⟩
   .exact⟨NB,0,by rw[h]⟩
   .exact⟨_,cp,rfl⟩
  have s3:=Z0 C.s 3;have sh:=Z0 C.s 4;simp only[YC,YA,YB]at s3 sh;have A5:=C.lt;have Ab:((l.length:Int)==m)=ND:=by simp;omega
  have D5:l.length<4:=OA
  have Qq:=C.lt.2.1;generalize Zt a b c L n out (f+1) l E=T at Li F0⊢;go_enter fk Tryz.func137,Tryz.ntmps137;go_wp2;go_loopw [8] (λv8 wr=>∃i:Nat,i<=n/\v8= NE NF i/\∃H t S,Left B ob W (U ao l.length cp) l V O S wr H t/\Hid (T=S++(List.range' i (n - i)).flatMap F)) (λv _=>n - (intOf v).toNat)
  case atStart=>exact⟨E,D8,rfl,V,[],[],⟨Fh,by simpa using Am,trivial,Y,BelowX.refl _ _ _,λ_ _ _ _ _=>rfl,.inl rfl⟩,Li⟩
  case round=>
   obtain⟨i,hi,rfl,H,t,S,P,hT⟩:=hrel;have Il:=C.step P.below;have t4:=Z0 Il.s 4;simp only[YC,YA,YB]at t4;by_cases a2:i=n
   .subst a2;have a6:T=S:=(by rw[hT.out];simp);clear hT;subst a6;go_wp2;refine bodyPost_end (results_none rfl _ _ _) rfl ?_;exact⟨⟨_,rfl⟩,_,_,P⟩
   .have hiln:i<n:=OA;have Gz:Hid (T=S++(F i++(List.range' (i+1) (n - (i+1))).flatMap F)):=(by show _=_;rw[hT.out,lW hiln,UN]);clear hT;have Cj:=P.new.length;have a7:(i:Int)<9:=OA;have Tu:(0:Int)<=(i:Int):=OA;by_cases Gw:out i=NC
    .have Un:F i=[]:=(by rw[hF];simp[Gw]);have Jq:Hid (T=S++(List.range' (i+1) (n - (i+1))).flatMap F):=(by show _=_;rw[Gz.out,Un,YJ]);clear Gz
     go_wp2_with (
      at_builtin
      refine FL _ rfl _ _ _ rfl B 3 Tryz.t3 (NE NF 0) 1 8 Go.Proofs.Tryq.u27 i3 t3z t3s t3b rfl OA (U ao l.length cp) l.length (l.map (Value.int NF)) rfl (P.cur.alloc _) wr.heap.size 1 1 [NE NF i] rfl rfl (WU _ _ _) (by intro u X;simp at X;subst X;rfl) OC (by simp[maxLen];omega) OA (by have:=Il.sz;simp;omega) ?_;intro z d A Ae A6 I0 Lg;obtain⟨Uo,Up,a0⟩:=HQ Qq C.sz Y P A6 I0;have K:=(Il.step Up).wo i OA;rw[Gw]at K)
     exact⟨⟨i+1,OA,by push_cast;rfl,_,_,_,Uo,Jq⟩,by simp[intOf];omega⟩
    .have Lj:out i=ND:=(by simpa using Gw);clear Gw;have H2:∀p∈l++[(i:Int)],0<=p/\p<n:=by
      intro p hp;rcases VI.1 hp with h|h
      .exact Ao p h
      .cases XP.1 h;omega
     have H4:∀(A:NL)(z d:Nat),Ctx a b c m o n M L out B sb ob wb fb A->A.ownsRow B 3 1 (U (J z) (l.length+1) d) (l.length+1) (l.map (Value.int NF)++[NE NF i])->OwnI B A (U (J z) (l.length+1) d) (l++[(i:Int)])/\
      NW prog 56 #[NJ #[a,b,c,m,U o n M],U (J z) (l.length+1) d] A (OI (NE NF (Zr (apA a b c L (l++[(i:Int)])))) A):=by
      intro A z d j Ae;have ho:OwnI B A (U (J z) (l.length+1) d) (l++[(i:Int)]):=(by simpa[OwnI]using Ae);have Nr:l.length+1<=d:=by
       rcases Ae.2 with⟨h,_⟩|⟨_,_,_,he,_,_,h,_⟩
       .cases h
       .cases he;exact h
      have a3:=j.keep A (BelowX.refl _ _ _);exact⟨ho,CY a b c m o n M L (J z) (l.length+1) d (l++[(i:Int)]) A hG A1 OA OD Nr OA H2 a3.1 a3.2 ho.raw⟩
     by_cases Du:Zr (apA a b c L (l++[(i:Int)]))=1
     .have Un:F i=Zt a b c L n out f (l++[(i:Int)]) (i+1):=(by rw[hF];simp[Lj,Du]);have Jq:Hid (T=(S++Zt a b c L n out f (l++[(i:Int)]) (i+1))++(List.range' (i+1) (n - (i+1))).flatMap F):=(by show _=_;rw[Gz.out,Un,RV]);have Uq:(O++t).length+(Zt a b c L n out f (l++[(i:Int)]) (i+1)).length<=100000:=by
       have:=RJ List.length Jq.out;simp only[XH]at this⊢;omega
      have a1:=λw4 z d h1 h2 h3 h4=>ih (l++[(i:Int)]) (i+1) w4 (U (J ⟨z,0,NB⟩) (l.length+1) d) H (O++t) (by simp;omega) OA H2 Uq h1 h2 h3 h4
      rw[Du]at H4;rw[show((i+1:Nat):Int)=(i:Int)+1 from rfl]at a1;clear Gz ih F0 Uq;generalize Zt a b c L n out f (l++[(i:Int)]) (i+1)=S' at a1 Jq
      go_wp2_with (first
       |(at_builtin
         refine FL _ rfl _ _ _ rfl B 3 Tryz.t3 (NE NF 0) 1 8 Go.Proofs.Tryq.u27 i3 t3z t3s t3b rfl OA (U ao l.length cp) l.length (l.map (Value.int NF)) rfl (P.cur.alloc _) wr.heap.size 1 1 [NE NF i] rfl rfl (WU _ _ _) (by intro u X;simp at X;subst X;rfl) OC (by simp[maxLen];omega) OA (by have:=Il.sz;simp;omega) ?_;intro z d A Ae A6 I0 Lg;obtain⟨Uo,Up,a0⟩:=HQ Qq C.sz Y P A6 I0;have j:=Il.step Up;have K:=j.wo i OA;rw[Lj]at K;have q0:=Z0 j.s 0;have q1:=Z0 j.s 1;have q2:=Z0 j.s 2;have q3:=Z0 j.s 3;have q4:=Z0 j.s 4;simp only[YC,YA,YB]at q0 q1 q2 q3 q4;obtain⟨Bw,Xv⟩:=H4 A z d j Ae)
       |(go_at_call 56;refine Xv.r λw4 Ag=> ?_
         have Sd:=j.step (Oj Ag j.sz);have y0:=Z0 Sd.fn 0;have Ur:=CO C.sz Uo Ag;have a4:Each (λu s=>OwnI W.heap.size w4 u s/\∀k,u.ownBlock=J k->k<wr.heap.size) t S:=a0.mono λu s h=>⟨h.1.ext Ag,h.2⟩
         have Se:=a1 w4 z d Sd Ur.out Ur.row (Bw.ext Ag);simp only[YC,YA]at y0)
       |(go_at_call 137;refine Se.mono ?_;rintro e _ ⟨⟨u,rfl⟩,_,_,hR⟩))
      have a5:=p5 (N:=wr.heap.size) C.sz Y P.below.size Ur a4 (Lg.imp id (λh=>by simp at h;omega)) hR;exact⟨⟨i+1,OA,by push_cast;rfl,_,_,_,a5,Jq⟩,by simp[intOf];omega⟩
     .have Un:F i=[]:=(by rw[hF];simp[Du]);have Jq:Hid (T=S++(List.range' (i+1) (n - (i+1))).flatMap F):=(by show _=_;rw[Gz.out,Un,YJ]);clear Gz ih F0;generalize Zr (apA a b c L (l++[(i:Int)]))=mv at Du H4;have Jz:(mv==1)=ND:=by simpa using Du
      go_wp2_with (first
       |(at_builtin
         refine FL _ rfl _ _ _ rfl B 3 Tryz.t3 (NE NF 0) 1 8 Go.Proofs.Tryq.u27 i3 t3z t3s t3b rfl OA (U ao l.length cp) l.length (l.map (Value.int NF)) rfl (P.cur.alloc _) wr.heap.size 1 1 [NE NF i] rfl rfl (WU _ _ _) (by intro u X;simp at X;subst X;rfl) OC (by simp[maxLen];omega) OA (by have:=Il.sz;simp;omega) ?_;intro z d A Ae A6 I0 Lg;obtain⟨Uo,Up,a0⟩:=HQ Qq C.sz Y P A6 I0;have j:=Il.step Up;have K:=j.wo i OA;rw[Lj]at K;have q0:=Z0 j.s 0;have q1:=Z0 j.s 1;have q2:=Z0 j.s 2;have q3:=Z0 j.s 3;have q4:=Z0 j.s 4;simp only[YC,YA,YB]at q0 q1 q2 q3 q4;obtain⟨Bw,Xv⟩:=H4 A z d j Ae)
       |(go_at_call 56;refine Xv.r λw4 Ag=> ?_
         have Ur:=CO C.sz Uo Ag))
      exact⟨⟨i+1,OA,by push_cast;rfl,_,_,_,Ur,Jq⟩,by simp[intOf];omega⟩
def HZ(a b c:Int)(L:List Sf)(n:Nat)(out:Nat->Bool)(d:n<=9):∀(f:Nat)(l:List Int)(i:Nat),(Zt a b c L n out f l i).length<=9 ^ f
 |0,l,i=>by simp[Zt]
 |f+1,l,i=>by
  rw[Zt,List.length_flatMap];have h:∀(r:List Nat),((r.map fun(k:Nat)=>(if out k=ND/\Zr (apA a b c L (l++[(k:Int)]))=1 then Zt a b c L n out f (l++[(k:Int)]) (k+1)else[]).length)).sum<=r.length*9 ^ f:=by
   intro r
   induction r with
   |nil=>simp
   |cons k r _=>
    simp only[VG,List.sum_cons,YP];have:(if out k=ND/\Zr (apA a b c L (l++[(k:Int)]))=1 then Zt a b c L n out f (l++[(k:Int)]) (k+1)else[]).length<=9 ^ f:=by
     split
     .exact HZ a b c L n out d f _ _
     .simp
    rw[QX,Nat.one_mul];omega
  refine XC (h _) ?_;rw[List.length_range',Nat.pow_succ,Nat.mul_comm];exact Nat.mul_le_mul_left _ OA
def Zs(out:Nat->Bool):Array NM:= #[.bool (out 0),.bool (out 1),.bool (out 2),.bool (out 3),.bool (out 4),.bool (out 5),.bool (out 6),.bool (out 7),.bool (out 8)]
def Oo(out:Nat->Bool)(i:Nat)(h:i<9):(Zs out)[i]? =J (.bool (out i)):=by
 match i,h with
 |0,_|1,_|2,_|3,_|4,_|5,_|6,_|7,_|8,_=>rfl
def ic(a b c m:Int)(d:Option Addr)(n j:Nat)(L:List Sf)(out:Nat->Bool)(w:NL)(hG:Good a b c L)(A1:L.length=n)(V:n<=9)(hm:2<=m/\m<=4)(Y:Meas w)(hS:RawA w d L):
 NW prog 105 #[NJ #[a,b,c,m,U d n j],.agg (Zs out)] w λe w'=>∃v E,e= NK v/\w'.ownsRow w.heap.size 57 1 v E.length E/\Each (λu s=>OwnI w.heap.size w' u s) E (Zt a b c L n out m.toNat [] 0)/\Ext w w':=by
 have O:(Zt a b c L n out m.toNat [] 0).length<=100000:=by
  refine XC (HZ a b c L n out V m.toNat [] 0) ?_;have:m.toNat=2\/m.toNat=3\/m.toNat=4:=OA
  rcases this with h|h|h<;>rw[h]<;>decide
 have z:Ext w ((((w.alloc (Z #[a,b,c,m,U d n j] 117)).alloc (Z (Zs out) 125)).alloc (Z #[U NB 0 0] 61)).alloc (Z #[.func (.func 137) #[] #[NI (J w.heap.size),NI (J ⟨w.heap.size+1+1,0,NB⟩),NI (J ⟨w.heap.size+1,0,NB⟩),NI (J ⟨w.heap.size+1+1+1,0,NB⟩)]] 234)):=((((Ext.rfl' w).alloc _).alloc _).alloc _).alloc _
 have M:∀W,W=((((w.alloc (Z #[a,b,c,m,U d n j] 117)).alloc (Z (Zs out) 125)).alloc (Z #[U NB 0 0] 61)).alloc (Z #[.func (.func 137) #[] #[NI (J w.heap.size),NI (J ⟨w.heap.size+1+1,0,NB⟩),NI (J ⟨w.heap.size+1,0,NB⟩),NI (J ⟨w.heap.size+1+1+1,0,NB⟩)]] 234))->
  NW prog 137 #[U NB 0 0,NE NF 0,NI (J w.heap.size),NI (J ⟨w.heap.size+1+1,0,NB⟩),NI (J ⟨w.heap.size+1,0,NB⟩),NI (J ⟨w.heap.size+1+1+1,0,NB⟩)] W λe K=>(∃u,e= NK u)/\∃F C,Left (w.heap.size+4) (w.heap.size+1+1) W (U NB 0 0) [] (U NB 0 0) [] (Zt a b c L n out m.toNat [] 0) K F C:=by
  intro W o;have Ba:W.heap.size=w.heap.size+4:=by rw[o];simp only[Z2]
  have g0:W.heap[w.heap.size]? =J (Z #[a,b,c,m,U d n j] 117):=by rw[o];simp only[Z3,Z2];rw[XB OA,XB OA,XB OA,YZ trivial]
  have g1:W.heap[w.heap.size+1]? =J (Z (Zs out) 125):=by rw[o];simp only[Z3,Z2];rw[XB OA,XB OA,YZ trivial]
  have g2:W.heap[w.heap.size+1+1]? =J (Z #[U NB 0 0] 61):=by rw[o];simp only[Z3,Z2];rw[XB OA,YZ trivial]
  have g3:W.heap[w.heap.size+1+1+1]? =J (Z #[.func (.func 137) #[] #[NI (J w.heap.size),NI (J ⟨w.heap.size+1+1,0,NB⟩),NI (J ⟨w.heap.size+1,0,NB⟩),NI (J ⟨w.heap.size+1+1+1,0,NB⟩)]] 234):=by rw[o];simp only[Z3,Z2];rw[YZ trivial]
  have hE:Ext w W:=by rw[o];exact z
  refine mC a b c m d n j L out (w.heap.size+4) (w.heap.size) (w.heap.size+1+1) (w.heap.size+1) (w.heap.size+1+1+1) hG A1 V hm m.toNat [] 0 W (U NB 0 0) (U NB 0 0) [] (by simp;omega) (XL _) (by intro p hp;cases hp) (by simpa using O)
   ⟨g0,λi hi=>by rw[Z0 g1];exact Oo out i hi,g3,λK hX=> ?_,OA,OA⟩ g2 (VJ _ _ _ _) (VJ _ _ _ _)
  have X:Ext w K:=hX.ext hE OA OA;exact⟨Y.ext X,hS.ext X⟩
 generalize Zt a b c L n out m.toNat [] 0=T at M O⊢;generalize Co:Zs out=no at z M;have P:no.size=9:=by rw[<-Co];rfl
 go_enter fk Tryz.func105,Tryz.ntmps105
 go_wp2_with (
  go_at_call 137;refine(M _ rfl).mono ?_;rintro e _ ⟨⟨u,rfl⟩,H,A,t⟩
  have y0:=Z0 t.out 0;simp only[YC,YA]at y0)
 go_ret;exact⟨H,A,rfl,WX (by simpa using t.row) OA,t.new.mono λu s h=>WX h z.size,t.below.ext z OA OA⟩
def byL(T:List (List Int))(i:Nat):List (List Int):=T.filter λl=>l.head? ==J (i:Int)
def take1:(Nat->Bool)->List Int->Option (Nat->Bool)
 |u,[]=>J u
 |u,p::t=>if u p.toNat=NC then NB else take1 (λj=>u j||j==p.toNat) t
def WJ(a b:List (List Int)):List (List Int):=if a.length<b.length then b else a
def ZL(e:Nat->Bool)(d:(Nat->Bool)->List (List Int))(most:List (List Int))(l:List Int):List (List Int):=match take1 e l with
 |none=>most
 |some h=>WJ most (l::d h)
def Zk(T:List (List Int)):Nat->Nat->(Nat->Bool)->List (List Int)
 |0,_,_=>[]
 |d+1,i,used=>WJ ((byL T i).foldl (ZL used (Zk T d (i+1))) []) (Zk T d (i+1) used)
def Xe(i:Nat)(d:Nat->Bool):Nat->Bool:=λj=>decide (j<i)||d j
def PR(T:List (List Int)):Prop:=∀l∈T,∀h,l.head? =J h->∀p∈l,h<=p
def rh(b:List (List Int)):WJ [] b=b:=by
 cases b<;>simp[WJ]
def LV(N i:Nat)(u d:Nat->Bool):Prop:=∀j,i<=j->j<N->u j=d j
def dB{N i:Nat}:∀{l:List Int}{u d:Nat->Bool},LV N i u d->(∀p∈l,(i:Int)<=p/\p<N)->(take1 u l=NB/\take1 d l=NB)\/∃v e,take1 u l=J v/\take1 d l=J e/\LV N i v e
 |[],u,d,h,_=> .inr ⟨u,d,rfl,rfl,h⟩
 |p::t,u,d,h,hl=>by
  have e:=hl p YY;have e:u p.toNat=d p.toNat:=h _ OA OA;by_cases d:u p.toNat=NC
  .exact .inl ⟨by rw[take1,YZ d],by rw[take1,YZ (e▸d)]⟩
  .rw[take1,XB d,take1,XB (e▸d)];exact dB (λj e d=>by rw[h j e d]) λq d=>hl q (YW _ d)
def GB{T:List (List Int)}(j:PR T){i:Nat}{l:List Int}(h:l∈byL T i):(∀p∈l,(i:Int)<=p)/\∃t,l=(i:Int)::t:=by
 obtain⟨o,e⟩:=UO.1 h;have d:l.head? =J (i:Int):=by simpa using e
 refine⟨j l o _ d,?_⟩;cases l with
 |nil=>cases d
 |cons x t=>cases d;exact⟨t,rfl⟩
def CC{j d:Nat->Bool}{i e:(Nat->Bool)->List (List Int)}:∀{B:List (List Int)}{m:List (List Int)},(∀l∈B,∀m,ZL j i m l=ZL d e m l)->B.foldl (ZL j i) m=B.foldl (ZL d e) m
 |[],_,_=>rfl
 |l::B,m,h=>by
  rw[VU,VU,h l YY];exact CC λp o=>h p (YW _ o)
def Io{T:List (List Int)}{N:Nat}(t:PR T)(z:∀l∈T,∀p∈l,p<(N:Int)):∀(d i:Nat)(u o:Nat->Bool),LV N i u o->Zk T d i u=Zk T d i o
 |0,_,_,_,_=>rfl
 |d+1,i,u,o,h=>by
  have A:∀{v e:Nat->Bool},LV N i v e->LV N (i+1) v e:=λh j _ H=>h j OA H
  rw[Zk,Zk,Io t z d (i+1) u o (A h)];congr 1;refine CC λl E m=> ?_
  rcases dB h (λp C=>⟨(GB t E).1 p C,z l (UO.1 E).1 p C⟩)with⟨e1,e2⟩|⟨v,e,e1,e2,F⟩
  .simp only[ZL,e1,e2]
  .simp only[ZL,e1,e2];rw[Io t z d (i+1) v e (A F)]
def qP{T:List (List Int)}(z:PR T)(d i:Nat)(u:Nat->Bool)(C:u i=NC):Zk T (d+1) i u=Zk T d (i+1) u:=by
 rw[Zk];have:∀(B:List (List Int))(m:List (List Int)),(∀l∈B,l∈byL T i)->B.foldl (ZL u (Zk T d (i+1))) m=m:=by
  intro B
  induction B with
  |nil=>intro m _;rfl
  |cons l B o=>
   intro m h;obtain⟨t,rfl⟩:=(GB z (h l YY)).2;rw[VU];have:ZL u (Zk T d (i+1)) m ((i:Int)::t)=m:=by
    have e:take1 u ((i:Int)::t)=NB:=(by rw[take1,YZ (by simpa using C)]);simp only[ZL,e]
   rw[this];exact o m λA j=>h A (YW _ j)
 rw[this _ _ λl p=>p,rh]
def ry{T:List (List Int)}{N:Nat}(o:PR T)(A:∀l∈T,∀p∈l,p<(N:Int))(d i:Nat)(u:Nat->Bool):Zk T d i u=Zk T (i+d) 0 (Xe i u):=by
 have h:∀k,k<=i->Zk T (i - k+d) k (Xe i u)=Zk T d i (Xe i u):=by
  intro k _;obtain⟨q,e⟩:∃q,i - k=q:=⟨_,rfl⟩
  induction q generalizing k with
  |zero=>
   have:k=i:=OA
   subst this;rw[e,VD]
  |succ q z=>
   rw[e,show q+1+d=(q+d)+1 by omega,qP o _ _ _ (by simp[Xe];omega)];have:=z (k+1) OA OA
   rwa [show i - (k+1)=q by omega]at this
 have t:=h 0 (XL _);rw[Nat.sub_zero]at t;rw[t];exact Io o A d i u _ λj _ _=>by simp[Xe];omega
end
section
open Go.Nk Go.RowKit Go.WideMaps
variable [Tw]
open Go.Maps (Keyed)
def u138:gp.underlying 125=J (.array 9 4):=(underlying_eq 125).trans Tryz.underlying125
def u4:gp.underlying 4=J .bool:=(underlying_eq 4).trans Tryz.underlying4
def u182:gp.underlying 181=J (.map 3 61):=(underlying_eq 181).trans Tryz.underlying181
def u183:gp.underlying 182=J (.map 125 61):=(underlying_eq 182).trans Tryz.underlying182
def u3:gp.underlying 3=J (.int NF):=(underlying_eq 3).trans Tryz.underlying3
def arr138:ArrKey gp 125 4 9:=⟨u138,OB,OB,OB⟩
def K138:Keyed gp 125:=Keyed.of_law arr138.law
def K3:Keyed gp 3:=Go.Maps.int_keyed u3
def sizeT:∃m,gp.types.size=m+1:=by
 have h:(0:Nat)<gp.types.size:=SD OB;exact⟨gp.types.size - 1,OA⟩
def CV(out:Nat->Bool):∃d,keyOf gp 125 (.agg (Zs out))=J d:=by
 have d:=arr138.keyType sizeT;obtain⟨m,e⟩:=sizeT;refine⟨.string (keyBytes ((List.range 9).map λi=> .bool (out i))),?_⟩;unfold keyOf;simp only[u138];rw[YZ (by simp[d,Value.formed,u138,arr138.size,Zs]),e];unfold Program.keyLits;simp only[u138,Value.cells];rw[YZ (by rw[arr138.size];rfl),show List.range 9=[0,1,2,3,4,5,6,7,8]from rfl];simp only[List.mapM_cons,List.mapM_nil];simp[arr138.one,Program.keyLits,u4,Zs]
def ER(i:Nat)(h:i<100):∃kl,keyOf gp 3 (.int .i64 i)=some kl:=by
 unfold keyOf;simp only[u3];refine⟨.int .i64 i,?_⟩;unfold mapKey;simp[u3];have h1:IntKind.i64.min= -9223372036854775808:=OC
 have h2:IntKind.i64.max=9223372036854775807:=OC
 simp only[Lit.wf,h1,h2,YG,XE];omega
def H3(w:NL):(zeroValue 61).run gp w= .ok (U NB 0 0) w:=OB
def fN(h:Zs out=Zs out'):∀i,i<9->out i=out' i:=by
 intro i hi;have d:=Oo out i hi;rw[h,Oo out' i hi]at d;simpa using d.symm
def EP(out:Nat->Bool)(i:Nat)(h:i<9):(Zs out).setIfInBounds i (.bool NC)=Zs (λj=>out j||j==i):=by
 match i,h with
 |0,_|1,_|2,_|3,_|4,_|5,_|6,_|7,_|8,_=>simp[Zs]
def KG(h:∀i,i<9->out i=out' i):Zs out=Zs out':=by
 simp only[Zs,h 0 OA,h 1 OA,h 2 OA,h 3 OA,h 4 OA,h 5 OA,h 6 OA,h 7 OA,h 8 OA]
end
end Go.Proofs.Tryq
