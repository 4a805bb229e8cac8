import Derived.Test.YthahddndgbpooaaGreatDoorNkA
import Derived.Test.YthahddndgbpooaaGreatDoorNk30
import Derived.Deep.RegionWith
import Derived.Lib.ItoaLen
import Derived.Lib.Join
import Derived.Lib.SlTrimSet
import Derived.Lib.SplitLaws
set_option linter.all false
set_option maxRecDepth 100000
set_option maxHeartbeats 1000000
open Go
variable {a b c m n r0 r1 r2 r3 x y:Int}{B:List UInt8}{b0 cp g:Nat}{w w':World}
namespace Go.Proofs.Tryp
section
open Go.Nk Go.RowKit Go.Shelf Go.Proofs Go.Proofs.Tryq
attribute [local instance] k3
theorem ZpJ(l:List UInt8)(n:Int)(w:World)(hl:l.length<=1000)(hm:MaxL w)(hc:Lib.cut l [46,46]=(l,[],false))
 (Hf:∀w,Calls Tryp.prog 131 #[str l] w λe w'=>e= .returned (.tuple #[n,.nilIface])/\Ext w w'):
 Calls Tryp.prog 129 #[str l] w λe w'=>e= .returned (.tuple #[.agg #[n,n],.nilIface])/\Ext w w':=by
 have Jy:=λw hm=>Zqa l [46,46] w (by omega) hm
 rw[hc] at Jy;have hE:Ext w (w.alloc (.cells #[.int .i64 0,.int .i64 0] 49)):=(Ext.rfl' w).alloc _;have hg:(w.alloc (.cells #[.int .i64 0,.int .i64 0] 49)).heap[w.heap.size]? =some (.cells #[.int .i64 0,.int .i64 0] 49):=by rw[Z3,YZ rfl]
 go_enter fq Tryz.func129,Tryz.ntmps129
 go_wp2_with (first
  |(go_at_call 157;refine(Jy _ (hm.ext hE)).mono ?_;rintro e w2 ⟨rfl,A4⟩)
  |(go_at_call 131;refine(Hf _).mono ?_;rintro e w3 ⟨rfl,Ah⟩
    have Dt:=(A4.trans Ah).get hg;have q0:=Z0 Dt 0;have q1:=Z0 Dt 1;have z0:=Z8 Dt 0;have z1:=Z8 Dt 1;simp only[YC,YA,YB] at q0 q1))
 have g0:=Zb Dt (i:=0) (.int .i64 n);have g1:=Zb g0 (i:=1) (.int .i64 n);have s0:=Z0 g1 0;have s1:=Z0 g1 1;simp only[VG,VU,US,YC,YA,YB] at s0 s1;refine VE (v:= .tuple #[.agg #[n,n],.nilIface]) ?_ rfl ⟨rfl,(((hE.trans A4).trans Ah).setCell _ _ (XB _)).setCell _ _ (XB _)⟩;show(results Tryz.f129 _).run Tryp.prog _=_;have hr:Tryz.f129.results= #[.cell 2 49,.tmp 3]:=by kernel_rfl
 unfold results;rw[hr];simp[go_sem,s0,s1]
theorem ZpK(l p q:List UInt8)(a b:Int)(w:World)(hl:l.length<=1000)(hm:MaxL w)(hc:Lib.cut l [46,46]=(p,q,true))(Cy:a≠b)
 (hp:∀w,Calls Tryp.prog 131 #[str p] w λe w'=>e= .returned (.tuple #[a,.nilIface])/\Ext w w')
 (hq:∀w,Calls Tryp.prog 131 #[str q] w λe w'=>e= .returned (.tuple #[b,.nilIface])/\Ext w w'):
 Calls Tryp.prog 129 #[str l] w λe w'=>e= .returned (.tuple #[.agg #[a,b],.nilIface])/\Ext w w':=by
 have Jy:=λw hm=>Zqa l [46,46] w (by omega) hm
 rw[hc] at Jy;clear hc;have hE:Ext w (w.alloc (.cells #[.int .i64 0,.int .i64 0] 49)):=(Ext.rfl' w).alloc _;have hg:(w.alloc (.cells #[.int .i64 0,.int .i64 0] 49)).heap[w.heap.size]? =some (.cells #[.int .i64 0,.int .i64 0] 49):=by rw[Z3,YZ rfl]
 have A9:(a==b)=false:=by simpa using Cy
 go_enter fq Tryz.func129,Tryz.ntmps129
 go_wp2_with (first
  |(go_at_call 157;refine(Jy _ (hm.ext hE)).mono ?_;rintro e w2 ⟨rfl,A4⟩)
  |(go_at_call 131;(with_reducible refine(hp _).mono ?_);rintro e w3 ⟨rfl,Ah⟩)
  |(go_at_call 131;(with_reducible refine(hq _).mono ?_);rintro e w4 ⟨rfl,Ak⟩
    have Dt:=((A4.trans Ah).trans Ak).get hg;have q0:=Z0 Dt 0;have q1:=Z0 Dt 1;have z0:=Z8 Dt 0;have z1:=Z8 Dt 1;simp only[YC,YA,YB] at q0 q1))
 have g0:=Zb Dt (i:=0) (.int .i64 a);have g1:=Zb g0 (i:=1) (.int .i64 b);have s0:=Z0 g1 0;have s1:=Z0 g1 1;simp only[VG,VU,US,YC,YA,YB] at s0 s1;refine VE (v:= .tuple #[.agg #[a,b],.nilIface]) ?_ rfl ⟨rfl,((((hE.trans A4).trans Ah).trans Ak).setCell _ _ (XB _)).setCell _ _ (XB _)⟩;show(results Tryz.f129 _).run Tryp.prog _=_;have hr:Tryz.f129.results= #[.cell 2 49,.tmp 3]:=by kernel_rfl
 unfold results;rw[hr];simp[go_sem,s0,s1]
theorem u57:Tryp.prog.underlying 57=some (.slice 3):=(underlying_eq 57).trans Tryz.underlying57
theorem i3p:Tryp.prog.info? 3=some Tryz.t3:=by kernel_rfl
def ErrF(w:World):Prop:=∃t v,w.cell? ⟨3,0,none⟩=some (.iface t v)
theorem ErrF.ext(h:ErrF w)(e:Ext w w'):ErrF w':=h.imp λ_ h=>h.imp λ_ h=>e.cellS h
theorem Zo0(bad:Prop)(b off n cap:Nat)(T:List (List UInt8))(l:List Int)(w:World)(hT:T.length=n)(hl:l.length=n)(hb:n<=100)(hc:∀(j:Nat)(x:List UInt8),T[j]? =some x->w.cell? ⟨b,off+j,none⟩=some (str x))(hw:b<w.heap.size)
 (Hf:∀(j:Nat)(x:List UInt8)(y:Int),T[j]? =some x->l[j]? =some y->∀W,Ext w W->Calls Tryp.prog 131 #[str x] W λe w'=>(e= .returned (.tuple #[.int .i64 y,.nilIface])\/(bad/\∃t v,e= .returned (.tuple #[.int .i64 0,.iface t v])))/\Ext W w'):
 Calls Tryp.prog 128 #[.slice (some ⟨b,off,none⟩) n cap] w λe w'=>∃v u,e= .returned (.tuple #[v,u])/\(bad\/(u= .nilIface/\OwnI w.heap.size w' v l))/\Ext w w':=by
 replace hc:Hid (∀(j:Nat)(x:List UInt8),T[j]? =some x->w.cell? ⟨b,off+j,none⟩=some (str x)):=hc;replace Hf:Hid _:=Hf;replace hT:Hid (T.length=n):=hT;replace hl:Hid (l.length=n):=hl;go_enter fq Tryz.func128,Tryz.ntmps128;go_wp2;go_loopw [4,11] (λv4 v11 wr=>∃i:Nat,i<=n/\v11= .int .i64 i/\OwnI w.heap.size wr v4 (l.take i)/\Ext w wr) (λ_ v11 _=>n - (intOf v11).toNat)
 case atStart=>exact⟨0,by omega,rfl,VN _ _ _ _,Ext.rfl' w⟩
 case round=>
  obtain⟨i,hi,rfl,Ac,hE⟩:=hrel;by_cases Ao:i=n
  ·subst Ao;go_wp2;go_ret2;refine⟨_,_,rfl,.inr ⟨rfl,?_⟩,hE⟩;rw[show l.take i=l from VT (by have:=hl.out;omega)] at Ac;exact Ac
  ·have A3:(i:Int)<(n:Int):=by omega
   obtain⟨x,hx⟩:∃x,T[i]? =some x:=⟨_,YH (by have:=hT.out;omega)⟩;obtain⟨y,hy⟩:∃y,l[i]? =some y:=⟨_,YH (by have:=hl.out;omega)⟩;have c0:=hE.cellS (hc.out i x hx);have V5:=Hf.out i x y hx hy wr hE;have H:Hid (l.take (i+1)=l.take i++[y]):=by show _=_;rw[TG,hy];rfl
   have A1:(l.take i).length=i:=by rw[UK];have:=hl.out;omega
   clear hx hy;have In:(l.take i).length+1<=maxLen:=by rw[A1];simp[maxLen];omega
   have Fr:((l.take i).length+1)*8<=140737488355328:=by rw[A1];omega
   clear A1
   go_wp2_with (first
    |(go_at_call 131;refine V5.mono ?_;rintro e w2 ⟨rfl|⟨Bp,t,v,rfl⟩,A4⟩)
    |(at_builtin
      refine UG _ rfl _ _ _ rfl w.heap.size 3 Tryz.t3 (.int .i64 0) 1 8 u57 i3p t3z t3s t3b rfl (by omega) _ _ _ rfl ((Z00 Ac A4).alloc _) ⟨w2.heap.size,0,none⟩ 1 1 [.int .i64 y] rfl rfl (Z1N _ _ _) (by intro u hu;simp at hu;subst hu;rfl) In Fr (by have:=hE.size;have:=A4.size;simp;omega) ?_;intro v' w3 Aa A5 _;have Ah:Ext w w3:=((hE.trans A4).alloc _).grown A5 (λk hk=>(Ac.lt k hk).1)))
   ·go_roundw
    case rel=>exact⟨i+1,by omega,by push_cast;rfl,by rw[H.out];simpa[OwnI] using Aa,Ah⟩
    case measure=>simp[intOf];omega
   ·go_ret2;exact⟨_,_,rfl,.inl Bp,hE.trans A4⟩
theorem Zo1(b off n cap:Nat)(T:List (List UInt8))(l:List Int)(w:World)(hT:T.length=n)(hl:l.length=n)(hb:n<=100)(hc:∀(j:Nat)(x:List UInt8),T[j]? =some x->w.cell? ⟨b,off+j,none⟩=some (str x))(hw:b<w.heap.size)
 (Hf:∀(j:Nat)(x:List UInt8)(y:Int),T[j]? =some x->l[j]? =some y->∀w,Calls Tryp.prog 131 #[str x] w λe w'=>e= .returned (.tuple #[y,.nilIface])/\Ext w w'):
 Calls Tryp.prog 128 #[.slice (some ⟨b,off,none⟩) n cap] w λe w'=>∃v,e= .returned (.tuple #[v,.nilIface])/\OwnI w.heap.size w' v l/\Ext w w':=
 (Zo0 False b off n cap T l w hT hl hb hc hw λj x y hx hy W _=>(Hf j x y hx hy W).mono λe w' ⟨h1,h2⟩=>⟨.inl h1,h2⟩).mono λe w' ⟨v,u,h1,h2,h3⟩=>by
   rcases h2 with h2|⟨rfl,h2⟩
   ·exact h2.elim
   ·exact⟨v,h1,h2,h3⟩
end
section
open Go.Lib
theorem ZqZ{b:UInt8}(h:ZoU b):([48,49,50,51,52,53,54,55,56,57]:List UInt8).contains b=true:=by
 have Vp:b.toNat=48\/b.toNat=49\/b.toNat=50\/b.toNat=51\/b.toNat=52\/b.toNat=53\/b.toNat=54\/b.toNat=55\/b.toNat=56\/b.toNat=57:=by unfold ZoU at h;omega
 rcases Vp with h|h|h|h|h|h|h|h|h|h<;>(rw[<-UInt8.ofNat_toNat (x:=b),h];decide)
theorem ZqT{p:UInt8->Bool}:∀{l:List UInt8},(∀b∈l,p b=true)->l.dropWhile p=[]
 |[],_=>rfl
 |b::l,h=>by
  rw[List.dropWhile_cons,YZ (h b YY)];exact ZqT λc hc=>h c (YW _ hc)
theorem Zqb{l:List UInt8}(h:∀b∈l,ZoU b):trimS l [48,49,50,51,52,53,54,55,56,57]=[]:=by
 unfold trimS trimRightS trimLeftS;rw[ZqT (l:=l.reverse) λb hb=>ZqZ (h b (List.mem_reverse.1 hb))];rfl
theorem Zog(h:0<=n):∀b∈itoa n,ZoU b:=by
 rw[itoa,XA (by omega)];exact dec_dig _
theorem ZoW(h:0<=n){c:UInt8}(hc:c.toNat<48):c∉itoa n:=λhm=>by
 have:=(Zog h c hm).1;omega
structure NumT(l:List UInt8)(n:Int):Prop where
 form:∃b r,l=b::r/\r.length<=8/\trimPrefix (b::r) [45]=b::r/\hasPrefix (b::r) [45]=false/\trimS (b::r) [48,49,50,51,52,53,54,55,56,57]=[]/\(b≠48\/r=[])/\atoi (b::r)=some n
theorem ZqI(h0:0<=n)(h1:n<=99999999):NumT (itoa n) n:=by
 have hd:=Zog h0;have ha:=Zq9 h0;have hl:(itoa n).length<=8:=by rw[itoa,XA (by omega)];exact dec_len 7 _ (by omega)
 have hb:∃b r,itoa n=b::r/\(b≠48\/r=[]):=by
  rw[itoa,XA (by omega)];by_cases hz:n.toNat=0
  ·rw[hz];exact⟨48,[],by rw[Znz];rfl,.inr rfl⟩
  ·obtain⟨b,r,e,hb⟩:=dec_head n.toNat (by omega);exact⟨b,r,e,.inl hb⟩
 obtain⟨b,r,e,hb⟩:=hb;rw[e] at hd ha hl;have hp:hasPrefix (b::r) [45]=false:=by
  have h2:(45==b)=false:=by
   rw[UC];rintro rfl;exact absurd (hd 45 YY).1 (by decide)
  simp[hasPrefix,List.isPrefixOf,h2]
 refine⟨b,r,e,by simp at hl;omega,?_,hp,Zqb hd,hb,ha⟩;rw[trimPrefix,hp];rfl
theorem Zqc(c:UInt8)(t:List UInt8):∀l:List UInt8,c∉l->index l (c::t)= -1
 |[],_=>rfl
 |b::l,h=>by
  simp only[XE,not_or] at h;have h1:(c==b)=false:=by rw[UC];exact h.1
  unfold index;rw[Zqc c t l h.2];simp[List.isPrefixOf,h1]
theorem pre_self:∀t q:List UInt8,t.isPrefixOf (t++q)=true
 |[],_=>by simp
 |b::t,q=>by simp[List.isPrefixOf,pre_self t q]
theorem Zr0(c:UInt8)(t q:List UInt8):∀p:List UInt8,c∉p->index (p++(c::t++q)) (c::t)=p.length
 |[],_=>by
  show index (c::(t++q)) (c::t)=0;unfold index;rw[YZ];simp[List.isPrefixOf,pre_self t q]
 |b::p,h=>by
  simp only[XE,not_or] at h;have h1:(c==b)=false:=by rw[UC];exact h.1
  have ih:=Zr0 c t q p h.2;show index (b::(p++(c::t++q))) (c::t)=_;unfold index;rw[ih,XA (by simp[List.isPrefixOf,h1]),XA (by first|(simp;done)|(simp;omega))];simp
theorem Zr1(h:0<=a):cut (itoa a) [46,46]=(itoa a,[],false):=by
 unfold cut;rw[Zqc 46 [46] _ (ZoW h (by decide))];rfl
theorem Zr2(h:0<=a):cut (itoa a++[46,46]++itoa b) [46,46]=(itoa a,itoa b,true):=by
 have e:=Zr0 46 [46] (itoa b) (itoa a) (ZoW h (by decide));rw[show itoa a++[46,46]++itoa b=itoa a++([46,46]++itoa b) by simp];unfold cut;rw[show(46::[46]++itoa b:List UInt8)=[46,46]++itoa b from rfl] at e;rw[e,YZ (by omega)];simp
theorem Zph(x y:List UInt8)(r:List (List UInt8)):[32].intercalate (x::y::r)=x++([32]++[32].intercalate (y::r)):=by
 show join (x::y::r) [32]=x++([32]++join (y::r) [32]);rw[join_cons,join_cons];simp[joinTail]
theorem Zqd(x:List UInt8):[32].intercalate [x]=x:=by simp[List.intercalate]
theorem count_ic:∀(x:List UInt8)(l:List (List UInt8)),(∀y∈x::l,32∉y)->([32].intercalate (x::l)).count 32=l.length
 |x,[],h=>by
  rw[Zqd];exact List.count_eq_zero.2 (h x YY)
 |x,y::l,h=>by
  rw[Zph,List.count_append,List.count_append,count_ic y l λz hz=>h z (YW _ hz),(List.count_eq_zero (l:=x)).2 (h x YY)];simp;omega
theorem split_ic:∀(x:List UInt8)(l:List (List UInt8)),(∀y∈x::l,32∉y)->splitK [32] 0 l.length ([32].intercalate (x::l))=x::l
 |x,[],h=>by
  rw[Zqd];rfl
 |x,y::l,h=>by
  have ih:=split_ic y l λz hz=>h z (YW _ hz)
  have e:=Zr0 32 [] ([32].intercalate (y::l)) x (h x YY);rw[Zph];rw[show(32::[]++[32].intercalate (y::l):List UInt8)=[32]++[32].intercalate (y::l) from rfl] at e;show splitK [32] 0 (l.length+1) _=_;unfold splitK;rw[e,XA (by first|(simp;done)|(simp;omega))];have e2:(x++([32]++[32].intercalate (y::l))).drop (((x.length:Nat):Int).toNat+[(32:UInt8)].length)=[32].intercalate (y::l):=by
   rw[show((x.length:Nat):Int).toNat+[(32:UInt8)].length=x.length+1 from rfl,<-List.drop_drop,List.drop_left];rfl
  rw[e2,ih];simp
theorem Zpi(x:List UInt8)(l:List (List UInt8))(h:∀y∈x::l,32∉y):count ([32].intercalate (x::l)) [32]=l.length/\split ([32].intercalate (x::l)) [32]=x::l:=by
 have h1:count ([32].intercalate (x::l)) [32]=l.length:=by rw[count_one,count_ic x l h]
 exact⟨h1,by rw[split,h1,split_ic x l h]⟩
theorem Zqe(c:UInt8):∀l:List UInt8,c∉l->indexByte l c= -1
 |[],_=>rfl
 |b::l,h=>by
  simp only[XE,not_or] at h;have h1:(b==c)=false:=by rw[UC];exact λe=>h.1 e.symm
  unfold indexByte;rw[Zqe c l h.2,h1];rfl
theorem Zrk(c:UInt8)(q:List UInt8):∀p:List UInt8,c∉p->indexByte (p++c::q) c=p.length
 |[],_=>by
  show indexByte (c::q) c=0;unfold indexByte;simp
 |b::p,h=>by
  simp only[XE,not_or] at h;have h1:(b==c)=false:=by rw[UC];exact λe=>h.1 e.symm
  show indexByte (b::(p++c::q)) c=_;unfold indexByte;rw[Zrk c q p h.2,h1,XA (by simp),XA (by first|(simp;done)|(simp;omega))];simp
theorem Zr3(B:List UInt8):trimSuffix (B++[10]) [10]=B:=by
 have:hasSuffix (B++[10]) [10]=true:=by
  unfold hasSuffix;rw[List.isSuffixOf_iff_suffix];exact List.suffix_append _ _
 rw[trimSuffix,this];simp
theorem Zr4(h:10∉B):trimSuffix B [10]=B:=by
 have:hasSuffix B [10]=false:=by
  rw[<-QP];unfold hasSuffix;rw[List.isSuffixOf_iff_suffix];intro hs;exact h (hs.subset (XO.2 rfl))
 rw[trimSuffix,this];rfl
def pcs:List (List UInt8)->Bool->List (List UInt8)
 |[],_=>[]
 |[B],true=>[B]
 |B::r,c=>(B++[10])::pcs r c
theorem pcs_false:∀l:List (List UInt8),pcs l false=l.map (·++[10])
 |[]=>rfl
 |[B]=>rfl
 |B::x::r=>by
  show(B++[10])::pcs (x::r) false=_;rw[pcs_false (x::r)];rfl
theorem pcs_len:∀(l:List (List UInt8))(c:Bool),(pcs l c).length=l.length
 |[],_=>rfl
 |[B],true=>rfl
 |[B],false=>rfl
 |B::x::r,c=>by
  show(pcs (x::r) c).length+1=_;rw[pcs_len (x::r) c];rfl
theorem pcs_cut:∀l:List (List UInt8),l≠[]->(pcs l false).flatten=(pcs l true).flatten++[10]
 |[],h=>absurd rfl h
 |[B],_=>by simp[pcs]
 |B::x::r,_=>by
  show(B++[10])++(pcs (x::r) false).flatten=(B++[10])++(pcs (x::r) true).flatten++[10];rw[pcs_cut (x::r) (by simp)];simp
def pcOk(rest x:List UInt8)(B:List UInt8):Prop:=10∉B/\(x=B++[10]\/(x=B/\rest=[]/\B≠[]))
theorem pcs_at:∀(l:List (List UInt8))(c:Bool)(i:Nat)(B:List UInt8),(∀y∈l,10∉y/\y≠[])->l[i]? =some B->∃x,(pcs l c)[i]? =some x/\pcOk ((pcs l c).drop (i+1)).flatten x B
 |[],_,_,_,_,h=>by simp at h
 |[B'],c,0,B,hl,h=>by
  simp at h;subst h;have hb:=hl B' YY;cases c
  ·exact⟨B'++[10],rfl,hb.1,.inl rfl⟩
  ·exact⟨B',rfl,hb.1,.inr ⟨rfl,rfl,hb.2⟩⟩
 |[B'],c,i+1,B,hl,h=>by simp at h
 |B'::y::r,c,0,B,hl,h=>by
  simp at h;subst h;exact⟨B'++[10],rfl,(hl B' YY).1,.inl rfl⟩
 |B'::y::r,c,i+1,B,hl,h=>by
  have:=pcs_at (y::r) c i B (λz hz=>hl z (YW _ hz)) (by simpa using h);exact this
theorem pcOk.trim{rest x:List UInt8}(h:pcOk rest x B):trimSuffix x [10]=B:=by
 rcases h.2 with rfl|⟨rfl,_⟩
 ·exact Zr3 B
 ·exact Zr4 h.1
end
section
open Go.Nk Go.RowKit Go.Shelf Go.Proofs Go.Proofs.Tryq
attribute [local instance] k3
def ZW(a b:Int):List UInt8:=if a=b then Lib.itoa a else Lib.itoa a++[46,46]++Lib.itoa b
def okS(x:Int):Prop:= -9223372036854775808<=x/\x<=9223372036854775807
theorem Zqf(x:Int)(h:okS x)(w:World)(hp:Pow w):Calls Tryp.prog 44 #[x] w λe w'=>e= .returned (str (Lib.itoa x))/\Ext w w':=Zps x (by have:=h.1;omega) (by have:=h.2;omega) w hp
theorem Zoh(a b:Int)(ha:okS a)(hb:okS b)(w:World)(hp:Pow w):Calls Tryp.prog 39 #[.agg #[a,b]] w λe w'=>e= .returned (str (ZW a b))/\Ext w w':=by
 have hg:(w.alloc (.cells #[a,b] 49)).heap[w.heap.size]? =some (.cells #[a,b] 49):=by rw[Z3,YZ rfl]
 have hE:Ext w (w.alloc (.cells #[a,b] 49)):=(Ext.rfl' w).alloc _;have U5:=λw hp=>Zqf a ha w hp
 have H7:=λw hp=>Zqf b hb w hp
 have la:=UJ a (by have:=ha.1;omega) (by have:=ha.2;omega);have lb:=UJ b (by have:=hb.1;omega) (by have:=hb.2;omega);clear ha hb;go_enter fq Tryz.func39,Tryz.ntmps39
 go_wp2_with (first
  |(go_at_call 44;refine(U5 _ (hp.ext hE)).mono ?_;rintro e w2 ⟨rfl,A4⟩))
 ·rename_i h;go_ret;refine⟨?_,hE.trans A4⟩;rw[ZW,YZ (by simpa using h)];rfl
 ·rename_i h K hK;have H:Hid (ZW a b=Lib.itoa a++[46,46]++Lib.itoa b):=by show _=_;rw[ZW,XA (by simpa using h)]
  clear h;have Ep:=hp.ext hE;generalize World.alloc _ (.cells #[a,b] 49)=w1 at hE hg Ep⊢;have q0:=Z0 hg 0;have q1:=Z0 hg 1;simp only[YC,YA,YB] at q0 q1;have Kv:=la;have Ru:=lb;clear hg hp
  go_region_with (first
   |((with_reducible refine(U5 _ ?_).mono ?_);·exact Ep.ext (Ext.rfl' w1).drew
     rintro e w2 ⟨rfl,A4⟩;have Ah:=(Ext.rfl' w1).drew.trans A4;have p0:=Ah.cellS q0;have p1:=Ah.cellS q1)
   |((with_reducible refine(H7 _ ?_).mono ?_);·exact Ep.ext Ah
     rintro e w4 ⟨rfl,Ak⟩))
  all_goals
   refine hK _ _ ?_;go_wp2;go_ret;refine⟨?_,(hE.trans Ah).trans Ak⟩;rw[H.out,show(⟨#[46,46]⟩:ByteArray)=⟨[46,46].toArray⟩ from rfl,UZ,UZ];rfl
def ZY(word:List UInt8)(l:List (List UInt8)):List UInt8:=[32].intercalate (word::l)++[10]
def Zpj(a b c m:Int):List UInt8:=ZY [114,117,108,101] ([a,b,c,m].map Lib.itoa)
def ZnM(x:Sf):List UInt8:=ZY [115,104,97,102,116] [x.nm.data.toList,ZW x.a0 x.a1,ZW x.b0 x.b1,ZW x.c0 x.c1]
def Zot(a b c m:Int)(L:List Sf):List UInt8:=Zpj a b c m++(L.map ZnM).flatten
structure okL(x:Sf):Prop where
 nm:x.nm.size<=1000
 a0:okS x.a0
 a1:okS x.a1
 b0:okS x.b0
 b1:okS x.b1
 c0:okS x.c0
 c1:okS x.c1
theorem ZnA(K:Nat):∀l:List (List UInt8),(∀x∈l,x.length<=K)->([32].intercalate l).length<=l.length*(K+1)
 |[],_=>by simp[List.intercalate]
 |x::r,h=>by
  have hx:=h x YY;show(Lib.join (x::r) [32]).length<=_;rw[Lib.join_cons,Lib.joinTail];have key:∀r:List (List UInt8),(∀y∈r,y.length<=K)->((r.map ([32]++·)).flatten).length<=r.length*(K+1):=by
   intro r
   induction r with
   |nil=>intro _;simp
   |cons y r ih=>
    intro h;have h1:=h y YY;have h2:=ih λz hz=>h z (YW _ hz)
    simp only[VC,SM,XK,YP,XM,QF] at h2⊢;omega
  have h2:=key r λy hy=>h y (YW _ hy)
  rw[XK,YP,QF];omega
theorem Zo4(w:World)(l:List Int)(t:TypeId)(j:Nat)(x:Int)(h:l[j]? =some x):(w.alloc (.cells (l.map (Value.int .i64)).toArray t)).cell? ⟨w.heap.size,0+j,none⟩=some (.int .i64 x):=by
 rw[UA,Z0 (by rw[Z3,YZ rfl])];simp[h]
theorem Znr{n:Nat}{l:List (List UInt8)}(h:ZpH b0 w (.slice (some ⟨g,0,none⟩) n cp) l)(j:Nat)(x:Value)(hx:(l.map str)[j]? =some x):w.cell? ⟨g,j,none⟩=some x:=by
 have:=h.cells (g:=g) rfl j x hx
 rwa [Z0c] at this
theorem ZnK(u v:Int)(hu:okS u)(hv:okS v):(ZW u v).length<=100:=by
 have h1:=UJ u hu.1 hu.2;have h2:=UJ v hv.1 hv.2;unfold ZW;split
 ·omega
 ·simp only[XK,YP,XM];omega
theorem Zpu(x:Sf)(ho:okL x):([32].intercalate ([115,104,97,102,116]::[x.nm.data.toList,ZW x.a0 x.a1,ZW x.b0 x.b1,ZW x.c0 x.c1])).length<=140737488355328:=by
 have:=ZnA 1000 ([115,104,97,102,116]::[x.nm.data.toList,ZW x.a0 x.a1,ZW x.b0 x.b1,ZW x.c0 x.c1]) (by
  intro y hy;simp only[XE,XL,VO] at hy;rcases hy with rfl|rfl|rfl|rfl|rfl
  ·simp
  ·have:=ho.nm;simpa using this
  ·exact XD (ZnK _ _ ho.a0 ho.a1) (by omega)
  ·exact XD (ZnK _ _ ho.b0 ho.b1) (by omega)
  ·exact XD (ZnK _ _ ho.c0 ho.c1) (by omega))
 simp only[YP,XM] at this;exact XD this (by omega)
theorem Zo5(K:Nat):∀l:List (List UInt8),(∀x∈l,x.length<=K)->l.flatten.length<=l.length*K
 |[],_=>by simp
 |x::r,h=>by
  have h1:=h x YY;have h2:=Zo5 K r λy hy=>h y (YW _ hy)
  simp only[SM,XK,YP,QF];omega
theorem Zqg(x:Sf)(ho:okL x)(B5:Nat){W5:World}(W:World)(h:W5.heap[B5]? =some (.cells #[.string x.nm,str (ZW x.a0 x.a1),str (ZW x.b0 x.b1),str (ZW x.c0 x.c1)] 9))(e:Ext W5 W):Calls Tryp.prog 37 #[str [115,104,97,102,116],.slice (some ⟨B5,0,none⟩) 4 4] W λe w'=>e= .returned (str (ZnM x))/\Ext W w':=by
 have e0:str x.nm.data.toList= .string x.nm:=by simp[str]
 refine ZoB [115,104,97,102,116] B5 4 4 [x.nm.data.toList,ZW x.a0 x.a1,ZW x.b0 x.b1,ZW x.c0 x.c1] W rfl (by omega) (λj y hy=>e.cellS ?_) (e.lt (Z5 h)) (by omega) ?_
 ·rw[Z0 h];simp only[VC,VQ,e0] at hy;exact(by simpa using hy)
 ·exact Zpu x ho
theorem ZoC(a b c m:Int)(base:Option Addr)(n cap:Nat)(L:List Sf)(w:World)(A1:L.length=n)(hn:n<=20)(hM:Meas w)(hS:RawA w base L)(hp:Pow w)
 (h0:Zp a b c m L=0)(ha:okS a)(hb:okS b)(hc:okS c)(hm:okS m)(hL:∀x∈L,okL x):
 Calls Tryp.prog 7 #[.agg #[a,b,c,m,.slice base n cap]] w λe w'=>e= .returned (.tuple #[str (Zot a b c m L),.int .i64 0])/\Ext w w':=by
 have hg:(w.alloc (.cells #[a,b,c,m,.slice base n cap] 26)).heap[w.heap.size]? =some (.cells #[a,b,c,m,.slice base n cap] 26):=by rw[Z3,YZ rfl]
 have hE:Ext w (w.alloc (.cells #[a,b,c,m,.slice base n cap] 26)):=(Ext.rfl' w).alloc _;have B3:=λw hM hS=>Z24 a b c m base n cap L w A1 hM hS
 rw[h0] at B3;have Gm:=hM.ext hE;have Bi:=hS.ext hE;have Ep:=hp.ext hE;replace hS:Hid (RawA w base L):=hS;replace A1:Hid (L.length=n):=A1;replace hL:Hid (∀x∈L,okL x):=hL;replace hM:Hid (Meas w):=hM;have Dm:∀x∈[a,b,c,m],okS x:=by
  intro x hx;simp only[XE,XL,VO] at hx;rcases hx with rfl|rfl|rfl|rfl<;>assumption
 replace Dm:Hid (∀x∈[a,b,c,m],okS x):=Dm;have Gz:([32].intercalate ([114,117,108,101]::[a,b,c,m].map Lib.itoa)).length<=140737488355328:=by
  have:=ZnA 100 ([114,117,108,101]::[a,b,c,m].map Lib.itoa) (by
   intro x hx;simp only[VC,VQ,XE,XL,VO] at hx;rcases hx with rfl|rfl|rfl|rfl|rfl
   ·simp
   all_goals exact XD (UJ _ (by first|exact ha.1|exact hb.1|exact hc.1|exact hm.1) (by first|exact ha.2|exact hb.2|exact hc.2|exact hm.2)) (by omega))
  simp only[VC,VQ,YP,XM] at this;exact XD this (by omega)
 replace Gz:Hid _:=Gz;clear ha hb hc hm h0;go_enter fq Tryz.func7,Tryz.ntmps7
 go_wp2_with (first
  |(go_at_call 36;refine(B3 _ Gm Bi).mono ?_;rintro e w2 ⟨rfl,A4⟩
    have Ah:=hE.trans A4;have C7:=A4.get hg;have q0:=Z0 C7 0;have q1:=Z0 C7 1;have q2:=Z0 C7 2;have q3:=Z0 C7 3;have q4:=Z0 C7 4;simp only[YC,YA,YB] at q0 q1 q2 q3 q4)
  |(go_at_call 38;refine(ZnH w2.heap.size 0 4 4 [a,b,c,m] _ rfl (by omega) (Zo4 w2 [a,b,c,m] 3) (by simp) Dm.out ((hp.ext Ah).ext ((Ext.rfl' w2).alloc _))).mono ?_
    rintro e w3 ⟨v,rfl,hv,Ak⟩;obtain⟨g,cp,rfl,Ke,Iq⟩:=XP hv (by simp);have B4:Ext w2 w3:=((Ext.rfl' w2).alloc _).trans Ak;have Af:=ZoB [114,117,108,101] g 4 cp ([a,b,c,m].map Lib.itoa) w3 rfl (by omega) (Znr hv) Iq (by omega) Gz.out;clear hv)
  |(go_at_call 37;refine Af.mono ?_;rintro e w4 ⟨rfl,Bg⟩
    have E5:=(Ah.trans B4).trans Bg;have Du:=(B4.trans Bg).get C7;replace q4:=(B4.trans Bg).cellS q4))
 clear Dm B3 Gm Bi Ep Af Ke Iq Ak;go_loopw [5,31] (λv5 v31 wr=>∃i:Nat,i<=n/\v31= .int .i64 i/\v5=str (Zpj a b c m++((L.take i).map ZnM).flatten)/\Ext w wr) (λ_ v31 _=>n - (intOf v31).toNat)
 case atStart=>exact⟨0,by omega,rfl,by simp[Zpj,ZY],E5⟩
 case round=>
  obtain⟨i,hi,rfl,rfl,Br⟩:=hrel;by_cases Ao:i=n
  ·subst Ao;go_wp2;go_ret2;rw[VT (by have:=A1.out;omega)];exact⟨rfl,Br⟩
  ·have A3:(i:Int)<(n:Int):=by omega
   obtain⟨x,hx⟩:∃x,L[i]? =some x:=⟨_,YH (by have:=A1.out;omega)⟩;obtain⟨b1,o1,rfl,_,sx,_⟩:=(hS.out.ext Br) i x hx;have x0:=sx.1;have x1:=sx.2;have x2:=sx.3;have x3:=sx.4;have x4:=sx.5;have x5:=sx.6;have x6:=sx.7;have ho:=hL.out x (YQ hx);clear sx;go_wp2;have hB:Ext w _:=Br.alloc (.cells #[.string x.nm,x.a0,x.a1,x.b0,x.b1,x.c0,x.c1] 51);have Gi:(wr.alloc (.cells #[.string x.nm,x.a0,x.a1,x.b0,x.b1,x.c0,x.c1] 51)).heap[wr.heap.size]? =some (.cells #[.string x.nm,x.a0,x.a1,x.b0,x.b1,x.c0,x.c1] 51):=by rw[Z3,YZ rfl]
   have Et:∀(B5:Nat){W5:World}(W:World),W5.heap[B5]? =some (.cells #[.string x.nm,str (ZW x.a0 x.a1),str (ZW x.b0 x.b1),str (ZW x.c0 x.c1)] 9)->Ext W5 W->Calls Tryp.prog 37 #[str [115,104,97,102,116],.slice (some ⟨B5,0,none⟩) 4 4] W λe w'=>e= .returned (str (ZnM x))/\Ext W w':=Zqg x ho
   have B1:¬9223372036854775807<(Zpj a b c m++((L.take i).map ZnM).flatten).length+(ZnM x).length:=by
    have h1:=Gz.out;have h2:=Zpu x ho
    have h3:=Zo5 140737488355329 ((L.take i).map ZnM) (by
     intro y hy;obtain⟨z,hz,rfl⟩:=VD.1 hy;have:=Zpu z (hL.out z (List.mem_of_mem_take hz));simp only[ZnM,ZY,XK,YP,XM];omega)
    rw[UI,UK] at h3;have h4:min i L.length<=20:=(by omega);have h5:=TS 140737488355329 h4;simp only[Zpj,ZnM,ZY,XK,YP,XM];omega
   have hH:Hid (L.take (i+1)=L.take i++[x]):=by show _=_;rw[TG,hx];rfl
   obtain⟨acc,Hg⟩:∃acc,Hid (acc=Zpj a b c m++((L.take i).map ZnM).flatten):=⟨_,rfl⟩;obtain⟨sx,Gt⟩:∃sx,Hid (sx=ZnM x):=⟨_,rfl⟩;rw[<-Hg.out] at B1⊢;rw[<-Gt.out] at B1 Et;generalize World.alloc wr (.cells #[.string x.nm,x.a0,x.a1,x.b0,x.b1,x.c0,x.c1] 51)=w7 at hB Gi⊢;obtain⟨B7,U6⟩:∃B7,B7=wr.heap.size:=⟨_,rfl⟩;rw[<-U6] at Gi⊢;clear U6;have y0:=Z0 Gi 0;have y1:=Z0 Gi 1;have y2:=Z0 Gi 2;have y3:=Z0 Gi 3;have y4:=Z0 Gi 4;have y5:=Z0 Gi 5;have y6:=Z0 Gi 6;simp only[YC,YA,YB] at y0 y1 y2 y3 y4 y5 y6;have gy0:=Zet y0;have gy1:=Zet y1;have gy2:=Zet y2;have gy3:=Zet y3;have gy4:=Zet y4;have gy5:=Zet y5;have gy6:=Zet y6;have Ia:=hp;clear hx x0 x1 x2 x3 x4 x5 x6 q0 q1 q2 q3 q4 Du C7 hg hE A4 Ah B4 Bg E5;refine ZeG 16 (by kernel_rfl) ?_;refine ZeB [0,1,2,3,4,6,7,9,10] (by kernel_rfl) (by kernel_rfl) ?_;simp only[ZeD,YB,YA,YK,YJ]
   repeat (go_big_quiet_step (fail))
   refine XU ?_;refine Zfa 5 rfl (by kernel_rfl) rfl (λW hW=>Zfo (f:=39) (args:= #[.agg #[x.a0,x.a1]]) (by simp[go_sem,execOp,Act.eval]) ?_);refine(Zoh x.a0 x.a1 ho.a0 ho.a1 W (Ia.ext (hB.trans hW))).mono ?_;rintro e W2 ⟨rfl,hF⟩;refine⟨str (ZW x.a0 x.a1),rfl,hF,?_⟩;replace hB:=hB.trans (hW.trans hF);clear hW hF;go_simp;refine Zfa 8 rfl (by kernel_rfl) rfl (λW hW=>Zfo (f:=39) (args:= #[.agg #[x.b0,x.b1]]) (by simp[go_sem,execOp,Act.eval]) ?_);refine(Zoh x.b0 x.b1 ho.b0 ho.b1 W (Ia.ext (hB.trans hW))).mono ?_;rintro e W2 ⟨rfl,hF⟩;refine⟨str (ZW x.b0 x.b1),rfl,hF,?_⟩;replace hB:=hB.trans (hW.trans hF);clear hW hF;go_simp;refine Zfa 11 rfl (by kernel_rfl) rfl (λW hW=>Zfo (f:=39) (args:= #[.agg #[x.c0,x.c1]]) (by simp[go_sem,execOp,Act.eval]) ?_);refine(Zoh x.c0 x.c1 ho.c0 ho.c1 W (Ia.ext (hB.trans hW))).mono ?_;rintro e W2 ⟨rfl,hF⟩;refine⟨str (ZW x.c0 x.c1),rfl,hF,?_⟩;replace hB:=hB.trans (hW.trans hF);clear hW hF;go_simp;refine Zfa 12 rfl (by kernel_rfl) rfl (λW hW=>Zf3 ⟨.slice (some ⟨W.heap.size,0,none⟩) 4 4,W.alloc (.cells #[.string x.nm,str (ZW x.a0 x.a1),str (ZW x.b0 x.b1),str (ZW x.c0 x.c1)] 9),by simp[go_sem,execOp,Act.eval],(Ext.rfl' W).alloc _,?_⟩)
   have Ek:=hB.trans (hW.trans ((Ext.rfl' W).alloc (.cells #[.string x.nm,str (ZW x.a0 x.a1),str (ZW x.b0 x.b1),str (ZW x.c0 x.c1)] 9)));have So:(W.alloc (.cells #[.string x.nm,str (ZW x.a0 x.a1),str (ZW x.b0 x.b1),str (ZW x.c0 x.c1)] 9)).heap[W.heap.size]? =some (.cells #[.string x.nm,str (ZW x.a0 x.a1),str (ZW x.b0 x.b1),str (ZW x.c0 x.c1)] 9):=by rw[Z3,YZ rfl]
   generalize W.alloc (.cells #[.string x.nm,str (ZW x.a0 x.a1),str (ZW x.b0 x.b1),str (ZW x.c0 x.c1)] 9)=W5 at Ek So⊢;obtain⟨B5,Qn⟩:∃B5,B5=W.heap.size:=⟨_,rfl⟩;rw[<-Qn] at So⊢;clear hW hB Qn;go_simp;refine Zfa 13 rfl (by kernel_rfl) rfl (λW hW=>Zfo (f:=37) (args:= #[str [115,104,97,102,116],.slice (some ⟨B5,0,none⟩) 4 4]) (by simp[go_sem,execOp,Act.eval]) ?_);refine(Et B5 W So hW).mono ?_;rintro e W6 ⟨rfl,hF⟩;refine⟨str sx,rfl,hF,?_⟩;replace Ek:=Ek.trans (hW.trans hF);clear hW hF So;go_simp;refine ZeB [14,15] (by kernel_rfl) (by kernel_rfl) ?_;simp only[ZeD,YB,YA,YK,YJ]
   repeat (go_big_quiet_step (fail))
   refine XU ?_;refine Zf6 (by kernel_rfl) (λW hW=> ?_);go_wp2;go_roundw
   case rel=>exact⟨i+1,by omega,by push_cast;rfl,by rw[UZ,Hg.out,Gt.out,hH.out];simp,Ek.trans hW⟩
   case measure=>simp[intOf];omega
def okP(x:Int):Prop:=0<=x/\x<=99999
theorem okP.s(h:okP x):okS x:=⟨by have:=h.1;omega,by have:=h.2;omega⟩
theorem Znx{l:List UInt8}(h:NumT l n)(w:World):Calls Tryp.prog 131 #[str l] w λe w'=>e= .returned (.tuple #[n,.nilIface])/\Ext w w':=by
 obtain⟨b,r,rfl,h1,h2,h3,h4,h5,h6⟩:=h.form;exact ZpI b r n w h1 h2 h3 h4 h5 h6
theorem ZpL(h:okP x):NumT (Lib.itoa x) x:=ZqI h.1 (by have:=h.2;omega)
theorem Zo6(ha:okP a)(hb:okP b)(w:World)(hm:MaxL w):Calls Tryp.prog 129 #[str (ZW a b)] w λe w'=>e= .returned (.tuple #[.agg #[a,b],.nilIface])/\Ext w w':=by
 have hl:=ZnK a b ha.s hb.s;unfold ZW at hl⊢;split at hl
 ·rename_i h;subst h;rw[YZ rfl];exact ZpJ _ a w (by omega) hm (Zr1 ha.1) (λw=>Znx (ZpL ha) w)
 ·rename_i h;rw[XA h];exact ZpK _ _ _ a b w (by omega) hm (Zr2 ha.1) h (λw=>Znx (ZpL ha) w) (λw=>Znx (ZpL hb) w)
theorem Zr5(l:List ByteArray):l.map Value.string=(l.map (·.data.toList)).map str:=by
 rw[List.map_map];refine List.map_congr_left λx _=> ?_
 simp[str]
theorem Zqh(x:List UInt8)(l:List (List UInt8))(w:World)(hl:([32].intercalate (x::l)).length<=100000)(h:∀y∈x::l,32∉y)(hm:MaxL w):
 Calls Tryp.prog 126 #[str ([32].intercalate (x::l)),.string ⟨#[32]⟩] w λe w'=>e= .returned (.slice (some ⟨w.heap.size,0,none⟩) (l.length+1) (l.length+1))/\w'=w.alloc (.cells ((x::l).map str).toArray 9):=by
 obtain⟨m,hm⟩:=hm;obtain⟨h1,h2⟩:=Zpi x l h;have h3:=Any.strings_Split lSp (by kernel_rfl) ⟨([32].intercalate (x::l)).toArray⟩ ⟨#[32]⟩ m w (by show([32].intercalate (x::l)).toArray.size<_;simp;omega) hm (by decide);have h4:Lib.countB ⟨([32].intercalate (x::l)).toArray⟩ ⟨#[32]⟩=l.length:=by
  show Lib.count ([32].intercalate (x::l)).toArray.toList [32]=_;rw[List.toList_toArray,h1]
 rw[h4,Zr5,Lib.splitB_data] at h3;have h6:Lib.splitK (⟨#[32]⟩:ByteArray).data.toList 0 l.length (⟨([32].intercalate (x::l)).toArray⟩:ByteArray).data.toList=x::l:=split_ic x l h;rw[h6] at h3;exact h3
theorem ZoX(b n c:Nat)(T:List (List UInt8))(w:World)(hT:T.length=n)(hn:n<=1000)(h:∀x∈T,x≠[])(hc:∀(j:Nat)(x:List UInt8),T[j]? =some x->w.cell? ⟨b,0+j,none⟩=some (str x)):
 Calls Tryp.prog 127 #[.slice (some ⟨b,0,none⟩) n c,.string ⟨#[]⟩] w λe w'=>e= .returned (.bool false)/\w'=w:=by
 have h3:=Any.slices_Contains_string lCo b 0 n c (T.map λx=>⟨x.toArray⟩) ⟨#[]⟩ w (by simp;omega) (by omega) (by
  intro j hj;rw[UI] at hj;rw[hc j _ (YH hj)];simp[hj])
 have h4:Lib.containsS ((T.map λx=>(⟨x.toArray⟩:ByteArray)).take n) ⟨#[]⟩=false:=by
  rw[<-QP,Lib.containsS_iff];intro hm;obtain⟨x,hx,e⟩:=VD.1 (List.mem_of_mem_take hm);have e2:x.toArray= #[]:=SG ByteArray.data e;exact h x hx (by simpa using e2)
 rw[h4] at h3;exact h3
theorem Zoo(l p:List UInt8)(w:World)(hl:l.length<=100000):Calls Tryp.prog 87 #[str l,str p] w λe w'=>e= .returned (str (Lib.trimSuffix l p))/\w'=w:=
 Any.strings_TrimSuffix lTS ⟨l.toArray⟩ ⟨p.toArray⟩ w (by show l.toArray.size<=_;simp;omega)
end
section
open Go.Nk Go.RowKit Go.Shelf Go.Proofs Go.Proofs.Tryq
def big(l:List UInt8):Prop:=l≠[]/\∀b∈l,33<=b.toNat
theorem big.sp{l:List UInt8}(h:big l):32∉l:=λhm=>absurd (h.2 _ hm) (by decide)
theorem ZnC(h:okP n):big (Lib.itoa n):=by
 obtain⟨b,r,e,_⟩:=(ZpL h).form;refine⟨by rw[e];simp,λc hc=> ?_⟩;have:=(Zog h.1 c hc).1;omega
theorem Zoi(ha:okP a)(hb:okP b):big (ZW a b):=by
 have h1:=ZnC ha;have h2:=ZnC hb;unfold ZW;split
 ·exact h1
 ·refine⟨by simp,λc hc=> ?_⟩;simp only[VB,XE,XL,VO] at hc;rcases hc with(hc|rfl|rfl)|hc
  ·exact h1.2 c hc
  ·decide
  ·decide
  ·exact h2.2 c hc
theorem ic_big:∀(x:List UInt8)(l:List (List UInt8)),(∀y∈x::l,big y)->10∉[32].intercalate (x::l)/\[32].intercalate (x::l)≠[]
 |x,[],h=>by
  rw[Zqd];have hx:=h x YY;exact⟨λhm=>absurd (hx.2 _ hm) (by decide),hx.1⟩
 |x,y::l,h=>by
  rw[Zph];have hx:=h x YY;have ih:=ic_big y l λz hz=>h z (YW _ hz)
  refine⟨λhm=> ?_,by simp⟩;rcases VB.1 hm with hm|hm
  ·exact absurd (hx.2 _ hm) (by decide)
  ·rcases VB.1 hm with hm|hm
   ·simp at hm
   ·exact ih.1 hm
theorem ZqJ{s:ByteArray}(h:Z2d s=true):big s.data.toList/\s.size<=12/\∃b r,s.data.toList=b::r/\97<=b.toNat:=by
 unfold Z2d at h;rw[YG,YG] at h;obtain⟨⟨hs,hl⟩,hb⟩:=h;rw[XG] at hs;rw[XR,List.any_eq_false] at hb;refine⟨⟨?_,λb hm=> ?_⟩,hs.2,?_⟩
 ·intro e;have:s.data.toList.length=s.size:=SZ;rw[e] at this;simp at this;omega
 ·have:=hb b hm;simp only[ZM,Z8N,Ze0,YG,XR,QL,not_and] at this;by_cases h1:(97:Int)<=b.toNat/\(b.toNat:Int)<=122
  ·omega
  ·have:=this λx y=>h1 ⟨x,y⟩
   simp at this;omega
 ·split at hl
  ·cases hl
  ·rename_i c r e;simp only[Z8N,XG] at hl;exact⟨c,r,e,by omega⟩
structure okX(x:Sf):Prop where
 nm:big (nmL x)
 hd:∃b r,nmL x=b::r/\97<=b.toNat
 sz:x.nm.size<=12
 a0:okP x.a0
 a1:okP x.a1
 b0:okP x.b0
 b1:okP x.b1
 c0:okP x.c0
 c1:okP x.c1
theorem okX.l{x:Sf}(h:okX x):okL x:=⟨by have:=h.sz;omega,h.a0.s,h.a1.s,h.b0.s,h.b1.s,h.c0.s,h.c1.s⟩
theorem shA_ok:∀(L:List Sf)(seen:List (List UInt8)),shA seen L=0->∀x∈L,Z2d x.nm=true/\Z8b x=true
 |[],_,_,x,hx=>by cases hx
 |y::t,seen,h,x,hx=>by
  rw[shA] at h;split at h
  ·cases h
  ·rename_i h1;split at h
   ·cases h
   ·split at h
    ·cases h
    ·rename_i h2;rcases XE.1 hx with rfl|hx
     ·exact⟨by simpa using h1,by simpa using h2⟩
     ·exact shA_ok t _ h x hx
theorem Z4g(h:firstV [x,y]=0):x=0/\y=0:=by
 simp only[firstV] at h;split at h
 ·rename_i h0;split at h
  ·rename_i h1;exact⟨h0,h1⟩
  ·exact absurd h (by assumption)
 ·exact absurd h (by assumption)
theorem ZnT{L:List Sf}(h:Zp a b c m L=0):okP a/\okP b/\okP c/\okP m/\L.length<=9/\∀x∈L,okX x:=by
 obtain⟨h1,h2⟩:=Z4g h;unfold Z2J at h1;split at h1
 ·rename_i hr;simp only[YG,okA,XG] at hr;unfold Zj at h2;split at h2
  ·cases h2
  ·rename_i h9;refine⟨⟨by omega,by omega⟩,⟨by omega,by omega⟩,⟨by omega,by omega⟩,⟨by omega,by omega⟩,by omega,λx hx=> ?_⟩;obtain⟨hn,hs⟩:=shA_ok L [] h2 x hx;obtain⟨n1,n2,n3⟩:=ZqJ hn;simp only[Z8b,ZF,spA,YG,XG] at hs;exact⟨n1,n3,n2,⟨by omega,by omega⟩,⟨by omega,by omega⟩,⟨by omega,by omega⟩,⟨by omega,by omega⟩,⟨by omega,by omega⟩,⟨by omega,by omega⟩⟩
 ·cases h1
structure okR(s:Rs):Prop where
 a:okP s.a
 m:okP s.m
 M:okP s.M
 wi:okP s.wi
 li:okP s.li
theorem Zob{S:List Rs}(h:ZC r0 r1 r2 r3 S=0):okP r0/\okP r1/\okP r2/\okP r3/\S.length<=8/\∀s∈S,okR s:=by
 obtain⟨h1,h2⟩:=Z4g h;unfold Z5y at h1;split at h1
 ·rename_i hr;simp only[YG,okN,XG] at hr;unfold Z23 at h2;split at h2
  ·cases h2
  ·rename_i h8;split at h2
   ·rename_i ha;refine⟨⟨by omega,by omega⟩,⟨by omega,by omega⟩,⟨by omega,by omega⟩,⟨by omega,by omega⟩,by omega,λs hs=> ?_⟩;have:=YL.1 ha s hs;simp only[Tryq.okS,okN,YG,XG] at this;exact⟨⟨by omega,by omega⟩,⟨by omega,by omega⟩,⟨by omega,by omega⟩,⟨by omega,by omega⟩,⟨by omega,by omega⟩⟩
   ·cases h2
 ·cases h1
def ZX(a b c m:Int):List (List UInt8):=[a,b,c,m].map Lib.itoa
def ZnI(x:Sf):List (List UInt8):=[x.nm.data.toList,ZW x.a0 x.a1,ZW x.b0 x.b1,ZW x.c0 x.c1]
def ZZ(s:Rs):List (List UInt8):=[Lib.itoa s.a,ZW s.m s.M,Lib.itoa s.wi,Lib.itoa s.li]
def ZnJ(a b c m:Int)(L:List Sf):List (List UInt8):=[32].intercalate ([114,117,108,101]::ZX a b c m)::L.map λx=>[32].intercalate ([115,104,97,102,116]::ZnI x)
def Zoc(a b c m:Int)(S:List Rs):List (List UInt8):=[32].intercalate ([115,105,103,104,116]::ZX a b c m)::S.map λx=>[32].intercalate ([115,104,111,116]::ZZ x)
def ZpM(a b c m:Int)(S:List Rs):List UInt8:=ZY [115,105,103,104,116] (ZX a b c m)++(S.map λs=>ZY [115,104,111,116] (ZZ s)).flatten
theorem ZpN(a b c m:Int)(L:List Sf):Zot a b c m L=(pcs (ZnJ a b c m L) false).flatten:=by
 rw[pcs_false,ZnJ,VC,SM,List.map_map];rfl
theorem Zqi(a b c m:Int)(S:List Rs):ZpM a b c m S=(pcs (Zoc a b c m S) false).flatten:=by
 rw[pcs_false,Zoc,VC,SM,List.map_map];rfl
theorem Zoj(ha:okP a)(hb:okP b)(hc:okP c)(hm:okP m):∀y∈ZX a b c m,big y:=by
 intro y hy;simp only[ZX,VC,VQ,XE,XL,VO] at hy;rcases hy with rfl|rfl|rfl|rfl
 ·exact ZnC ha
 ·exact ZnC hb
 ·exact ZnC hc
 ·exact ZnC hm
theorem ZoY{x:Sf}(h:okX x):∀y∈ZnI x,big y:=by
 intro y hy;simp only[ZnI,XE,XL,VO] at hy;rcases hy with rfl|rfl|rfl|rfl
 ·exact h.nm
 ·exact Zoi h.a0 h.a1
 ·exact Zoi h.b0 h.b1
 ·exact Zoi h.c0 h.c1
theorem Zpv{s:Rs}(h:okR s):∀y∈ZZ s,big y:=by
 intro y hy;simp only[ZZ,XE,XL,VO] at hy;rcases hy with rfl|rfl|rfl|rfl
 ·exact ZnC h.a
 ·exact Zoi h.m h.M
 ·exact ZnC h.wi
 ·exact ZnC h.li
theorem ZnB{w:List UInt8}(hw:big w){l:List (List UInt8)}(h:∀y∈l,big y):∀y∈w::l,big y:=by
 intro y hy;rcases XE.1 hy with rfl|hy
 ·exact hw
 ·exact h y hy
theorem Zqj{L:List Sf}(h:Zp a b c m L=0):∀y∈ZnJ a b c m L,10∉y/\y≠[]:=by
 obtain⟨ha,hb,hc,hm,_,hL⟩:=ZnT h;intro y hy;rcases XE.1 hy with rfl|hy
 ·exact ic_big _ _ (ZnB ⟨by decide,by decide⟩ (Zoj ha hb hc hm))
 ·obtain⟨x,hx,rfl⟩:=VD.1 hy;exact ic_big _ _ (ZnB ⟨by decide,by decide⟩ (ZoY (hL x hx)))
theorem ZqK{S:List Rs}(h:ZC a b c m S=0):∀y∈Zoc a b c m S,10∉y/\y≠[]:=by
 obtain⟨ha,hb,hc,hm,_,hS⟩:=Zob h;intro y hy;rcases XE.1 hy with rfl|hy
 ·exact ic_big _ _ (ZnB ⟨by decide,by decide⟩ (Zoj ha hb hc hm))
 ·obtain⟨x,hx,rfl⟩:=VD.1 hy;exact ic_big _ _ (ZnB ⟨by decide,by decide⟩ (Zpv (hS x hx)))
end
section
open Go.Nk Go.RowKit Go.Shelf Go.Proofs Go.Proofs.Tryq
attribute [local instance] k3
theorem Zop(a b c m:Int)(base:Option Addr)(n cap:Nat)(L:List Sf)(w:World)(A1:L.length=n)(hM:Meas w)(hS:RawA w base L)(h0:Zp a b c m L≠0):
 Calls Tryp.prog 7 #[.agg #[a,b,c,m,.slice base n cap]] w λe w'=>e= .returned (.tuple #[str [],.int .i64 (Zp a b c m L)])/\Ext w w':=by
 have hE:Ext w (w.alloc (.cells #[a,b,c,m,.slice base n cap] 26)):=(Ext.rfl' w).alloc _;have B3:=λw hM hS=>Z24 a b c m base n cap L w A1 hM hS
 have Gm:=hM.ext hE;have Bi:=hS.ext hE;generalize Zp a b c m L=r at h0 B3⊢;have A9:(r !=0)=true:=by simpa using h0
 clear hS hM;go_enter fq Tryz.func7,Tryz.ntmps7;go_wp2_with (go_at_call 36;refine(B3 _ Gm Bi).mono ?_;rintro e w2 ⟨rfl,A4⟩;have Ah:=hE.trans A4)
 all_goals
  go_ret2;exact⟨rfl,Ah⟩
theorem ZoD(r0 r1 r2 r3:Int)(base:Option Addr)(n cap:Nat)(S:List Rs)(w:World)(A1:S.length=n)(hS:RawS w base S)(h0:ZC r0 r1 r2 r3 S≠0):
 Calls Tryp.prog 9 #[.agg (Zh r0 r1 r2 r3 base n cap)] w λe w'=>e= .returned (.tuple #[str [],.int .i64 (ZC r0 r1 r2 r3 S)])/\Ext w w':=by
 have B3:=λw hS=>Z0U r0 r1 r2 r3 base n cap S w A1 hS
 simp only[Zh] at B3⊢;have hE:Ext w (w.alloc (.cells #[r0,r1,r2,r3,.slice base n cap] 31)):=(Ext.rfl' w).alloc _;have Bi:=hS.ext hE;generalize ZC r0 r1 r2 r3 S=r at h0 B3⊢;have A9:(r !=0)=true:=by simpa using h0
 clear hS;go_enter fq Tryz.func9,Tryz.ntmps9;go_wp2_with (go_at_call 43;refine(B3 _ Bi).mono ?_;rintro e w2 ⟨rfl,A4⟩;have Ah:=hE.trans A4)
 all_goals
  go_ret2;exact⟨rfl,Ah⟩
end
end Go.Proofs.Tryp
