import Derived.Test.YthahddndgbpooaaGreatDoorNkA
import Derived.Test.YthahddndgbpooaaGreatDoorNk22
import Derived.Deep.RegionLaw
import Derived.Laws.EntriesVeiled
import Derived.Laws.NewBlocks
import Derived.WideKeyArr
set_option linter.all false
set_option maxRecDepth 100000
set_option maxHeartbeats 8000000
open Go Go.Nk Go.RowKit
variable {a:Act}{ops:Array Oper}{c m p:Int}{l:List Int}{vs vs2 vs3 xs xs' ys:List Value}{B b b' cap cap1 cap3 cp' fb g g' g3 k kb n n' ob s s' sb wb:Nat}{out out':Nat->Bool}{o:Oper}{P:Program}{e e':TypeId}{v v' vo vo' vo2:Value}{W W' w w' w2 w3 w4 w5 wr:World}
namespace Go.Proofs.Tryq
theorem u57:prog.underlying 61=some (.slice 57):=(underlying_eq 61).trans Tryz.underlying61
theorem i27:prog.info? 57=some Tryz.t57:=by kernel_rfl
theorem t27z:Tryz.t57.zero=some (.slice none 0 0):=by kernel_rfl
theorem t27s:Tryz.t57.size=1:=by kernel_rfl
theorem t27b:Tryz.t57.bytes=24:=by kernel_rfl
theorem Z00{base size:Nat}(h:w.ownsRow base e size v n xs)(hE:Ext w w'):w'.ownsRow base e size v n xs:=
 h.kept (Z3I hE) (by cases hv:v.ownBlock with|none=>exact .inl rfl|some k=>exact .inr (by simp))
theorem OwnI.ext(h:OwnI b w v l)(hE:Ext w w'):OwnI b w' v l:=Z00 h hE
theorem Z4i(h:W.ownsRow b e s v n xs)(h':W.ownsRow b' e' s' v' n' xs')(A9:e≠e'):v.ownBlock=none\/v.ownBlock≠v'.ownBlock:=by
 rcases h.2 with⟨rfl,_⟩|⟨g,_,cu,rfl,_,hg,_⟩
 ·exact .inl rfl
 ·right
  intro he;rcases h'.2 with⟨rfl,_⟩|⟨g2,_,cu2,rfl,_,C7,_⟩
  ·cases he
  ·cases he;rw[hg] at C7;cases C7;exact A9 rfl
def Each(R:Value->List Int->Prop):List Value->List (List Int)->Prop
 |[],[]=>True
 |u::us,s::ss=>R u s/\Each R us ss
 |_,_=>False
theorem Each.append{R:Value->List Int->Prop}:∀{us:List Value}{ss:List (List Int)}{vs:List Value}{ts:List (List Int)},Each R us ss->Each R vs ts->Each R (us++vs) (ss++ts)
 |[],[],_,_,_,h=>h
 |_::_,_::_,_,_,⟨h1,h2⟩,h=>⟨h1,Each.append h2 h⟩
theorem Each.mono{R S:Value->List Int->Prop}:∀{us:List Value}{ss:List (List Int)},Each R us ss->(∀u s,R u s->S u s)->Each S us ss
 |[],[],_,_=>trivial
 |_::_,_::_,⟨h1,h2⟩,h=>⟨h _ _ h1,Each.mono h2 h⟩
theorem Each.length{R:Value->List Int->Prop}:∀{us:List Value}{ss:List (List Int)},Each R us ss->us.length=ss.length
 |[],[],_=>rfl
 |_::_,_::_,⟨_,h⟩=>by simp[Each.length h]
theorem Each.get{R:Value->List Int->Prop}:∀{us:List Value}{ss:List (List Int)},Each R us ss->∀(i:Nat)(s:List Int),ss[i]? =some s->∃u,us[i]? =some u/\R u s
 |[],[],_,i,s,h=>by simp at h
 |u::us,t::ss,⟨h1,h2⟩,i,s,h=>by
  cases i with
  |zero=>simp at h;subst h;exact⟨u,by simp,h1⟩
  |succ i=>simpa using Each.get h2 i s (by simpa using h)
def Zt(a b c:Int)(L:List Sf)(n:Nat)(out:Nat->Bool):Nat->List Int->Nat->List (List Int)
 |0,l,_=>[l]
 |f+1,l,i=>(List.range' i (n - i)).flatMap fun(k:Nat)=>if out k=false/\Zr (apA a b c L (l++[(k:Int)]))=1 then Zt a b c L n out f (l++[(k:Int)]) (k+1) else[]
theorem Zak{K:Act->World->Prop}{Q:Exit->Act->World->Prop}{E:Prop}(hgd:o.guard=none)(f:FuncId)(args:Array Value)
 (Aj:(execOp a.eval o).run P w= .ok (.enter f args) w)(hc:Calls P f args w λe w'=>∃v,e= .returned v/\K (a.put o.dst v) w'):
 if Go.Region.wanted o (yielded ops a.tmps)=true then Oper.wp P o a w K Q else E:=by
 have hw:Go.Region.wanted o (yielded ops a.tmps)=true:=by simp[Go.Region.wanted,hgd]
 rw[YZ hw];unfold Oper.wp;rw[Aj,Oper.upon_enter];refine hc.mono ?_;rintro e w'' ⟨v,rfl,h⟩;exact h
structure Ctx(a b c m:Int)(base:Option Addr)(n cap:Nat)(L:List Sf)(out:Nat->Bool)(B sb ob wb fb:Nat)(W:World):Prop where
 s:W.heap[sb]? =some (.cells #[a,b,c,m,.slice base n cap] 117)
 wo:∀i,i<9->W.cell? ⟨wb,i,none⟩=some (.bool (out i))
 fn:W.heap[fb]? =some (.cells #[.func (.func 137) #[] #[.pointer (some ⟨sb,0,none⟩),.pointer (some ⟨ob,0,none⟩),.pointer (some ⟨wb,0,none⟩),.pointer (some ⟨fb,0,none⟩)]] 234)
 keep:∀W',BelowX B ob W W'->Meas W'/\RawA W' base L
 sz:B<=W.heap.size
 lt:sb<B/\ob<B/\wb<B/\fb<B/\sb≠ob/\wb≠ob/\fb≠ob
theorem Ctx.step{a b:Int}{base:Option Addr}{L:List Sf}(h:Ctx a b c m base n cap L out B sb ob wb fb W)(hX:BelowX B ob W W'):Ctx a b c m base n cap L out B sb ob wb fb W':=
 ⟨(hX.block _ h.lt.1 h.lt.2.2.2.2.1).trans h.s,λi hi=>(hX.cell (p:=⟨wb,i,none⟩) h.lt.2.2.1 h.lt.2.2.2.2.2.1).trans (h.wo i hi),(hX.block _ h.lt.2.2.2.1 h.lt.2.2.2.2.2.2).trans h.fn,λW2 h2=>h.keep W2 (hX.trans h2),XD h.sz hX.size,h.lt⟩
structure Left(B ob:Nat)(W:World)(v:Value)(l:List Int)(vo:Value)(vs:List Value)(S:List (List Int))(W':World)(vo':Value)(vs2:List Value):Prop where
 out:W'.heap[ob]? =some (.cells #[vo'] 61)
 row:W'.ownsRow B 57 1 vo' (vs++vs2).length (vs++vs2)
 new:Each (λu s=>OwnI W.heap.size W' u s) vs2 S
 cur:OwnI B W' v l
 below:BelowX B ob W W'
 old:∀k,B<=k->k<W.heap.size->some k≠v.ownBlock->some k≠vo.ownBlock->W'.heap[k]? =W.heap[k]?
 at':vo'.ownBlock=vo.ownBlock\/∀k,vo'.ownBlock=some k->W.heap.size<=k
theorem ZbT{s:List Int}(hB:B<=W.heap.size)(On:ob<B)(Ef:W.heap[ob]? =some (.cells #[vo] 61))(Af:W.ownsRow B 57 1 vo vs.length vs)(hv:OwnI B W v l)
 (A4:Ext W w2)(Ac:OwnI W.heap.size w2 (.slice (some ⟨g',0,none⟩) n' cp') s)(Aa:w3.ownsRow B 57 1 (.slice (some ⟨g3,0,none⟩) (vs.length+1) cap3) (vs.length+1) (vs++[.slice (some ⟨g',0,none⟩) n' cp']))
 (A5:(w2.alloc (.cells #[.slice (some ⟨g',0,none⟩) n' cp'] 57)).grownBy w3 vo.ownBlock)(Sl:vo.ownBlock=some g3\/g3=(w2.alloc (.cells #[.slice (some ⟨g',0,none⟩) n' cp'] 57)).heap.size):
 Left B ob W v l vo vs [s] (w3.setCell ⟨ob,0,none⟩ (.slice (some ⟨g3,0,none⟩) (vs.length+1) cap3)) (.slice (some ⟨g3,0,none⟩) (vs.length+1) cap3) [.slice (some ⟨g',0,none⟩) n' cp']:=by
 have Ak:Ext W (w2.alloc (.cells #[.slice (some ⟨g',0,none⟩) n' cp'] 57)):=A4.alloc _;have Xs:w2.heap.size<=(w2.alloc (.cells #[.slice (some ⟨g',0,none⟩) n' cp'] 57)).heap.size:=by simp
 have Ml:=Ac.alloc (.cells #[.slice (some ⟨g',0,none⟩) n' cp'] 57);generalize w2.alloc (.cells #[.slice (some ⟨g',0,none⟩) n' cp'] 57)=w4 at Ak Xs A5 Ml Sl;have b3:w3.heap[ob]? =some (.cells #[vo] 61):=Z0m A5 (λe=>by have:=(Af.lt _ e.symm).1;omega) (Ak.get Ef);have hA:=VI w3 ⟨ob,0,none⟩ (.slice (some ⟨g3,0,none⟩) (vs.length+1) cap3);have hvo:∀k,vo.ownBlock=some k->B<=k/\k<W.heap.size:=λk hk=>Af.lt k hk
 refine⟨Zb b3 _,by simpa using ownsRow_setCell_below Aa (a:=⟨ob,0,none⟩) On _,⟨ownsRow_setCell_below (Ml.kept A5 ?_) (a:=⟨ob,0,none⟩) (by simp only;omega) _,trivial⟩,ownsRow_setCell_below ((Z00 hv Ak).kept A5 (Z4i hv Af (by decide))) (a:=⟨ob,0,none⟩) On _,
  ⟨hA.os.trans (A5.os.trans Ak.os),hA.tape.trans (A5.tape.trans Ak.tape),hA.output.trans (A5.output.trans Ak.output),by rw[hA.size];exact XD Ak.size A5.size,λk hk hn=> ?_⟩,λk hk Az h1 h2=> ?_,?_⟩
 ·right
  intro e;have h5:=(hvo g' e.symm).2;have h6:=(Ac.lt g' rfl).1;omega
 ·exact(hA.block k hn).trans ((A5.block k (by have:=Ak.size;omega) (λe=>by have:=(hvo k e.symm).1;omega)).trans (Ak.old k (by omega)))
 ·exact(hA.block k (by simp only;omega)).trans ((A5.block k (by have:=Ak.size;omega) h2).trans (Ak.old k Az))
 ·rcases Sl with h|h
  ·exact .inl h.symm
  ·right
   intro k hk;cases hk;rw[h];exact Ak.size
theorem Zal(a b c m:Int)(base:Option Addr)(n cap:Nat)(L:List Sf)(out:Nat->Bool)(B sb ob wb fb:Nat)(from':Nat)(W:World)(v vo:Value)(l:List Int)(vs:List Value)
 (hC:Ctx a b c m base n cap L out B sb ob wb fb W)(hm:m=(l.length:Int))(hl:0<l.length)(Hk:l.length<=9)(En:vs.length<=100000)(Ef:W.heap[ob]? =some (.cells #[vo] 61))(Af:W.ownsRow B 57 1 vo vs.length vs)(hv:OwnI B W v l):
 Calls prog 137 #[v,from',.pointer (some ⟨sb,0,none⟩),.pointer (some ⟨ob,0,none⟩),.pointer (some ⟨wb,0,none⟩),.pointer (some ⟨fb,0,none⟩)] W λe W'=>(∃u,e= .returned u)/\∃vo' vs2,Left B ob W v l vo vs [l] W' vo' vs2:=by
 obtain⟨g,cp,rfl,Xr,Xt⟩:=hv.form hl;have s3:=Z0 hC.s 3;have o0:=Z0 Ef 0;simp only[YC,YA,YB] at s3 o0;have A3:=hC.lt;have Hb:l.length<=cp:=by
  rcases hv.2 with⟨h,_⟩|⟨g2,c2,cu,he,_,_,h,_⟩
  ·cases h
  ·cases he;exact h
 have Cm:∀W2,Ext W W2->_:=λW2 hE=>Z60 g l.length cp l W2 rfl hl (by omega) Hb (hE.lt Xt) (λj u hu=>by have:=hv.cells (g:=g) rfl j u hu;rw[Z0c] at this;exact hE.cellS this)
 subst hm;go_enter fk Tryz.func137,Tryz.ntmps137;go_wp2
 go_region_law (first
  |(refine Zak rfl 60 #[.slice (some ⟨g,0,none⟩) l.length cp] (by simp[go_sem,execOp]) ((Cm _ (Ext.drew (Ext.rfl' _))).mono ?_);rintro e w2 ⟨g',cp',rfl,Ac,A4⟩;refine⟨_,rfl,?_⟩
    have o2:=A4.cellS o0;have o4:ob<w2.heap.size:=Z5 (A4.get Ef))
  |(refine step_append_lies _ rfl _ _ 61 rfl B 57 Tryz.t57 _ 1 24 u57 i27 t27z t27s t27b rfl (by decide) vo vs.length vs rfl ((Z00 Af (Ext.trans (Ext.drew (Ext.rfl' _)) A4)).alloc _) ⟨_,0,none⟩ 1 1 [.slice (some ⟨g',0,none⟩) l.length cp'] rfl rfl (Z1N _ _ _) (by intro u hu;simp at hu;subst hu;rfl) (by decide) (by simp[maxLen];omega) (by omega) (by have:=hC.sz;have:=A4.size;simp at this⊢;omega) _ rfl ?_
    intro g3 cap3 w3 Aa A5 Ji Sm;have b3:w3.heap[ob]? =some (.cells #[vo] 61):=Z0m A5 (λe=>by have:=(Af.lt _ e.symm).1;omega) (((Ext.rfl' w2).alloc _).get (A4.get Ef));have o3:=Z0 b3 0;have f3:=Z8 b3 0;simp only[YC,YA] at o3))
 all_goals
  go_wp2;refine VE (results_none rfl _ _ _) rfl ?_;exact⟨⟨_,rfl⟩,_,_,ZbT (w2:=w2) hC.sz A3.2.1 Ef Af hv (Ext.trans (Ext.drew (Ext.rfl' _)) A4) Ac Aa A5 Ji⟩
theorem Z3d{base size:Nat}(h:w.ownsRow base e size v n xs)(hs:∀k,v.ownBlock=some k->w'.heap[k]? =w.heap[k]?):w'.ownsRow base e size v n xs:=by
 refine⟨h.1,?_⟩;rcases h.2 with h|⟨g,cap,cur,rfl,h1,h2,h3⟩
 ·exact .inl h
 ·exact .inr ⟨g,cap,cur,rfl,h1,(hs g rfl).trans h2,h3⟩
theorem Z8z{base size m:Nat}(h:w.ownsRow base e size (.slice (some ⟨g,0,none⟩) (k+m) cap) (k+m) (xs++ys))(hx:xs.length=k*size):w.ownsRow base e size (.slice (some ⟨g,0,none⟩) k cap) k xs:=by
 refine⟨hx,.inr ?_⟩;rcases h.2 with⟨h,_⟩|⟨g2,cap2,cur2,he,As,C7,Az,E3,Cn,Nm⟩
 ·cases h
 ·cases he;refine⟨g,cap,cur2,rfl,As,C7,by omega,E3,Cn,?_⟩;have h8:(cur2.toList.take ((k+m)*size)).take (k*size)=xs:=by rw[Nm];rw[<-hx];exact List.take_left
  rw[List.take_take,RS (TS _ (QN _ _))] at h8;exact h8
theorem Z50{S:List (List Int)}{o:Obj}(On:ob<B)(hB:B<=W.heap.size)(hv:OwnI B W v l)(hL:Left B ob W v l vo vs S wr vo' vs2)(C0:(wr.alloc o).grownBy w3 v.ownBlock)(B6:OwnI B w3 v l):
 Left B ob W v l vo vs S w3 vo' vs2/\BelowX B ob wr w3/\Each (λu s=>OwnI W.heap.size w3 u s/\∀k,u.ownBlock=some k->k<wr.heap.size) vs2 S:=by
 have hE:Ext wr (wr.alloc o):=(Ext.rfl' wr).alloc o;have Mm:∀k,v.ownBlock=some k->B<=k/\k<W.heap.size:=λk hk=>hv.lt k hk
 have hX:BelowX B ob wr w3:=⟨C0.os,C0.tape,C0.output,XD hE.size C0.size,λk hk _=>(C0.block k (by have:=hE.size;have:=hL.below.size;omega) (λe=>by have:=(Mm k e.symm).1;omega)).trans (hE.old k (by have:=hL.below.size;omega))⟩
 have Bn:Each (λu s=>OwnI W.heap.size w3 u s/\∀k,u.ownBlock=some k->k<wr.heap.size) vs2 S:=hL.new.mono λu s h=>⟨(Z00 h hE).kept C0 (by
  cases hu:u.ownBlock with
  |none=>exact .inl rfl
  |some k=>
   right
   intro e;have h1:=(h.lt k hu).1;have h2:=(Mm k e.symm).2;omega),λk hk=>(h.lt k hk).2⟩
 refine⟨⟨(C0.block ob (by have:=hE.size;have:=hL.below.size;omega) (λe=>by have:=(Mm ob e.symm).1;omega)).trans (hE.get hL.out),(Z00 hL.row hE).kept C0 (Z4i hL.row hL.cur (by decide)),Bn.mono λu s h=>h.1,B6,hL.below.trans hX,λk hk Az h1 h2=> ?_,hL.at'⟩,hX,Bn⟩;exact(C0.block k (by have:=hE.size;have:=hL.below.size;omega) h1).trans ((hE.old k (by have:=hL.below.size;omega)).trans (hL.old k hk Az h1 h2))
theorem Z7H{S:List (List Int)}(hB:B<=W.heap.size)(hL:Left B ob W v l vo vs S w3 vo' vs2)(hE:Ext w3 w4):Left B ob W v l vo vs S w4 vo' vs2:=
 ⟨hE.get hL.out,Z00 hL.row hE,hL.new.mono λu s h=>Z00 h hE,Z00 hL.cur hE,hL.below.trans (Z15 hE (XD hB hL.below.size)),λk hk Az h1 h2=>(hE.old k (by have:=hL.below.size;omega)).trans (hL.old k hk Az h1 h2),hL.at'⟩
theorem Zam{N:Nat}{S S':List (List Int)}(hB:B<=W.heap.size)(hv:OwnI B W v l)(hN:W.heap.size<=N)(hL:Left B ob W v l vo vs S w4 vo' vs2)(Bn:Each (λu s=>OwnI W.heap.size w4 u s/\∀k,u.ownBlock=some k->k<N) vs2 S)
 (Sl:v= .slice (some ⟨g',0,none⟩) l.length cap1\/N<=g')(hR:Left B ob w4 (.slice (some ⟨g',0,none⟩) (l.length+1) cap1) (l++[p]) vo' (vs++vs2) S' w5 vo2 vs3):Left B ob W v l vo vs (S++S') w5 vo2 (vs2++vs3):=by
 have Mm:∀k,v.ownBlock=some k->B<=k/\k<W.heap.size:=λk hk=>hv.lt k hk
 have B1:=hL.below.size;have hg:∀k,k<N->(∀q,v.ownBlock=some q->k≠q)->some k≠(Value.slice (some ⟨g',0,none⟩) (l.length+1) cap1).ownBlock:=by
  intro k hk hq e;replace e:some k=some g':=e;cases e;rcases Sl with rfl|h
  ·exact hq _ rfl rfl
  ·omega
 refine⟨hR.out,by have:=hR.row;rwa [QG] at this,Each.append (Bn.mono λu s h=>Z3d h.1 λk hk=> ?_) (hR.new.mono λu s h=>Z05 h B1),?_,hL.below.trans hR.below,λk hk Az h1 h2=> ?_,?_⟩
 ·have hu:=h.1.lt k hk;refine hR.old k (by omega) hu.2 (hg k (h.2 k hk) λq hq e=>by have:=(Mm q hq).2;omega) ?_;rcases Z4i h.1 hL.row (by decide) with h5|h5
  ·rw[hk] at h5;cases h5
  ·rw[<-hk];exact h5
 ·rcases Sl with rfl|h
  ·refine Z8z (m:=1) (ys:=[.int .i64 p]) ?_ (by simp);have:=hR.cur;unfold OwnI at this;simpa using this
  ·refine Z3d hL.cur λk hk=> ?_
   refine hR.old k (Mm k hk).1 (by have:=(Mm k hk).2;omega) ?_ ?_
   ·intro e;replace e:some k=some g':=e;cases e;have:=(Mm _ hk).2;omega
   ·rcases Z4i hL.cur hL.row (by decide) with h5|h5
    ·rw[hk] at h5;cases h5
    ·rw[<-hk];exact h5
 ·refine(hR.old k hk (by omega) (hg k (by omega) λq hq e=>h1 (by rw[hq,e])) ?_).trans (hL.old k hk Az h1 h2);rcases hL.at' with h5|h5
  ·rw[h5];exact h2
  ·intro e;have:=h5 k e.symm;omega
 ·rcases hR.at' with h5|h5
  ·rw[h5];exact hL.at'
  ·right;intro k hk;have:=h5 k hk;omega
theorem Z61{i:Nat}(h:i<n):List.range' i (n - i)=i::List.range' (i+1) (n - (i+1)):=by
 obtain⟨d,rfl⟩:∃d,n=i+(d+1):=⟨n - i - 1,by omega⟩;rw[show i+(d+1) - i=d+1 by omega,show i+(d+1) - (i+1)=d by omega];rfl
theorem Zan(a b c m:Int)(base:Option Addr)(n cap:Nat)(L:List Sf)(out:Nat->Bool)(B sb ob wb fb:Nat)(hG:Good a b c L)(A1:L.length=n)(hn:n<=9)(hm:2<=m/\m<=4):
 ∀(f:Nat)(l:List Int)(i0:Nat)(W:World)(v vo:Value)(vs:List Value),(l.length:Int)+f=m->i0<=n->(∀p∈l,0<=p/\p<n)->vs.length+(Zt a b c L n out f l i0).length<=100000->
 Ctx a b c m base n cap L out B sb ob wb fb W->W.heap[ob]? =some (.cells #[vo] 61)->W.ownsRow B 57 1 vo vs.length vs->OwnI B W v l->
 Calls prog 137 #[v,i0,.pointer (some ⟨sb,0,none⟩),.pointer (some ⟨ob,0,none⟩),.pointer (some ⟨wb,0,none⟩),.pointer (some ⟨fb,0,none⟩)] W λe W'=>(∃u,e= .returned u)/\∃vo' vs2,Left B ob W v l vo vs (Zt a b c L n out f l i0) W' vo' vs2:=by
 intro f
 induction f with
 |zero=>
  intro l i0 W v vo vs Qb Cj Ao Dv hC Ef Af hv;exact Zal a b c m base n cap L out B sb ob wb fb i0 W v vo l vs hC (by omega) (by omega) (by omega) (by omega) Ef Af hv
 |succ f ih=>
  intro l i0 W v vo vs Qb Cj Ao Dv hC Ef Af hv;obtain⟨F,hF⟩:∃F:Nat->List (List Int),F=fun(k:Nat)=>if out k=false/\Zr (apA a b c L (l++[(k:Int)]))=1 then Zt a b c L n out f (l++[(k:Int)]) (k+1) else[]:=⟨_,rfl⟩
  have Jj:Hid (Zt a b c L n out (f+1) l i0=[]++(List.range' i0 (n - i0)).flatMap F):=by show _=_;rw[hF];rfl
  obtain⟨ao,cp,rfl⟩:∃ao cp,v= .slice ao l.length cp:=by
   rcases hv.2 with⟨rfl,h⟩|⟨g,cp,_,rfl,_⟩
   ·exact⟨none,0,by rw[h]⟩
   ·exact⟨_,cp,rfl⟩
  have s3:=Z0 hC.s 3;have sh:=Z0 hC.s 4;simp only[YC,YA,YB] at s3 sh;have A3:=hC.lt;have A9:((l.length:Int)==m)=false:=by simp;omega
  have So:l.length<4:=by omega
  have Oo:=hC.lt.2.1;generalize Zt a b c L n out (f+1) l i0=T at Jj Dv⊢;go_enter fk Tryz.func137,Tryz.ntmps137;go_wp2;go_loopw [8] (λv8 wr=>∃i:Nat,i<=n/\v8= .int .i64 i/\∃vo' vs2 S,Left B ob W (.slice ao l.length cp) l vo vs S wr vo' vs2/\Hid (T=S++(List.range' i (n - i)).flatMap F)) (λv _=>n - (intOf v).toNat)
  case atStart=>exact⟨i0,Cj,rfl,vo,[],[],⟨Ef,by simpa using Af,trivial,hv,BelowX.refl _ _ _,λ_ _ _ _ _=>rfl,.inl rfl⟩,Jj⟩
  case round=>
   obtain⟨i,hi,rfl,vo',vs2,S,hL,hT⟩:=hrel;have Hc:=hC.step hL.below;have t4:=Z0 Hc.s 4;simp only[YC,YA,YB] at t4;by_cases Xu:i=n
   ·subst Xu;have hTS:T=S:=(by rw[hT.out];simp);clear hT;subst hTS;go_wp2;refine bodyPost_end (results_none rfl _ _ _) rfl ?_;exact⟨⟨_,rfl⟩,_,_,hL⟩
   ·have Xv:i<n:=(by omega);have Qc:Hid (T=S++(F i++(List.range' (i+1) (n - (i+1))).flatMap F)):=(by show _=_;rw[hT.out,Z61 Xv,UE]);clear hT;have B8:=hL.new.length;have hi9:(i:Int)<9:=(by omega);have Rj:(0:Int)<=(i:Int):=(by omega);by_cases I7:out i=true
    ·have Sq:F i=[]:=(by rw[hF];simp[I7]);have Oq:Hid (T=S++(List.range' (i+1) (n - (i+1))).flatMap F):=(by show _=_;rw[Qc.out,Sq,YJ]);clear Qc
     go_wp2_with (
      at_builtin
      refine Z0I _ rfl _ _ _ rfl B 3 Tryz.t3 (.int .i64 0) 1 8 Go.Proofs.Tryq.u27 i3 t3z t3s t3b rfl (by omega) (.slice ao l.length cp) l.length (l.map (Value.int .i64)) rfl (hL.cur.alloc _) ⟨wr.heap.size,0,none⟩ 1 1 [.int .i64 i] rfl rfl (Z1N _ _ _) (by intro u hu;simp at hu;subst hu;rfl) (by decide) (by simp[maxLen];omega) (by omega) (by have:=Hc.sz;simp;omega) ?_;intro g' cap' w3 Aa A5 Gc Ji;obtain⟨Sr,Ss,Xw⟩:=Z50 Oo hC.sz hv hL A5 Gc;have w3i:=(Hc.step Ss).wo i (by omega);rw[I7] at w3i)
     exact⟨⟨i+1,by omega,by push_cast;rfl,_,_,_,Sr,Oq⟩,by simp[intOf];omega⟩
    ·have Jk:out i=false:=(by simpa using I7);clear I7;have Fd:∀p∈l++[(i:Int)],0<=p/\p<n:=by
      intro p hp;rcases VB.1 hp with h|h
      ·exact Ao p h
      ·cases XO.1 h;omega
     have Fe:∀(w3:World)(g' cap':Nat),Ctx a b c m base n cap L out B sb ob wb fb w3->w3.ownsRow B 3 1 (.slice (some ⟨g',0,none⟩) (l.length+1) cap') (l.length+1) (l.map (Value.int .i64)++[.int .i64 i])->OwnI B w3 (.slice (some ⟨g',0,none⟩) (l.length+1) cap') (l++[(i:Int)])/\
      Calls prog 56 #[.agg #[a,b,c,m,.slice base n cap],.slice (some ⟨g',0,none⟩) (l.length+1) cap'] w3 λe w'=>e= .returned (.int .i64 (Zr (apA a b c L (l++[(i:Int)]))))/\Ext w3 w':=by
      intro w3 g' cap' E4 Aa;have ho:OwnI B w3 (.slice (some ⟨g',0,none⟩) (l.length+1) cap') (l++[(i:Int)]):=(by simpa[OwnI] using Aa);have Cm:l.length+1<=cap':=by
       rcases Aa.2 with⟨h,_⟩|⟨g2,c2,cu,he,_,_,h,_⟩
       ·cases h
       ·cases he;exact h
      have hMS:=E4.keep w3 (BelowX.refl _ _ _);exact⟨ho,Z5X a b c m base n cap L (some ⟨g',0,none⟩) (l.length+1) cap' (l++[(i:Int)]) w3 hG A1 (by omega) (by simp) Cm (by omega) Fd hMS.1 hMS.2 ho.raw⟩
     by_cases Ee:Zr (apA a b c L (l++[(i:Int)]))=1
     ·have Sq:F i=Zt a b c L n out f (l++[(i:Int)]) (i+1):=(by rw[hF];simp[Jk,Ee]);have Oq:Hid (T=(S++Zt a b c L n out f (l++[(i:Int)]) (i+1))++(List.range' (i+1) (n - (i+1))).flatMap F):=(by show _=_;rw[Qc.out,Sq,QG]);have Su:(vs++vs2).length+(Zt a b c L n out f (l++[(i:Int)]) (i+1)).length<=100000:=by
       have:=SG List.length Oq.out;simp only[XK] at this⊢;omega
      have ihi:=λw4 g' cap' h1 h2 h3 h4=>ih (l++[(i:Int)]) (i+1) w4 (.slice (some ⟨g',0,none⟩) (l.length+1) cap') vo' (vs++vs2) (by simp;omega) (by omega) Fd Su h1 h2 h3 h4
      rw[Ee] at Fe;rw[show((i+1:Nat):Int)=(i:Int)+1 from rfl] at ihi;clear Qc ih Dv Su;generalize Zt a b c L n out f (l++[(i:Int)]) (i+1)=S' at ihi Oq
      go_wp2_with (first
       |(at_builtin
         refine Z0I _ rfl _ _ _ rfl B 3 Tryz.t3 (.int .i64 0) 1 8 Go.Proofs.Tryq.u27 i3 t3z t3s t3b rfl (by omega) (.slice ao l.length cp) l.length (l.map (Value.int .i64)) rfl (hL.cur.alloc _) ⟨wr.heap.size,0,none⟩ 1 1 [.int .i64 i] rfl rfl (Z1N _ _ _) (by intro u hu;simp at hu;subst hu;rfl) (by decide) (by simp[maxLen];omega) (by omega) (by have:=Hc.sz;simp;omega) ?_;intro g' cap' w3 Aa A5 Gc Ji;obtain⟨Sr,Ss,Xw⟩:=Z50 Oo hC.sz hv hL A5 Gc;have E4:=Hc.step Ss;have w3i:=E4.wo i (by omega);rw[Jk] at w3i;have q0:=Z0 E4.s 0;have q1:=Z0 E4.s 1;have q2:=Z0 E4.s 2;have q3:=Z0 E4.s 3;have q4:=Z0 E4.s 4;simp only[YC,YA,YB] at q0 q1 q2 q3 q4;obtain⟨Gp,Xx⟩:=Fe w3 g' cap' E4 Aa)
       |(go_at_call 56;refine Xx.mono ?_;rintro e w4 ⟨rfl,Ak⟩
         have Qd:=E4.step (Z15 Ak E4.sz);have y0:=Z0 Qd.fn 0;have Sv:=Z7H hC.sz Sr Ak;have hN4:Each (λu s=>OwnI W.heap.size w4 u s/\∀k,u.ownBlock=some k->k<wr.heap.size) vs2 S:=Xw.mono λu s h=>⟨h.1.ext Ak,h.2⟩
         have Qe:=ihi w4 g' cap' Qd Sv.out Sv.row (Gp.ext Ak);simp only[YC,YA] at y0)
       |(go_at_call 137;refine Qe.mono ?_;rintro e w5 ⟨⟨u,rfl⟩,vo2,vs3,hR⟩))
      have hL5:=Zam (N:=wr.heap.size) hC.sz hv hL.below.size Sv hN4 (Ji.imp id (λh=>by simp at h;omega)) hR;exact⟨⟨i+1,by omega,by push_cast;rfl,_,_,_,hL5,Oq⟩,by simp[intOf];omega⟩
     ·have Sq:F i=[]:=(by rw[hF];simp[Ee]);have Oq:Hid (T=S++(List.range' (i+1) (n - (i+1))).flatMap F):=(by show _=_;rw[Qc.out,Sq,YJ]);clear Qc ih Dv;generalize Zr (apA a b c L (l++[(i:Int)]))=mv at Ee Fe;have hm2:(mv==1)=false:=by simpa using Ee
      go_wp2_with (first
       |(at_builtin
         refine Z0I _ rfl _ _ _ rfl B 3 Tryz.t3 (.int .i64 0) 1 8 Go.Proofs.Tryq.u27 i3 t3z t3s t3b rfl (by omega) (.slice ao l.length cp) l.length (l.map (Value.int .i64)) rfl (hL.cur.alloc _) ⟨wr.heap.size,0,none⟩ 1 1 [.int .i64 i] rfl rfl (Z1N _ _ _) (by intro u hu;simp at hu;subst hu;rfl) (by decide) (by simp[maxLen];omega) (by omega) (by have:=Hc.sz;simp;omega) ?_;intro g' cap' w3 Aa A5 Gc Ji;obtain⟨Sr,Ss,Xw⟩:=Z50 Oo hC.sz hv hL A5 Gc;have E4:=Hc.step Ss;have w3i:=E4.wo i (by omega);rw[Jk] at w3i;have q0:=Z0 E4.s 0;have q1:=Z0 E4.s 1;have q2:=Z0 E4.s 2;have q3:=Z0 E4.s 3;have q4:=Z0 E4.s 4;simp only[YC,YA,YB] at q0 q1 q2 q3 q4;obtain⟨Gp,Xx⟩:=Fe w3 g' cap' E4 Aa)
       |(go_at_call 56;refine Xx.mono ?_;rintro e w4 ⟨rfl,Ak⟩
         have Sv:=Z7H hC.sz Sr Ak))
      exact⟨⟨i+1,by omega,by push_cast;rfl,_,_,_,Sv,Oq⟩,by simp[intOf];omega⟩
theorem Z3L(a b c:Int)(L:List Sf)(n:Nat)(out:Nat->Bool)(hn:n<=9):∀(f:Nat)(l:List Int)(i:Nat),(Zt a b c L n out f l i).length<=9 ^ f
 |0,l,i=>by simp[Zt]
 |f+1,l,i=>by
  rw[Zt,List.length_flatMap];have h:∀(r:List Nat),((r.map fun(k:Nat)=>(if out k=false/\Zr (apA a b c L (l++[(k:Int)]))=1 then Zt a b c L n out f (l++[(k:Int)]) (k+1) else[]).length)).sum<=r.length*9 ^ f:=by
   intro r
   induction r with
   |nil=>simp
   |cons k r ih=>
    simp only[VC,List.sum_cons,YP];have:(if out k=false/\Zr (apA a b c L (l++[(k:Int)]))=1 then Zt a b c L n out f (l++[(k:Int)]) (k+1) else[]).length<=9 ^ f:=by
     split
     ·exact Z3L a b c L n out hn f _ _
     ·simp
    rw[QF,Nat.one_mul];omega
  refine XD (h _) ?_;rw[List.length_range',Nat.pow_succ,Nat.mul_comm];exact Nat.mul_le_mul_left _ (by omega)
def Zs(out:Nat->Bool):Array Value:= #[.bool (out 0),.bool (out 1),.bool (out 2),.bool (out 3),.bool (out 4),.bool (out 5),.bool (out 6),.bool (out 7),.bool (out 8)]
theorem Z1u(out:Nat->Bool)(i:Nat)(h:i<9):(Zs out)[i]? =some (.bool (out i)):=by
 match i,h with
 |0,_|1,_|2,_|3,_|4,_|5,_|6,_|7,_|8,_=>rfl
theorem ZbU(a b c m:Int)(base:Option Addr)(n cap:Nat)(L:List Sf)(out:Nat->Bool)(w:World)(hG:Good a b c L)(A1:L.length=n)(hn:n<=9)(hm:2<=m/\m<=4)(hM:Meas w)(hS:RawA w base L):
 Calls prog 105 #[.agg #[a,b,c,m,.slice base n cap],.agg (Zs out)] w λe w'=>∃v vs,e= .returned v/\w'.ownsRow w.heap.size 57 1 v vs.length vs/\Each (λu s=>OwnI w.heap.size w' u s) vs (Zt a b c L n out m.toNat [] 0)/\Ext w w':=by
 have B8:(Zt a b c L n out m.toNat [] 0).length<=100000:=by
  refine XD (Z3L a b c L n out hn m.toNat [] 0) ?_;have:m.toNat=2\/m.toNat=3\/m.toNat=4:=by omega
  rcases this with h|h|h<;>rw[h]<;>decide
 have Ab:Ext w ((((w.alloc (.cells #[a,b,c,m,.slice base n cap] 117)).alloc (.cells (Zs out) 125)).alloc (.cells #[.slice none 0 0] 61)).alloc (.cells #[.func (.func 137) #[] #[.pointer (some ⟨w.heap.size,0,none⟩),.pointer (some ⟨w.heap.size+1+1,0,none⟩),.pointer (some ⟨w.heap.size+1,0,none⟩),.pointer (some ⟨w.heap.size+1+1+1,0,none⟩)]] 234)):=((((Ext.rfl' w).alloc _).alloc _).alloc _).alloc _
 have Cu:∀W,W=((((w.alloc (.cells #[a,b,c,m,.slice base n cap] 117)).alloc (.cells (Zs out) 125)).alloc (.cells #[.slice none 0 0] 61)).alloc (.cells #[.func (.func 137) #[] #[.pointer (some ⟨w.heap.size,0,none⟩),.pointer (some ⟨w.heap.size+1+1,0,none⟩),.pointer (some ⟨w.heap.size+1,0,none⟩),.pointer (some ⟨w.heap.size+1+1+1,0,none⟩)]] 234))->
  Calls prog 137 #[.slice none 0 0,.int .i64 0,.pointer (some ⟨w.heap.size,0,none⟩),.pointer (some ⟨w.heap.size+1+1,0,none⟩),.pointer (some ⟨w.heap.size+1,0,none⟩),.pointer (some ⟨w.heap.size+1+1+1,0,none⟩)] W λe W'=>(∃u,e= .returned u)/\∃vo' vs2,Left (w.heap.size+4) (w.heap.size+1+1) W (.slice none 0 0) [] (.slice none 0 0) [] (Zt a b c L n out m.toNat [] 0) W' vo' vs2:=by
  intro W hW;have B1:W.heap.size=w.heap.size+4:=by rw[hW];simp only[Z2]
  have g0:W.heap[w.heap.size]? =some (.cells #[a,b,c,m,.slice base n cap] 117):=by rw[hW];simp only[Z3,Z2];rw[XA (by omega),XA (by omega),XA (by omega),YZ trivial]
  have g1:W.heap[w.heap.size+1]? =some (.cells (Zs out) 125):=by rw[hW];simp only[Z3,Z2];rw[XA (by omega),XA (by omega),YZ trivial]
  have g2:W.heap[w.heap.size+1+1]? =some (.cells #[.slice none 0 0] 61):=by rw[hW];simp only[Z3,Z2];rw[XA (by omega),YZ trivial]
  have g3:W.heap[w.heap.size+1+1+1]? =some (.cells #[.func (.func 137) #[] #[.pointer (some ⟨w.heap.size,0,none⟩),.pointer (some ⟨w.heap.size+1+1,0,none⟩),.pointer (some ⟨w.heap.size+1,0,none⟩),.pointer (some ⟨w.heap.size+1+1+1,0,none⟩)]] 234):=by rw[hW];simp only[Z3,Z2];rw[YZ trivial]
  have hE:Ext w W:=by rw[hW];exact Ab
  refine Zan a b c m base n cap L out (w.heap.size+4) (w.heap.size) (w.heap.size+1+1) (w.heap.size+1) (w.heap.size+1+1+1) hG A1 hn hm m.toNat [] 0 W (.slice none 0 0) (.slice none 0 0) [] (by simp;omega) (XS _) (by intro p hp;cases hp) (by simpa using B8)
   ⟨g0,λi hi=>by rw[Z0 g1];exact Z1u out i hi,g3,λW' hX=> ?_,by omega,by omega⟩ g2 (VN _ _ _ _) (VN _ _ _ _)
  have A4:Ext w W':=hX.ext hE (by omega) (by omega);exact⟨hM.ext A4,hS.ext A4⟩
 generalize Zt a b c L n out m.toNat [] 0=T at Cu B8⊢;generalize Ez:Zs out=no at Ab Cu;have Xy:no.size=9:=by rw[<-Ez];rfl
 go_enter fk Tryz.func105,Tryz.ntmps105
 go_wp2_with (
  go_at_call 137;refine(Cu _ rfl).mono ?_;rintro e w5 ⟨⟨u,rfl⟩,vo2,vs3,hL⟩
  have y0:=Z0 hL.out 0;simp only[YC,YA] at y0)
 go_ret;exact⟨vo2,vs3,rfl,Z05 (by simpa using hL.row) (by omega),hL.new.mono λu s h=>Z05 h Ab.size,hL.below.ext Ab (by omega) (by omega)⟩
def byL(T:List (List Int))(i:Nat):List (List Int):=T.filter λl=>l.head? ==some (i:Int)
def take1:(Nat->Bool)->List Int->Option (Nat->Bool)
 |u,[]=>some u
 |u,p::t=>if u p.toNat=true then none else take1 (λj=>u j||j==p.toNat) t
def Z0q(a b:List (List Int)):List (List Int):=if a.length<b.length then b else a
def ZL(used:Nat->Bool)(best:(Nat->Bool)->List (List Int))(most:List (List Int))(l:List Int):List (List Int):=match take1 used l with
 |none=>most
 |some now=>Z0q most (l::best now)
def Zk(T:List (List Int)):Nat->Nat->(Nat->Bool)->List (List Int)
 |0,_,_=>[]
 |d+1,i,used=>Z0q ((byL T i).foldl (ZL used (Zk T d (i+1))) []) (Zk T d (i+1) used)
def Z51(i:Nat)(used:Nat->Bool):Nat->Bool:=λj=>decide (j<i)||used j
def Z62(T:List (List Int)):Prop:=∀l∈T,∀h,l.head? =some h->∀p∈l,h<=p
theorem Z6P(b:List (List Int)):Z0q [] b=b:=by
 cases b<;>simp[Z0q]
def Zep(N i:Nat)(u u':Nat->Bool):Prop:=∀j,i<=j->j<N->u j=u' j
theorem Z4j{N i:Nat}:∀{l:List Int}{u u':Nat->Bool},Zep N i u u'->(∀p∈l,(i:Int)<=p/\p<N)->(take1 u l=none/\take1 u' l=none)\/∃v v',take1 u l=some v/\take1 u' l=some v'/\Zep N i v v'
 |[],u,u',h,_=> .inr ⟨u,u',rfl,rfl,h⟩
 |p::t,u,u',h,hl=>by
  have hp:=hl p YY;have he:u p.toNat=u' p.toNat:=h _ (by omega) (by omega);by_cases hu:u p.toNat=true
  ·exact .inl ⟨by rw[take1,YZ hu],by rw[take1,YZ (he▸hu)]⟩
  ·rw[take1,XA hu,take1,XA (he▸hu)];exact Z4j (λj hj Lh=>by rw[h j hj Lh]) λq hq=>hl q (YW _ hq)
theorem Z6Q{T:List (List Int)}(hT:Z62 T){i:Nat}{l:List Int}(h:l∈byL T i):(∀p∈l,(i:Int)<=p)/\∃t,l=(i:Int)::t:=by
 obtain⟨h1,h2⟩:=UP.1 h;have hh:l.head? =some (i:Int):=by simpa using h2
 refine⟨hT l h1 _ hh,?_⟩;cases l with
 |nil=>cases hh
 |cons x t=>cases hh;exact⟨t,rfl⟩
theorem Z63{used used':Nat->Bool}{best best':(Nat->Bool)->List (List Int)}:∀{B:List (List Int)}{m:List (List Int)},(∀l∈B,∀m,ZL used best m l=ZL used' best' m l)->B.foldl (ZL used best) m=B.foldl (ZL used' best') m
 |[],_,_=>rfl
 |l::B,m,h=>by
  rw[VM,VM,h l YY];exact Z63 λl' hl'=>h l' (YW _ hl')
theorem Z1W{T:List (List Int)}{N:Nat}(hT:Z62 T)(hN:∀l∈T,∀p∈l,p<(N:Int)):∀(d i:Nat)(u u':Nat->Bool),Zep N i u u'->Zk T d i u=Zk T d i u'
 |0,_,_,_,_=>rfl
 |d+1,i,u,u',h=>by
  have h1:∀{v v':Nat->Bool},Zep N i v v'->Zep N (i+1) v v':=λh j hj Lh=>h j (by omega) Lh
  rw[Zk,Zk,Z1W hT hN d (i+1) u u' (h1 h)];congr 1;refine Z63 λl hl m=> ?_
  rcases Z4j h (λp hp=>⟨(Z6Q hT hl).1 p hp,hN l (UP.1 hl).1 p hp⟩) with⟨e1,e2⟩|⟨v,v',e1,e2,hs⟩
  ·simp only[ZL,e1,e2]
  ·simp only[ZL,e1,e2];rw[Z1W hT hN d (i+1) v v' (h1 hs)]
theorem Z8A{T:List (List Int)}(hT:Z62 T)(d i:Nat)(u:Nat->Bool)(hu:u i=true):Zk T (d+1) i u=Zk T d (i+1) u:=by
 rw[Zk];have:∀(B:List (List Int))(m:List (List Int)),(∀l∈B,l∈byL T i)->B.foldl (ZL u (Zk T d (i+1))) m=m:=by
  intro B
  induction B with
  |nil=>intro m _;rfl
  |cons l B ih=>
   intro m h;obtain⟨t,rfl⟩:=(Z6Q hT (h l YY)).2;rw[VM];have:ZL u (Zk T d (i+1)) m ((i:Int)::t)=m:=by
    have e:take1 u ((i:Int)::t)=none:=(by rw[take1,YZ (by simpa using hu)]);simp only[ZL,e]
   rw[this];exact ih m λl' hl'=>h l' (YW _ hl')
 rw[this _ _ λl hl=>hl,Z6P]
theorem Zao{T:List (List Int)}{N:Nat}(hT:Z62 T)(hN:∀l∈T,∀p∈l,p<(N:Int))(d i:Nat)(u:Nat->Bool):Zk T d i u=Zk T (i+d) 0 (Z51 i u):=by
 have h:∀k,k<=i->Zk T (i - k+d) k (Z51 i u)=Zk T d i (Z51 i u):=by
  intro k hk;obtain⟨q,hq⟩:∃q,i - k=q:=⟨_,rfl⟩
  induction q generalizing k with
  |zero=>
   have:k=i:=by omega
   subst this;rw[hq,UA]
  |succ q ih=>
   rw[hq,show q+1+d=(q+d)+1 by omega,Z8A hT _ _ _ (by simp[Z51];omega)];have:=ih (k+1) (by omega) (by omega)
   rwa [show i - (k+1)=q by omega] at this
 have h0:=h 0 (XS _);rw[Nat.sub_zero] at h0;rw[h0];exact Z1W hT hN d i u _ λj hj _=>by simp[Z51];omega
section
open Go.WideMaps
variable [Tw]
open Go.Maps (Keyed)
theorem u138:gp.underlying 125=some (.array 9 4):=(underlying_eq 125).trans Tryz.underlying125
theorem u4:gp.underlying 4=some .bool:=(underlying_eq 4).trans Tryz.underlying4
theorem u182:gp.underlying 181=some (.map 3 61):=(underlying_eq 181).trans Tryz.underlying181
theorem u183:gp.underlying 182=some (.map 125 61):=(underlying_eq 182).trans Tryz.underlying182
theorem u3:gp.underlying 3=some (.int .i64):=(underlying_eq 3).trans Tryz.underlying3
theorem arr138:ArrKey gp 125 4 9:=⟨u138,by kernel_rfl,by kernel_rfl,by kernel_rfl⟩
theorem K138:Keyed gp 125:=Keyed.of_law arr138.law
theorem K3:Keyed gp 3:=Go.Maps.int_keyed u3
theorem sizeT:∃m,gp.types.size=m+1:=by
 have h:(0:Nat)<gp.types.size:=TR (by kernel_rfl);exact⟨gp.types.size - 1,by omega⟩
theorem Z4k(out:Nat->Bool):∃kl,keyOf gp 125 (.agg (Zs out))=some kl:=by
 have hkt:=arr138.keyType sizeT;obtain⟨m,hm⟩:=sizeT;refine⟨.string (keyBytes ((List.range 9).map λi=> .bool (out i))),?_⟩;unfold keyOf;simp only[u138];rw[YZ (by simp[hkt,Value.formed,u138,arr138.size,Zs]),hm];unfold Program.keyLits;simp only[u138,Value.cells];rw[YZ (by rw[arr138.size];rfl),show List.range 9=[0,1,2,3,4,5,6,7,8] from rfl];simp only[List.mapM_cons,List.mapM_nil];simp[arr138.one,Program.keyLits,u4,Zs]
theorem Z3M(i:Nat)(h:i<100):∃kl,keyOf gp 3 (.int .i64 i)=some kl:=by
 unfold keyOf;simp only[u3];refine⟨.int .i64 i,?_⟩;unfold mapKey;simp[u3];have h1:IntKind.i64.min= -9223372036854775808:=by decide
 have h2:IntKind.i64.max=9223372036854775807:=by decide
 simp only[Lit.wf,h1,h2,YG,XG];omega
theorem Zap(w:World):(zeroValue 61).run gp w= .ok (.slice none 0 0) w:=by kernel_rfl
theorem ZbV(h:Zs out=Zs out'):∀i,i<9->out i=out' i:=by
 intro i hi;have h1:=Z1u out i hi;rw[h,Z1u out' i hi] at h1;simpa using h1.symm
theorem Z52(out:Nat->Bool)(i:Nat)(h:i<9):(Zs out).setIfInBounds i (.bool true)=Zs (λj=>out j||j==i):=by
 match i,h with
 |0,_|1,_|2,_|3,_|4,_|5,_|6,_|7,_|8,_=>simp[Zs]
theorem Z1o(h:∀i,i<9->out i=out' i):Zs out=Zs out':=by
 simp only[Zs,h 0 (by omega),h 1 (by omega),h 2 (by omega),h 3 (by omega),h 4 (by omega),h 5 (by omega),h 6 (by omega),h 7 (by omega),h 8 (by omega)]
end
theorem Z2A(a b c:Int)(L:List Sf)(n:Nat)(out:Nat->Bool):∀(f:Nat)(l:List Int)(i:Nat)(s:List Int),s∈Zt a b c L n out f l i->(∀p∈l,0<=p/\p<i/\p<n)->l.Pairwise (·<·)->s.Pairwise (·<·)/\(∀p∈s,0<=p/\p<n)/\s.length=l.length+f
 |0,l,i,s,hs,hl,hp=>by
  cases XO.1 hs;exact⟨hp,λp h=>⟨(hl p h).1,(hl p h).2.2⟩,rfl⟩
 |f+1,l,i,s,hs,hl,hp=>by
  obtain⟨k,hk,hs⟩:=SR.1 hs;rw[List.mem_range'_1] at hk;split at hs
  ·have:=Z2A a b c L n out f (l++[(k:Int)]) (k+1) s hs (by
    intro p hp;rcases VB.1 hp with h|h
    ·have:=hl p h;omega
    ·cases XO.1 h;omega) (by
    rw[SN];refine⟨hp,by simp,λx hx y hy=> ?_⟩;cases XO.1 hy;have:=hl x hx;omega)
   refine⟨this.1,this.2.1,?_⟩;rw[this.2.2];simp;omega
  ·cases hs
theorem Z6R(a b c:Int)(L:List Sf)(n f:Nat)(out:Nat->Bool):Z62 (Zt a b c L n out f [] 0):=by
 intro l hl h hh p hp;obtain⟨h1,_⟩:=Z2A a b c L n out f [] 0 l hl (by simp) List.Pairwise.nil;cases l with
 |nil=>cases hp
 |cons x t=>
  cases hh;rcases XE.1 hp with rfl|hp
  ·exact RE _
  ·exact Int.le_of_lt (TP h1 hp)
def Shr(B:Nat)(w:World)(v:Value)(ls:List (List Int)):Prop:=(ls=[]->v= .slice none 0 0)/\∃vs,w.ownsRow B 57 1 v vs.length vs/\Each (λu s=>OwnI B w u s) vs ls
def Map1(kb:Nat)(w w':World):Prop:=BelowX w.heap.size kb w w'
theorem Map1.refl(kb:Nat)(w:World):Map1 kb w w:=BelowX.refl _ _ _
theorem Map1.trans{kb:Nat}{a b c:World}(h:Map1 kb a b)(k:Map1 kb b c):Map1 kb a c:=
 ⟨k.os.trans h.os,k.tape.trans h.tape,k.output.trans h.output,XD h.size k.size,λi hi hn=>(k.block i (YS hi h.size) hn).trans (h.block i hi hn)⟩
theorem Map1.of_ext(h:Ext w w'):Map1 kb w w':=⟨h.os,h.tape,h.output,h.size,λk hk _=>h.old k hk⟩
theorem Z2R{base size:Nat}(h:w.ownsRow base e size v n xs)(hm:Map1 kb w w'){es:Array MapEntry}{ck:Nat}(hk:w.heap[kb]? =some (.map es ck)):w'.ownsRow base e size v n xs:=by
 refine Z3d h λk hv=>hm.block k (h.lt k hv).2 ?_
 rintro rfl;rcases h.2 with⟨rfl,_⟩|⟨g,_,_,rfl,_,hg,_⟩
 ·cases hv
 ·cases hv;rw[hk] at hg;cases hg
theorem Shr.map1{ls:List (List Int)}(h:Shr B w v ls)(hm:Map1 kb w w'){es:Array MapEntry}{ck:Nat}(hk:w.heap[kb]? =some (.map es ck)):Shr B w' v ls:=by
 obtain⟨h0,vs,h1,h2⟩:=h;exact⟨h0,vs,Z2R h1 hm hk,h2.mono λu s h=>Z2R h hm hk⟩
theorem Shr.ext{ls:List (List Int)}(h:Shr B w v ls)(hE:Ext w w'):Shr B w' v ls:=by
 obtain⟨h0,vs,h1,h2⟩:=h;exact⟨h0,vs,Z00 h1 hE,h2.mono λu s h=>Z00 h hE⟩
theorem Shr.nil(B:Nat)(w:World):Shr B w (.slice none 0 0) []:=⟨λ_=>rfl,[],VN _ _ _ _,trivial⟩
theorem Shr.form{ls:List (List Int)}(h:Shr B w v ls):∃ao cp,v= .slice ao ls.length cp:=by
 obtain⟨_,vs,h1,h2⟩:=h;rw[<-h2.length];rcases h1.2 with⟨rfl,h⟩|⟨g,cp,_,rfl,_⟩
 ·exact⟨none,0,by rw[h]⟩
 ·exact⟨_,cp,rfl⟩
structure Known(T:List (List Int))(n B kb:Nat)(w:World)(G:Value->Option Value):Prop where
 map:MapAt prog 125 w kb G
 val:∀key v,G (.agg (Zs key))=some v->Shr B w v (Zk T n 0 key)
theorem Known.isMap{T:List (List Int)}{G:Value->Option Value}(h:Known T n B kb w G):∃es ck,w.heap[kb]? =some (.map es ck):=by
 obtain⟨es,ck,h1,_⟩:=h.map;exact⟨es,ck,h1⟩
theorem Known.ext{T:List (List Int)}{n B kb:Nat}{w w':World}{G:Value->Option Value}(h:Known T n B kb w G)(hE:Ext w w'):Known T n B kb w' G:=
 ⟨h.map.keep (hE.old _ h.map.lt),λkey v hv=>(h.val key v hv).ext hE⟩
theorem Z64(h:w.grownBy w' none):Ext w w':=⟨h.size,λb hb=>h.block b hb (λe=>by cases e),h.tape,h.os,h.output⟩
theorem Z1p{rest:List Oper}{Q:Exit->Act->World->Prop}
 (hg:o.guard=none)(s x:Operand)(A2:o.op=Op.call {callee:=Callee.builtin Builtin.append,args:= #[s,x],argTypes:= #[61,61]})
 (B g:Nat)(u:Value)(hs:a.eval s= .slice (some ⟨g,0,none⟩) 1 1)(Ac:w.ownsRow B 57 1 (.slice (some ⟨g,0,none⟩) 1 1) 1 [u])(v:Value)(m:Nat)(vs:List Value)(hx:a.eval x=v)(Af:w.ownsRow B 57 1 v m vs)(Df:m=0->v= .slice none 0 0)
 (Sj:∀u∈vs,u.oneCell'=true)(b1:m<=1000000)(b3:B<=w.heap.size)
 (hK:∀g' cap' w',w'.ownsRow B 57 1 (.slice (some ⟨g',0,none⟩) (m+1) cap') (m+1) (u::vs)->Ext w w'->wpList prog ops Q rest (a.put o.dst (.slice (some ⟨g',0,none⟩) (m+1) cap')) w'):
 wpList prog ops Q (o::rest) a w:=by
 have A1:vs.length=m:=by have:=Af.1;omega
 by_cases hm:m=0
 ·obtain rfl:=Df hm;subst hm;obtain rfl:vs=[]:=TZ A1;refine wpList_plain hg λK hK'=> ?_
  have Aj:=λty=>run_append_owned_none (P:=prog) w B 61 ty 57 Tryz.t57 1 u57 i27 (.slice (some ⟨g,0,none⟩) 1 1) 1 [u] Ac
  unfold Oper.wp;simp[execOp,A2,resolve,invoke,builtin,hs,hx,Aj o.type,Result.andThen];exact hK' _ _ (hK g 1 w Ac (Ext.rfl' w))
 ·obtain⟨gx,cx,rfl,_,_⟩:=Af.form (by omega);refine TY w hg s x 61 A2 57 Tryz.t57 (.slice none 0 0) 1 24 u57 i27 t27z t27s t27b rfl (by omega) (some ⟨g,0,none⟩) 1 1 [u] hs (λh=>by cases h) rfl (λb hb j w hj=>by cases hb;exact Ac.cells (g:=g) rfl j w hj) ⟨gx,0,none⟩ m cx vs hx (by omega) (Af.cells rfl) Sj (by omega) (by simp[maxLen];omega) (by omega) ?_;intro v' w' h1 h2;obtain⟨g',cap',rfl,_,_⟩:=XP h1 (by omega);have e:m+1=1+m:=by omega
  exact hK g' cap' w' (by rw[e];exact Z05 (by simpa using h1) b3) (Z64 h2) |> λh=>by rw[e] at h;exact h
end Go.Proofs.Tryq
