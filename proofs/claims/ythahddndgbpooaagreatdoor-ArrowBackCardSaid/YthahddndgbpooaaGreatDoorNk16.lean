import Derived.Test.YthahddndgbpooaaGreatDoorNkA
import Derived.Test.YthahddndgbpooaaGreatDoorNk14
import Derived.Test.YthahddndgbpooaaGreatDoorNk15
import Derived.Conc.WgGenN3
set_option linter.all false
set_option maxRecDepth 100000
set_option maxHeartbeats 8000000
open Go
variable {ad:Addr}{es:Array Event}{c':Array Value}{main:Bool}{E:Frame->List Frame->World->Prop}{f:FuncId}{r0 r1 r2 r3:Int}{bot':List Frame}{k':List Item}{C Wg b b' cap d i j n off qt sb:Nat}{Gk:Nat->Bool}{ρ:Nat->Nat}{Sb o:Nat->Prop}{P:Program}{e ty:TypeId}{v v' x:Value}{V V1 V2 a:World}
namespace Go.Nk
open Go Go.Conc Go.RowKit Go.Conc.Lib Go.ConcR.Gen Go.ConcN.Gen
open Go.ConcN (ShN WgLive PayAt Has CTag RW AtR0 AtK1 DWs EvW)
open Go.ConcR (KK WgAt stA smA rd wr mk Payload DC0)
variable [Payload]{L:WgLink}
section
variable {R:World->World->Prop}{D:World->World->Array Event->Prop}{S SA:Goroutine->World->Prop}
omit [Payload] in
theorem Z3A(hR:∀a b c,R a b->R b c->R a c)(hq:∀g w,S g w->∀g' w',stepG P main g w≠.go g' w' #[]):
 ∀{m' m:Nat}{g:Goroutine}{w:World},Goes P main R DC0 SA m' g w->Goes P main R D S m g w->Goes P main R DC0 (λg w=>SA g w/\∃m,Goes P main R D S m g w) m' g w:=by
 intro m'
 induction m' with
 |zero=>exact λh hk w₁ hr=>⟨h w₁ hr,_,Goes.rely hR hk hr⟩
 |succ m' ih=>
  intro m g w h hk;rcases h with h|⟨hs,h⟩
  ·exact .inl λw₁ hr=>⟨h w₁ hr,_,Goes.rely hR hk hr⟩
  ·refine .inr ⟨hs,λw₁ hr=> ?_⟩;have h1:=h w₁ hr;rcases RZ hk with Ai|⟨m₂,rfl,Ai⟩
   ·exfalso;obtain⟨g',w',es,e,⟨e1,e2⟩,_⟩:=goes_iff.1 h1;subst e1;subst e2;exact hq _ _ (Ai w' hr) _ _ e
   ·obtain⟨g',w',es,e,_,h2⟩:=Ai w₁ hr;rw[e] at h1⊢;exact⟨h1.1,ih h1.2 h2⟩
omit [Payload] in
theorem Z9C{S':Goroutine->World->Prop}(hS:∀g w,S g w->S' g w):∀{m:Nat}{g:Goroutine}{w:World},Goes P main R D S m g w->Goes P main R D S' m g w:=by
 intro m
 induction m with
 |zero=>exact λh w₁ hr=>hS _ _ (h w₁ hr)
 |succ m ih=>
  intro g w h;rcases h with h|⟨hs,h⟩
  ·exact .inl λw₁ hr=>hS _ _ (h w₁ hr)
  ·exact .inr ⟨hs,λw₁ hr=>Z2o (h w₁ hr) λg' w' es ⟨d,x⟩=>⟨d,ih x⟩⟩
omit [Payload] in
theorem Z9D(Ei:∀a,R a a):∀{m:Nat}{g:Goroutine}{w:World},Goes P main R DC0 S m g w->∃g',S g' w:=by
 intro m
 induction m with
 |zero=>exact fun{g w} h=>⟨g,h w (Ei w)⟩
 |succ m ih=>
  intro g w h;rcases h with h|⟨hs,h⟩
  ·exact⟨g,h w (Ei w)⟩
  ·obtain⟨g',w',es,e,⟨e1,e2⟩,x⟩:=goes_iff.1 (h w (Ei w));subst e1;exact ih x
end
section
variable {k:Nat}{Rd:Nat->Prop}{S:Goroutine->World->Prop}{St:(Nat->Prop)->Goroutine->World->Prop}{F:World->Prop}
theorem Z9E{b:World}(h:DC0 a b es):DWo Wg C n Sb k Rd o a b es/\b=a:=by
 obtain⟨rfl,rfl⟩:=h;exact⟨⟨λ_ _ _ _=>rfl,id,λ_ _=>rfl,XB _,rfl,rfl,rfl,λe he=>by simp at he⟩,rfl⟩
theorem Zd6(hF:∀a b,RWo ty Wg C n k Rd o a b->F a->F b)(hS:∀g w,S g w->F w->St o g w):∀{m:Nat}{g:Goroutine}{w:World},Goes P false (RW ty Wg C n 0 k) DC0 S m g w->F w->
 GoT P false (RWo ty Wg C n k Rd) (DWo Wg C n Sb k Rd) St (.ofNat m) o g w:=by
 intro m
 induction m with
 |zero=>exact λh hf w₁ hr=>hS _ _ (h w₁ hr.rw) (hF _ _ hr hf)
 |succ m ih=>
  intro g w h hf;rcases h with h|⟨hs,h⟩
  ·exact .inl λw₁ hr=>hS _ _ (h w₁ hr.rw) (hF _ _ hr hf)
  ·refine .inr ⟨hs,λw₁ hr=>Z2o (h w₁ hr.rw) λg' w' es ⟨d,x⟩=> ?_⟩;obtain⟨h1,rfl⟩:=Z9E (Wg:=Wg) (C:=C) (n:=n) (k:=k) (Sb:=Sb) (Rd:=Rd) (o:=o) d;refine⟨h1,?_⟩;rw[Z0a rfl];exact ih x (hF _ _ hr hf)
end
section
variable {k:Nat}{val:Value}{c:Frame}{cs:List Frame}
theorem Z5K:∀g w,AtR0 P ty Wg C n 0 (k+1) val g w->∀g' w',stepG P false g w≠.go g' w' #[]:=by
 rintro g w ⟨_,_,g₁,e,_⟩ g' w' e';rw[e] at e';simp[mk] at e'
theorem doneM(H:WgLib P L)(Vb:c.mode= .returning)(hT:QuitsD P qt 0 (G c cs))(w:World)(hK:WgLive L.tWg Wg w/\Has C k val w):
 Goes P false (RW L.tWg Wg C n 0 k) DC0 (AtR0 P L.tWg Wg C n 0 (k+1) val) 30 (G ((baseD L.done).at ⟨#[.pointer (some ⟨Wg,0,none⟩),undef,undef,undef],[]⟩ [.code (body_done L)]) (c::cs)) w:=by
 have h0:=doneN (Own:=λ_ _=>False) (Rd:=λ_ _=>False) (Low:=0) (n:=n) (k:=k+1) H Vb hT w hK;have tr:∀a b d,RW L.tWg Wg C n 0 k a b->RW L.tWg Wg C n 0 k b d->RW L.tWg Wg C n 0 k a d:=λ_ _ _ h1 h2=>h1.trans h2
 have h1:Goes P false (RW L.tWg Wg C n 0 k) DC0 (λg w=>∃g',(stepG P false g w= .go g' w #[mk (.releaseMerge (stA Wg))])/\Goes P false (RW L.tWg Wg C n 0 k) DC0 (λg w=>∃g',stepG P false g w= .go g' w #[mk .disable]) 6 g' w) 30
  (G ((baseD L.done).at ⟨#[.pointer (some ⟨Wg,0,none⟩),undef,undef,undef],[]⟩ [.code (body_done L)]) (c::cs)) w:=by
  clear h0
  lib_facts
  simp only[body_done,body_add,doneFn,addFn,VX]
  u_reg kn_rely hK
  u_op kn_rely hK
  u_in kn_rely hK
  refine goes_call rfl rfl (by k_ne) rfl H.f_add (nm_add L) rfl ⟨by u_nil,?_⟩
  walk_nrmf addFn
  u_c XH kn_rely hK
  u_cond true kn_rely hK
  u_c XH kn_rely hK
  u_c XH kn_rely hK
  u_reg kn_rely hK
  u_op kn_rely hK
  u_op kn_rely hK
  u_c XC kn_rely hK
  u_cond true kn_rely hK
  u_reg kn_rely hK
  u_op kn_rely hK
  u_conv H.underlying_tWgP H.room_tWg (WgLive.cell0 hK.1).choose_spec kn_rely hK
  refine UH (λw₁ h₁=> ?_);replace hK:=kn_rely hK h₁;clear h₁;refine⟨_,stepG_markAt .releaseMerge (by simp) rfl rfl (by k_ne) rfl H.f_relMerge (x_relMerge_n L) (x_relMerge_b L) (x_relMerge_x L) (x_relMerge_f L) (by simp[Act.eval,stA]),?_⟩
  walk_nrm
  u_c XC kn_rely hK
  u_c XH kn_rely hK
  u_reg kn_rely hK
  refine UH (λw₁ h₁=> ?_);exact⟨_,stepG_mark0 .disable (by simp) rfl rfl (by k_ne) rfl H.f_disable (x_disable_n L) (x_disable_b L) (x_disable_x L) (x_disable_f L)⟩
 have h2:=Z3A tr Z5K h1 h0;refine Z9C (λg w hgw=> ?_) h2;obtain⟨⟨g',e,hg'⟩,m,hk⟩:=hgw;rcases RZ hk with Ai|⟨m₂,rfl,Ai⟩
 ·exact Ai w (.refl w)
 ·exfalso;obtain⟨g₂,w',es,e₂,hd,h3⟩:=Ai w (.refl w);rw[e] at e₂;cases e₂;have h4:=Z3A tr Z5K hg' h3;obtain⟨g₃,⟨g₄,e4⟩,m₃,h5⟩:=Z9D Go.ConcN.RW.refl h4;rcases RZ h5 with O5|⟨m₄,rfl,O5⟩
  ·obtain⟨_,_,g₅,e5,_⟩:=O5 w (.refl w);rw[e4] at e5;simp[mk] at e5
  ·obtain⟨g₅,w₅,es₅,e5,⟨_,Bb⟩,_⟩:=O5 w (.refl w);rw[e4] at e5;cases e5;have:=(Bb (mk .disable) (by simp)).2.1;simp[mk] at this
end
end Go.Nk
namespace Go.Proofs.Tryq
open Go Go.Nk
abbrev link:Go.Conc.Lib.WgLink:={add:=138,done:=140,wait:=142,relMerge:=162,disable:=163,enable:=164,inBubble:=165,associate:=166,fatal:=167,uOr:=168,uAdd:=169,raceRead:=170,uLoad:=171,uStore:=172,disassociate:=173,semrelease:=174,acquire:=175,isAssociated:=176,uCas:=177,raceWrite:=178,semacquire:=179,orU64:=204,addU64:=205,loadU64:=206,storeU64:=207,casU64:=208,tWgP:=262,tUP:=155,tAssoc:=264,tWg:=243,tAU:=240,tU64:=148,tUint:=191,tU32:=241,tPU32:=268,tPAU:=295,tPU64:=297,tNoCopy:=236,tANoCopy:=237,tAlign64:=238}
theorem wgLib:Go.Conc.Lib.WgLib Tryz.prog link:=
 ⟨Tryz.func138,Tryz.func140,Tryz.func142,Tryz.func162,Tryz.func163,Tryz.func164,Tryz.func165,Tryz.func166,Tryz.func167,Tryz.func168,Tryz.func169,Tryz.func170,Tryz.func171,Tryz.func172,Tryz.func173,Tryz.func174,Tryz.func175,Tryz.func176,Tryz.func177,Tryz.func178,Tryz.func179,Tryz.func204,Tryz.func205,Tryz.func206,Tryz.func207,Tryz.func208,Tryz.underlying262,Tryz.runUnderlying262,Tryz.sizeOf262,Tryz.isAgg262,Tryz.zeroValue262,Tryz.underlying155,Tryz.runUnderlying155,Tryz.sizeOf155,Tryz.isAgg155,Tryz.zeroValue155,Tryz.underlying264,Tryz.runUnderlying264,Tryz.sizeOf264,Tryz.isAgg264,Tryz.zeroValue264,Tryz.underlying243,Tryz.runUnderlying243,Tryz.sizeOf243,Tryz.isAgg243,Tryz.zeroValue243,Tryz.underlying240,Tryz.runUnderlying240,Tryz.sizeOf240,Tryz.isAgg240,Tryz.zeroValue240,Tryz.underlying148,Tryz.runUnderlying148,Tryz.sizeOf148,Tryz.isAgg148,Tryz.zeroValue148,Tryz.underlying191,Tryz.runUnderlying191,Tryz.sizeOf191,Tryz.isAgg191,Tryz.zeroValue191,Tryz.underlying241,Tryz.runUnderlying241,Tryz.sizeOf241,Tryz.isAgg241,Tryz.zeroValue241,Tryz.underlying268,Tryz.runUnderlying268,Tryz.sizeOf268,Tryz.isAgg268,Tryz.zeroValue268,Tryz.underlying295,Tryz.runUnderlying295,Tryz.sizeOf295,Tryz.isAgg295,Tryz.zeroValue295,Tryz.underlying297,Tryz.runUnderlying297,Tryz.sizeOf297,Tryz.isAgg297,Tryz.zeroValue297,Tryz.underlying0,Tryz.runUnderlying0,Tryz.sizeOf0,Tryz.isAgg0,Tryz.zeroValue0,Tryz.underlying3,Tryz.runUnderlying3,Tryz.sizeOf3,Tryz.isAgg3,Tryz.zeroValue3,Tryz.underlying4,Tryz.runUnderlying4,Tryz.sizeOf4,Tryz.isAgg4,Tryz.zeroValue4,Tryz.underlying9,Tryz.runUnderlying9,Tryz.sizeOf9,Tryz.isAgg9,Tryz.zeroValue9,Tryz.underlying20,Tryz.runUnderlying20,Tryz.sizeOf20,Tryz.isAgg20,Tryz.zeroValue20,Tryz.underlying21,Tryz.runUnderlying21,Tryz.sizeOf21,Tryz.isAgg21,Tryz.zeroValue21,(by kernel_rfl),(by kernel_rfl)⟩
instance payload:Go.ConcR.Payload:=⟨188⟩
end Go.Proofs.Tryq
namespace Go.Proofs.Tryw
open Go Go.Nk Go.RowKit Go.Conc
open Go.Proofs.Tryq (theBan ShotAt Zg Grew Z4I lo hi Sh shL shH Shots Zh shO link payload)
attribute [local instance] kidBan
attribute [local instance] payload
theorem Z4Q{α:Type}(n:Nat)(d:α)(p:Nat->α->Prop)(h:∀i,i<n->∃x,p i x):∃a:Array α,a.size=n/\∀i,i<n->p i (a.getD i d):=by
 refine⟨Array.ofFn λi:Fin n=>Classical.choose (h i i.2),by simp,λi hi=> ?_⟩;have e:(Array.ofFn λi:Fin n=>Classical.choose (h i i.2)).getD i d=Classical.choose (h i hi):=by
  simp[Array.getD,hi]
 rw[e];exact RM (h i hi)
theorem mask{L:Nat->Prop}(h: @VRel theBan ρ L v v'):∃u,VRel ρ (λ_=>False) u v'/\∀(k:IntKind)(n:Int),v=Value.int k n->u=v:=by
 induction h with
 |hole _ hw=>exact⟨_,.hole rfl hw,λk n e=>by cases e⟩
 |meth _=>exact⟨_,.meth rfl,λk n e=>by cases e⟩
 |bool b=>exact⟨_,.bool b,λk n e=>by cases e⟩
 |int k n=>exact⟨_,.int k n,λ_ _ _=>rfl⟩
 |string s=>exact⟨_,.string s,λk n e=>by cases e⟩
 |nilFunc=>exact⟨_,.nilFunc,λk n e=>by cases e⟩
 |nilIface=>exact⟨_,.nilIface,λk n e=>by cases e⟩
 |nilPtr=>exact⟨_,.nilPtr,λk n e=>by cases e⟩
 |ptr _=>exact⟨_,.hole rfl rfl,λk n e=>by cases e⟩
 |nilSlice l c=>exact⟨_,.nilSlice l c,λk n e=>by cases e⟩
 |slice l c _=>exact⟨_,.hole rfl rfl,λk n e=>by cases e⟩
 |nilMap=>exact⟨_,.nilMap,λk n e=>by cases e⟩
 |map _=>exact⟨_,.hole rfl rfl,λk n e=>by cases e⟩
 |nilChan=>exact⟨_,.nilChan,λk n e=>by cases e⟩
 |func _ _ _ _ _ _ _=>exact⟨_,.hole rfl rfl,λk n e=>by cases e⟩
 |yield _ _ _ _ _ _ _=>exact⟨_,.hole rfl rfl,λk n e=>by cases e⟩
 |iface t _ _=>exact⟨_,.hole rfl rfl,λk n e=>by cases e⟩
 |agg h1 _ ih=>
  obtain⟨a,ha,hb⟩:=Z4Q _ undef _ ih;exact⟨.agg a,.agg (ha.trans h1) λi hi=>(hb i (ha▸hi)).1,λk n e=>by cases e⟩
 |tuple h1 _ ih=>
  obtain⟨a,ha,hb⟩:=Z4Q _ undef _ ih;exact⟨.tuple a,.tuple (ha.trans h1) λi hi=>(hb i (ha▸hi)).1,λk n e=>by cases e⟩
theorem Zbn{L:Nat->Prop}{c:Array Value}(h: @AR theBan ρ L c c'):∃m,AR ρ (λ_=>False) m c'/\m.size=c.size/\∀(i:Nat)(k:IntKind)(n:Int),c[i]? =some (Value.int k n)->m[i]? =some (Value.int k n):=by
 obtain⟨a,ha,hb⟩:=Z4Q c.size undef (λi u=>VRel ρ (λ_=>False) u (c'.getD i undef)/\∀(k:IntKind)(n:Int),c.getD i undef=Value.int k n->u=c.getD i undef) λi hi=>mask (h.2 i hi)
 refine⟨a,⟨ha.trans h.1,λi hi=>(hb i (ha▸hi)).1⟩,ha,λi k n hi=> ?_⟩;obtain⟨A3,e⟩:=YF.1 hi;have e1:c.getD i undef= .int k n:=by rw[Z0u A3];exact e
 have e2:=(hb i A3).2 k n e1;have Fu:i<a.size:=by omega
 rw[Z0u Fu,e1] at e2;rw[YN Fu,e2]
def Z5b(V:World)(sb:Nat)(m:Array Value)(e:TypeId):World:={V with heap:=V.heap.mapIdx λi _=>if i=sb then .cells m e (0,m.size) else .coro none}
section
variable {w:World}{m:Array Value}{G:Nat}{f':Nat×Nat}
theorem kidW_size:(Z5b V sb m e).heap.size=V.heap.size:=by simp[Z5b]
theorem Z2u(b:Nat):(Z5b V sb m e).heap[b]? =(V.heap[b]?).map λ_=>if b=sb then .cells m e (0,m.size) else .coro none:=by
 simp only[Z5b,Array.getElem?_mapIdx]
theorem Z5L:Nk.Live (Z5b V sb m e) b↔b=sb/\b<V.heap.size:=by
 unfold Nk.Live;rw[Z2u];constructor
 ·rintro⟨o,h1,h2⟩;obtain⟨o',h3,h4⟩:=XT.1 h1;by_cases hb:b=sb
  ·exact⟨hb,(YF.1 h3).1⟩
  ·rw[XA hb] at h4;subst h4;cases h2
 ·rintro⟨rfl,hb⟩;exact⟨.cells m e (0,m.size),by rw[YN hb];simp,rfl⟩
theorem Zbo(Fy:sb<V.heap.size)(hw:w.heap[ρ sb]? =some (.cells c' e f'))(hm:AR ρ (λ_=>False) m c')(Cd:ρ sb<G↔sb<G)(hGV:G<=V.heap.size)(X7:G<=w.heap.size):Emb ρ G (λb=>b<V.heap.size) (Z5b V sb m e) w:=by
 refine⟨λb o hb hl=> ?_,λb b' hb hb' _=> ?_,λb hb=> ?_,λb hb=> ?_,by rw[kidW_size];exact hGV,X7⟩
 ·have h:=(Z5L (V:=V) (sb:=sb) (m:=m) (e:=e) (b:=b)).1 ⟨o,hb,hl⟩;obtain⟨rfl,A3⟩:=h;rw[Z2u,YN A3] at hb;simp only[XI,XQ,XJ] at hb;subst hb;exact⟨_,hw,λh=>absurd A3 h,λ_=>⟨.cells (hm.up λ_ h=>h.elim) (λh=>by cases h),_,_,_,rfl,XB _⟩⟩
 ·exact(Z5L.1 hb).1.trans (Z5L.1 hb').1.symm
 ·rw[kidW_size];exact hb
 ·obtain⟨rfl,_⟩:=Z5L.1 hb;exact Cd
theorem Zbp(Fy:sb<V.heap.size)(hm:AR ρ (λ_=>False) m c')(hGV:G<=V.heap.size)(hms:AR id (λ_=>False) m m):Sim id G (λ_=>False) (Z5b V sb m e) (Z5b V sb m e):=by
 refine{obj:=λb o hb hl=> ?_,inj:=λ_ _ _ _ h=>h,fz:=λ_ h=>h.elim,low:=λ_ _=>UO,gV:=by rw[kidW_size];exact hGV,gw:=by rw[kidW_size];exact hGV,tape:=λ_=>rfl,next:=λ_=>rfl};have h:=(Z5L (V:=V) (sb:=sb) (m:=m) (e:=e) (b:=b)).1 ⟨o,hb,hl⟩;obtain⟨rfl,A3⟩:=h;have hb':=hb;rw[Z2u,YN A3] at hb;simp only[XI,XQ,XJ] at hb;subst hb;exact⟨_,hb',λ_=> .cells (hms.up λ_ h=>h.elim) (λ_=>rfl),λh=>h.elim⟩
theorem Z4a(Λ:Loop->Prop):LoopsOk Λ (Z5b V sb m e):=λb l hb=>by
 rw[Z2u] at hb;obtain⟨o',h3,h4⟩:=XT.1 hb;split at h4<;>cases h4
end
theorem Z9F(h:VRel ρ (λ_=>False) v v'):VRel id (λ_=>False) v v:=by
 induction h with
 |hole _ _=>exact .undef
 |meth hh=>exact .meth hh
 |bool b=>exact .bool b
 |int k n=>exact .int k n
 |string s=>exact .string s
 |nilFunc=>exact .nilFunc
 |nilIface=>exact .nilIface
 |nilPtr=>exact .nilPtr
 |ptr h=>exact h.elim
 |nilSlice l c=>exact .nilSlice l c
 |slice l c h=>exact h.elim
 |nilMap=>exact .nilMap
 |map h=>exact h.elim
 |nilChan=>exact .nilChan
 |func hb h1 _ h2 _ ih1 ih2=>exact .func hb rfl ih1 rfl ih2
 |yield h _ _ _ _ _ _=>exact h.elim
 |iface t _ ih=>exact .iface t ih
 |agg _ _ ih=>exact .agg rfl ih
 |tuple _ _ ih=>exact .tuple rfl ih
def Five(cc:Array Value)(r0 r1 r2 r3:Int)(s:Sh)(o:Nat->Prop)(β:Nat->Nat)(w:World):Prop:=
 (∀j,j<5->o (β j))/\(∀j,j<5->w.heap[β j]? =(shO cc r0 r1 r2 r3 s)[j]?)/\∀i j,i<5->j<5->β i=β j->i=j
theorem Z6z{L:Nat->Prop}{c:Array Value}(h:AR ρ L c c')(hi:∀i,i<c.size->∃k n,c.getD i undef= .int k n):c'=c:=by
 apply QQ h.1.symm;intro i h1 h2;obtain⟨k,n,e⟩:=hi i h2;have h3:=h.2 i h2;rw[e] at h3;rw[<-Z0u h1 (d:=undef),<-Z0u h2 (d:=undef),e];generalize c'.getD i undef=v at h3;cases h3;rfl
theorem Z0H{a:Array Value}(h:a[i]? =some v):a.getD i undef=v:=by
 obtain⟨A3,e⟩:=YF.1 h;rw[Z0u A3,e]
theorem Z9G{L:Nat->Prop}(h:AR ρ L (Zg r0 r1 r2 r3 b off n cap) c')(hb:ρ b=b'):c'=Zg r0 r1 r2 r3 b' off n cap:=by
 have hs:(Zg r0 r1 r2 r3 b off n cap).size=5:=rfl;have hs':c'.size=5:=by rw[<-h.1];exact hs
 apply QQ (by rw[hs'];rfl);intro i h1 h2;have h3:=h.2 i (by rw[hs];omega);rw[<-Z0u h1 (d:=undef),<-Z0u h2 (d:=undef)];generalize c'.getD i undef=v at h3⊢;obtain rfl|rfl|rfl|rfl|rfl:i=0\/i=1\/i=2\/i=3\/i=4:=by omega
 ·rw[Z0H (a:=Zg r0 r1 r2 r3 b off n cap) (i:=0) rfl] at h3;rw[Z0H (a:=Zg r0 r1 r2 r3 b' off n cap) (i:=0) rfl];cases h3;rfl
 ·rw[Z0H (a:=Zg r0 r1 r2 r3 b off n cap) (i:=1) rfl] at h3;rw[Z0H (a:=Zg r0 r1 r2 r3 b' off n cap) (i:=1) rfl];cases h3;rfl
 ·rw[Z0H (a:=Zg r0 r1 r2 r3 b off n cap) (i:=2) rfl] at h3;rw[Z0H (a:=Zg r0 r1 r2 r3 b' off n cap) (i:=2) rfl];cases h3;rfl
 ·rw[Z0H (a:=Zg r0 r1 r2 r3 b off n cap) (i:=3) rfl] at h3;rw[Z0H (a:=Zg r0 r1 r2 r3 b' off n cap) (i:=3) rfl];cases h3;rfl
 ·rw[Z0H (a:=Zg r0 r1 r2 r3 b off n cap) (i:=4) rfl] at h3;rw[Z0H (a:=Zg r0 r1 r2 r3 b' off n cap) (i:=4) rfl];cases h3;subst hb;rfl
theorem Zd7{L:Nat->Prop}(hb:L b):AR ρ L (Zg r0 r1 r2 r3 b off n cap) (Zg r0 r1 r2 r3 (ρ b) off n cap):=by
 have h5:VRel ρ L (.slice (some ⟨b,off,none⟩) n cap) (.slice (some ⟨ρ b,off,none⟩) n cap):=VRel.slice (a:=⟨b,off,none⟩) n cap hb;exact((((AR.nil.push (.int _ r0)).push (.int _ r1)).push (.int _ r2)).push (.int _ r3)).push h5
theorem Z9H{L:Nat->Prop}{k:Int}(hb:L b):AR ρ L #[.agg (Zg r0 r1 r2 r3 b off n cap),k] #[.agg (Zg r0 r1 r2 r3 (ρ b) off n cap),k]:=by
 have h:=Zd7 (ρ:=ρ) (r0:=r0) (r1:=r1) (r2:=r2) (r3:=r3) (off:=off) (n:=n) (cap:=cap) hb;exact(AR.nil.push (.agg h.1 h.2)).push (.int _ k)
theorem part_ints(l h r0 r1:Int)(c a d:Nat)(i:Nat)(hi:i<(Go.Proofs.Tryq.part l h r0 r1 c a d).size):∃k n,(Go.Proofs.Tryq.part l h r0 r1 c a d).getD i undef= .int k n:=
 ⟨_,_,Z0H (Go.Proofs.Tryq.part_get l h r0 r1 c a d (by rw[Go.Proofs.Tryq.part_size] at hi;exact hi))⟩
theorem mem94:141∈keptList:=by decide
theorem results94:Tryz.f141.results= #[.tmp 4]:=rfl
theorem ent94:Ent (Z6 Tryz.prog fs) fs 141:=⟨Tryz.f141,Tryz.f141,func141,func141,rfl,rfl,by kernel_rfl,by kernel_rfl⟩
def Zd8(cc:Array Value)(r0 r1 r2 r3:Int)(s:Sh)(bot':List Frame)(o:Nat->Prop)(g:Goroutine)(w:World):Prop:=
 ∃(fr:Frame)(β:Nat->Nat),g=G fr bot'/\fr.fn=141/\fr.kind= .normal/\fr.mode= .returning/\fr.defers=[]/\fr.tmps.getD 4 undef= .pointer (some ⟨β 1,0,none⟩)/\Five cc r0 r1 r2 r3 s o β w
theorem Zbq{w:World}{L:Nat->Prop}{k:Nat}{Rd:Nat->Prop}{s:Sh}{c:Array Value}{f f':Nat×Nat}(hk:k<n)(hat:s.c<=90)(hS:ShotAt V sb (off+k*5) s.c s.m s.M s.wi s.li)
 (hV:V.heap[sb]? =some (.cells c e f))(hw:w.heap[ρ sb]? =some (.cells c' e f'))(har: @AR theBan ρ L c c')(Cd:ρ sb<Tryz.prog.globals.size↔sb<Tryz.prog.globals.size)(hGV:Tryz.prog.globals.size<=V.heap.size)(X7:Tryz.prog.globals.size<=w.heap.size)
 (hRd:Rd (ρ sb))(I3:¬Sb (ρ sb))(hC:C<w.heap.size)(Pq:¬o C):
 ∃r,GoT Tryz.prog false (RWo link.tWg Wg C n k Rd) (DWo Wg C n Sb k Rd) (Zd8 (Zg r0 r1 r2 r3 (ρ sb) off n cap) r0 r1 r2 r3 s bot') r o (G (Frame.enter Tryz.prog 141 #[.agg (Zg r0 r1 r2 r3 (ρ sb) off n cap),k] .normal) bot') w:=by
 obtain⟨m,hm,hms,hmi⟩:=Zbn har;have Fy:sb<V.heap.size:=(YF.1 hV).1;have X8:AR id (λ_=>False) m m:=⟨rfl,λi hi=>Z9F (hm.2 i hi)⟩;have By:Nk.Live (Z5b V sb m e) sb:=Z5L.2 ⟨rfl,Fy⟩;obtain⟨R,J3⟩:∃R:Value->World->Prop,R=λv V'=>v= .pointer (some ⟨V.heap.size+1,0,none⟩)/\V'.heap.size=V.heap.size+5/\∀i,i<5->V'.heap[V.heap.size+i]? =(shO (Zg r0 r1 r2 r3 sb off n cap) r0 r1 r2 r3 s)[i]? :=⟨_,rfl⟩
 have hR:∀t v V,R v V->R v (retape t V):=λt v V h=>by rw[J3] at h⊢;exact h
 have hE:IsEnd (Z82 (Z6 Tryz.prog fs) 141 4 R):=Z2a hR;have hG:∀g,Gs g=true->Nk.Live (Z5b V sb m e) g:=λg hg=>by cases hg
 have B0:Self Tryz.prog fs Gs (Frame.enter (Z6 Tryz.prog fs) 141 #[.agg (Zg r0 r1 r2 r3 sb off n cap),k] .normal) [trap] (Z5b V sb m e):=
  ⟨Zbp Fy hm hGV X8,Z4a _,FrR.enter (P:=Z6 Tryz.prog fs) (solo.all 141 ent94) (Z9H (ρ:=id) By),.nil,λ_=>rfl⟩
 have Bc:∀(t:Nat->Question->Nat)(x:Nat)(y:Int),V.cell? ⟨sb,x,none⟩=some (.int .i64 y)->(retape t (Z5b V sb m e)).cell? ⟨sb,x,none⟩=some (.int .i64 y):=by
  intro t x y h;have e1:(retape t (Z5b V sb m e)).heap[sb]? =some (.cells m e (0,m.size)):=by
   show(Z5b V sb m e).heap[sb]? =_;rw[Z2u,hV];simp
  simp only[World.cell?,hV,e1] at h⊢;exact hmi x _ _ h
 have H5:∀t,Calls (Z6 Tryz.prog fs) 141 #[.agg (Zg r0 r1 r2 r3 sb off n cap),k] (retape t (Z5b V sb m e)) λe V'=>∃v,e= .returned v/\R v V':=by
  intro t;have B1:(retape t (Z5b V sb m e)).heap.size=V.heap.size:=kidW_size;refine(Z6q r0 r1 r2 r3 s.m s.M s.wi s.li k s.c sb off n cap (retape t (Z5b V sb m e)) (by omega) (by omega) (by rw[B1];exact Fy) hat ?_ _ _ rfl rfl).mono ?_
  ·simp only[UF];exact⟨Bc t _ _ hS.c0,Bc t _ _ hS.c1,Bc t _ _ hS.c2,Bc t _ _ hS.c3,Bc t _ _ hS.c4⟩
  ·rintro e V' ⟨rfl,Ba⟩;refine⟨_,rfl,?_⟩;rw[J3];refine⟨by rw[B1],by rw[Ba.size,B1];rfl,λi hi=> ?_⟩;have:=Ba.new i hi;rw[B1] at this;exact this
 have hH:=Z7h solo hE hG B0 (Z2p func141 results94 H5)
 obtain⟨r,hr⟩:=ZcQ (k:=k) (n:=n) (Wg:=Wg) (κ:=λb=>if b=sb then some (ρ sb) else none) link.tWg solo fsOk (λf hf=>tm (ent_kept hf)) hE hH (bot':=bot') (o:=o) (Rd:=Rd) (Sb:=Sb) B0
  (FrR.enter (fs:=fs) (tm mem94) (Z9H (ρ:=ρ) By)) .nil (λ_=>rfl) (Zbo Fy hw hm Cd hGV X7) (Z4a _) (λg hg=>by cases hg) (λb c' h=>by
    by_cases hb:b=sb
    ·subst hb;rw[YZ rfl] at h;cases h;exact⟨By,rfl⟩
    ·rw[XA hb] at h;cases h) (λb hb Ch=>absurd (Z5L.1 hb).2 Ch) (λb hb _=>by rw[(Z5L.1 hb).1];exact⟨hRd,I3⟩) hC Pq
 refine⟨r,hr.mono (λ_ _ _ h=>h) (λ_ _ _ _ h=>h) ?_⟩;rintro o1 g w1 ⟨ρ1,V1,fr,fr',rfl,hA⟩;obtain⟨t,_,hfn,A7,X9,hv⟩:=hA.fin;rw[J3] at hv;obtain⟨hv,B1,Ef⟩:=hv;have Ef:∀i,i<5->V1.heap[V.heap.size+i]? =(shO (Zg r0 r1 r2 r3 sb off n cap) r0 r1 r2 r3 s)[i]? :=Ef;have Ct:ρ1 sb=ρ sb:=(hA.known sb _ (YZ rfl)).2;have Kg:∀i,i<5->Nk.Live V1 (V.heap.size+i):=by
  intro i hi;have h1:=Ef i hi;obtain rfl|rfl|rfl|rfl|rfl:i=0\/i=1\/i=2\/i=3\/i=4:=by omega
  all_goals exact⟨_,h1,rfl⟩
 have hd:fr'.defers=[]:=by
  have:=hA.fro.defers;rw[X9] at this;generalize fr'.defers=x at this;cases this;rfl
 refine⟨fr',λj=>ρ1 (V.heap.size+j),rfl,hA.fro.fn.trans hfn,hA.fro.kind.2,hA.fro.mode.1.trans A7,hd,?_,λj hj=>hA.own _ (Kg j hj) (by omega),λj hj=> ?_,λi j hi hj h=> ?_⟩
 ·have:=hA.fro.tmps.at 4;rw[hv] at this;generalize fr'.tmps.getD 4 undef=y at this;cases this;rfl
 ·have Ch:¬V.heap.size+j<V.heap.size:=by omega
  have h1:=Ef j hj;obtain rfl|rfl|rfl|rfl|rfl:j=0\/j=1\/j=2\/j=3\/j=4:=by omega
  all_goals
   obtain⟨o',h2,h3,_⟩:=hA.emb.obj _ _ h1 rfl;have h3:=h3 Ch;rw[h2];cases h3 with
   |cells h4 h5=> ?_
  ·rw[Z9G h4 Ct,h5 rfl];rfl
  ·rw[Z6z h4 (part_ints _ _ _ _ _ _ _),h5 rfl];rfl
  ·rw[Z9G h4 Ct,h5 rfl];rfl
  ·rw[Z6z h4 (λi hi=>by
    have hi:i<2:=hi;obtain rfl|rfl:i=0\/i=1:=(by omega);all_goals exact⟨_,_,rfl⟩),h5 rfl];rfl
  ·rw[Z6z h4 (λi hi=>by
    have hi:i<5:=hi;obtain rfl|rfl|rfl|rfl|rfl:i=0\/i=1\/i=2\/i=3\/i=4:=(by omega);all_goals exact⟨_,_,rfl⟩),h5 rfl];rfl
 ·have:=hA.emb.inj _ _ (Kg i hi) (Kg j hj) h;omega
end Go.Proofs.Tryw
namespace Go.Nk
open Go Go.RowKit Go.Conc
variable [Ban]
theorem Zbr(hE:IsEnd E){fr:Frame}{cs:List Frame}{V:World}(h:Halts P E fr cs V)(Ag:cs≠[trap]):
 ∃fr1 cs1 V1 es,stepG P true (G fr cs) V= .go (G fr1 cs1) V1 es/\Halts P E fr1 cs1 V1:=by
 cases h with
 |done t he=>exact absurd (hE.at_ _ _ _ he).1 Ag
 |step nf nc nV ne Ai hh=>
  have:=Ai V.tape;rw[Z04] at this;exact⟨_,_,_,_,this,hh _⟩
structure At(E:Frame->List Frame->World->Prop)(P:Program)(fs:Array Func)(Gs:Nat->Bool)(fr:Frame)(cs:List Frame)(V:World):Prop where
 halts:Halts (Z6 P fs) E fr cs V
 self:Self P fs Gs fr cs V
 glob:∀g,Gs g=true->Live V g
 up:cs≠[trap]
section
variable {fs:Array Func}{Gs:Nat->Bool}
theorem At.go(hs:Solo P fs Gs)(hE:IsEnd E){fr:Frame}{cs:List Frame}{V:World}(h:At E P fs Gs fr cs V):
 ∃fr1 cs1 V1 es,stepG (Z6 P fs) true (G fr cs) V= .go (G fr1 cs1) V1 es/\Halts (Z6 P fs) E fr1 cs1 V1/\Self P fs Gs fr1 cs1 V1/\(∀g,Gs g=true->Live V1 g):=by
 obtain⟨fr1,cs1,V1,es,e,hh⟩:=Zbr hE h.halts h.up;rcases Z1i hs h.glob h.self with(⟨o,V2,es2,e2⟩|⟨fr2,V2,es2,e2,hp⟩)|⟨fr2,cs2,V2,es2,e2,h2,h3,_,_⟩|hb
 ·rw[e] at e2;cases e2
 ·rw[e] at e2;injection e2 with g1 g2 g3;obtain⟨rfl,rfl⟩:=Z16 g1;subst g2;exact(Z0T hE hh hp).elim
 ·rw[e] at e2;injection e2 with g1 g2 g3;obtain⟨rfl,rfl⟩:=Z16 g1;subst g2;exact⟨_,_,_,_,e,hh,h2,λg hg=>h3 g (h.glob g hg)⟩
 ·exact absurd hb.1 h.up
theorem At.op(hs:Solo P fs Gs)(hE:IsEnd E){b:Frame}{a:Act}{k:List Item}{cs:List Frame}{V:World}{ops:Array Oper}{i:Nat}{rest:List Nat}{o:Oper}(ho:ops[i]? =some o)(Bq:ZJ (Z6 P fs) Gs o.op=true)(hw:Region.wanted o (yielded ops a.tmps)=true)(hk:b.kind≠.early)
 (hv:∀x V1,(execOp a.eval o).run (Z6 P fs) V= .ok x V1->∃v,x= .value v)(h:At E P fs Gs (b.at a (.inRegion ops (i::rest)::k)) cs V):
 ∃v V1,(execOp a.eval o).run (Z6 P fs) V= .ok (.value v) V1/\At E P fs Gs (b.at (a.put o.dst v) (.inRegion ops rest::k)) cs V1:=by
 obtain⟨fr1,cs1,V1,es,e,hh,B0,hg⟩:=h.go hs hE;have he:=stepG_oper (P:=Z6 P fs) (main:=true) (b:=b) (a:=a) (k:=k) (cs:=cs) (w:=V) (rest:=rest) ho hw;have Bb:∀x:Operand,Zf Gs x=true->VRel id (Live V) (a.eval x) (a.eval x):=by
  intro x hx;have:=h.self.fro.eval (λg hg=>⟨h.glob g hg,rfl⟩) x hx
  rwa [Frame.eval_at] at this
 rcases Z47 (fs:=fs) (P:=Z6 P fs) (Gs:=Gs) (ρ:=id) hs.ok Bb (λ_=>rfl) (λ_=>rfl) o Bq h.self.sim h.self.loops with⟨hx,V2,es2,I4,Bp⟩|⟨V2,w1,new,es2,Bi,hΛ1,hF,⟨x,x',L1,I4,_⟩|⟨v,v',I4,_⟩⟩
 ·exfalso;rw[e] at he;have I4:(execOp a.eval o).runT (Z6 P fs) V #[]=_:=I4;simp only[stepG.apply,XQ,I4] at he;cases hx with
  |stuck s=>cases he
  |unsupported u=>cases u<;>first|exact Bp.elim|cases he
  |_=>exact Bp.elim
 ·have I4:(execOp a.eval o).runT (Z6 P fs) V #[]=_:=I4;have hr:(execOp a.eval o).run (Z6 P fs) V= .ok x V2:=by rw[<-Sem.runT_fst (Z6 P fs) (execOp a.eval o) V #[],I4]
  obtain⟨v,rfl⟩:=hv _ _ hr;rw[stepG_value ho hw hk hr] at e;injection e with g1 g2 g3;obtain⟨rfl,rfl⟩:=Z16 g1;subst g2;exact⟨v,V2,hr,hh,B0,hg,h.up⟩
 ·exfalso;rw[e] at he;have I4:(execOp a.eval o).runT (Z6 P fs) V #[]=_:=I4;simp only[stepG.apply,XQ,I4,GStep.after] at he;injection he with g1 g2 g3;obtain⟨rfl,rfl⟩:=Z16 g1;have A7:=B0.fro.mode.2;obtain⟨c',hc⟩:=Z0W (b.at a (.inRegion ops (i::rest)::k)) [{v,recovered:=false}];rw[hc] at A7;rcases A7 with hm|hm<;>cases hm
theorem At.ctl(hs:Solo P fs Gs)(hE:IsEnd E){fr fr1:Frame}{cs cs1:List Frame}{V V1:World}{es:Array Event}(h:At E P fs Gs fr cs V)(he:stepG (Z6 P fs) true (G fr cs) V= .go (G fr1 cs1) V1 es)(hc:cs1≠[trap]):At E P fs Gs fr1 cs1 V1:=by
 obtain⟨fr2,cs2,V2,es2,e,hh,B0,hg⟩:=h.go hs hE;rw[he] at e;injection e with g1 g2 g3;obtain⟨rfl,rfl⟩:=Z16 g1;subst g2;exact⟨hh,B0,hg,hc⟩
theorem At.dead(hs:Solo P fs Gs)(hE:IsEnd E){fr:Frame}{cs:List Frame}{V V1:World}{o:Outcome}{es:Array Event}(h:At E P fs Gs fr cs V)(he:stepG (Z6 P fs) true (G fr cs) V= .ended o V1 es):False:=by
 obtain⟨fr2,cs2,V2,es2,e,_⟩:=h.go hs hE;rw[he] at e;cases e
theorem Z9I(P:Program){fr:Frame}{V:World}(hf:FrR (Z6 P fs) fs Gs id (Live V) fr fr)(hm:fr.mode= .returning)(hd:fr.defers=[]){n:Nat}{fr':Frame}{cs':List Frame}{V':World}(hn:runN (Z6 P fs) (n+1) (lone fr [trap] V)= .next (lone fr' cs' V'))(hc:cs'≠[]):False:=by
 obtain⟨fn,code,t1,t2,t3,t4⟩:=hf.tm;have e1:stepG (Z6 P fs) true (G fr [trap]) V=unwind (Z6 P fs) true fr [trap] none V:=by simp only[G,stepG,hm]
 obtain⟨m1,q1,q2⟩:=Z0f hn;cases hx:(results fn fr.tmps).runT (Z6 P fs) V #[] with
 |mk r es=>
  cases r with
  |halt hhh V1=>
   have e2:∃o es',stepG (Z6 P fs) true (G fr [trap]) V= .ended o V1 es':=by
    rw[e1];simp only[unwind,hd,hm,t2,hx];cases hhh<;>exact⟨_,_,rfl⟩
   obtain⟨o,es',e2⟩:=e2;have e4:step (Z6 P fs) (lone fr [trap] V)= .ended o V1:=step_lone_ended (by show(stepG (Z6 P fs) true (G fr [trap]) V).bare=_;rw[e2];rfl);rw[e4] at q1;cases q1
  |ok v V1=>
   have e2:stepG (Z6 P fs) true (G fr [trap]) V= .go (G (trap.finish v) []) V1 (seen (Z6 P fs) fr.fn es++ #[]):=by
    rw[e1];simp only[unwind,hd,hm,t2,hx,doReturn,hf.kind.1];rfl
   rw[Z0h e2] at q1;cases q1;cases n with
   |zero=>
    simp only[runN,VV] at q2;obtain⟨_,h,_⟩:=Z18 q2;exact hc h.symm
   |succ n=>
    obtain⟨m2,q3,q4⟩:=Z0f q2;obtain⟨o,es,e3⟩:=Z49 (Z6 P fs) V1 v;have e4:step (Z6 P fs) (lone (trap.finish v) [] V1)= .ended o V1:=step_lone_ended (by show(stepG (Z6 P fs) true (G (trap.finish v) []) V1).bare=_;rw[e3];rfl);rw[e4] at q3;cases q3
theorem Z6A(hs:Solo P fs Gs)(hE:IsEnd E):∀(n:Nat){fr:Frame}{cs:List Frame}{V:World}{fr':Frame}{cs':List Frame}{V':World},Halts (Z6 P fs) E fr cs V->Self P fs Gs fr cs V->(∀g,Gs g=true->Live V g)->
 runN (Z6 P fs) n (lone fr cs V)= .next (lone fr' cs' V')->cs'≠[]->Path (Z6 P fs) fr cs V fr' cs' V'/\Self P fs Gs fr' cs' V':=by
 intro n
 induction n with
 |zero=>
  intro fr cs V fr' cs' V' _ B0 _ hn _;simp only[runN,VV] at hn;obtain⟨rfl,rfl,rfl⟩:=Z18 hn;exact⟨.refl,B0⟩
 |succ n ih=>
  intro fr cs V fr' cs' V' hH B0 hg hn hc;by_cases hb:cs=[trap]/\fr.mode= .returning/\fr.defers=[]
  ·obtain⟨rfl,hm,hd⟩:=hb;exact(Z9I P B0.fro hm hd hn hc).elim
  ·cases hH with
   |done t he=>exact absurd ⟨(hE.at_ _ _ _ he).1,(hE.at_ _ _ _ he).2,hE.defers _ _ _ he⟩ hb
   |step nf nc nV ne Ai hh=>
    have e:=Ai V.tape;rw[Z04] at e;have hh:=hh V.tape;rcases Z1i hs hg B0 with(⟨o,V2,es2,e2⟩|⟨fr2,V2,es2,e2,hp⟩)|⟨fr2,cs2,V2,es2,e2,h2,h3,_,_⟩|Cc
    ·rw[e] at e2;cases e2
    ·rw[e] at e2;injection e2 with g1 g2 g3;obtain⟨q1,q2⟩:=Z16 g1;rw[q1,q2,g2] at hh;exact(Z0T hE hh hp).elim
    ·rw[e] at e2;injection e2 with g1 g2 g3;obtain⟨q1,q2⟩:=Z16 g1;rw[q1,q2,g2] at hh e;obtain⟨m1,q3,q4⟩:=Z0f hn;rw[Z0h e] at q3;cases q3;obtain⟨i1,i2⟩:=ih hh h2 (λg hg'=>h3 g (hg g hg')) q4 hc;exact⟨.step (es:=ne V.tape) V.tape hb (by rw[Z04];exact e) i1,i2⟩
    ·exact absurd Cc hb
end
end Go.Nk
namespace Go.Proofs.Tryq
open Go Go.Nk Go.RowKit Go.Conc
attribute [local instance] theBan
theorem Z6B(h:(Instr.field 132 x 0).run prog V= .ok v V1):V1=V/\∃cs,x= .agg cs/\v= .agg (cs.extract 0 5):=by
 unfold Instr.field Go.part at h;cases x with
 |agg cs=>
  simp[go_sem,run_asAgg] at h;exact⟨h.2.symm,cs,rfl,h.1.symm⟩
 |_=>simp[go_sem,asAgg] at h
theorem Z4R{cs:Array Value}(h:(Instr.field 31 (.agg cs) 0).run prog V= .ok v V1):V1=V/\v= .agg (cs.extract 0 4):=by
 unfold Instr.field Go.part at h;simp[go_sem,run_asAgg] at h;exact⟨h.2.symm,h.1.symm⟩
theorem Z4S{cs:Array Value}(h:(Instr.field 31 (.agg cs) 1).run prog V= .ok v V1):V1=V/\cs[4]? =some v:=by
 unfold Instr.field Go.part at h;simp[go_sem,run_asAgg] at h;cases hc:cs[4]? with
 |none=>rw[hc] at h;cases h
 |some u=>rw[hc] at h;cases h;exact⟨rfl,rfl⟩
theorem Z1t(hj:j<4){cs:Array Value}{v:Value}{V V1:World}(h:(Instr.field 28 (.agg cs) j).run prog V= .ok v V1):V1=V/\cs[j]? =some v:=by
 unfold Instr.field Go.part at h;obtain rfl|rfl|rfl|rfl:j=0\/j=1\/j=2\/j=3:=by omega
 all_goals
  simp[go_sem,run_asAgg] at h;split at h
  ·rename_i u hu;cases h;exact⟨rfl,hu⟩
  ·cases h
theorem Z0L{n:Int}(h:(Go.binOp .leq 3 x (.int .i64 n)).run prog V= .ok v V1):V1=V/\∃p,x= .int .i64 p/\v= .bool (decide (p<=n)):=by
 cases x with
 |int k p=>
  unfold Go.binOp at h;by_cases hk:k= .i64
  ·subst hk;simp[go_sem] at h;exact⟨h.2.symm,p,rfl,h.1.symm⟩
  ·simp[hk] at h
 |_=>simp[Go.binOp] at h
theorem Zbs{n:Int}(h:(Go.binOp .leq 3 (.int .i64 n) x).run prog V= .ok v V1):V1=V/\∃p,x= .int .i64 p/\v= .bool (decide (n<=p)):=by
 cases x with
 |int k p=>
  unfold Go.binOp at h;by_cases hk:k= .i64
  ·subst hk;simp[go_sem] at h;exact⟨h.2.symm,p,rfl,h.1.symm⟩
  ·simp[SC hk] at h
 |_=>simp[Go.binOp] at h
theorem Zd9(h:(Builtin.len_ #[29] ty #[x]).run prog V= .ok v V1):V1=V/\∃base n cap,x= .slice base n cap/\v= .int .i64 n:=by
 cases x with
 |slice base n cap=>
  simp[Builtin.len_,go_sem] at h;exact⟨h.2.symm,base,n,cap,rfl,h.1.symm⟩
 |_=>simp[Builtin.len_,go_sem] at h
theorem Z9J{base:Option Addr}(hi:i<n){v:Value}{V V1:World}(h:(Instr.indexAt 29 (.slice base n cap) (.int .i64 i)).run prog V= .ok v V1):V1=V/\∃ad,base=some ad/\v= .pointer (some (ad.add (i*5))):=by
 cases base with
 |some ad=>
  simp[Instr.indexAt,go_sem,hi] at h;exact⟨h.2.symm,ad,rfl,h.1.symm⟩
 |none=>
  simp[Instr.indexAt,go_sem,hi,boundsPanic] at h;split at h<;>cases h
theorem Z2v(hl:Live V ad.block)(h:(Instr.loadAt 3 (.pointer (some ad))).run prog V= .ok v V1):V1=V/\V.cell? ad=some v:=by
 have hb:=Z3i hl prog (Mode.plain==Mode.atomic);simp[Instr.loadAt,go_sem] at h;cases hc:V.cell? ad with
 |some u=>simp[hc] at h;exact⟨h.2.symm,by rw[h.1]⟩
 |none=>simp[hc,hb] at h
end Go.Proofs.Tryq
section
namespace Go.Nk
open Go
section
variable [Ban]{Gs:Nat->Bool}(Bl:∀g,Gs g=true->Gk g=true)
include Bl
theorem Z0y{x:Operand}(h:Zf Gs x=true):Zf Gk x=true:=by
 cases x with
 |global g=>exact Bl g h
 |tmp t=>rfl
 |const v=>exact h
 |func f=>exact h
theorem Z7w{l:List Operand}(h:l.all (Zf Gs)=true):l.all (Zf Gk)=true:=by
 rw[YL] at h⊢;exact λx hx=>Z0y Bl (h x hx)
theorem Z9K{α:Type}{l:List (α×Operand)}(h:l.all (λp=>Zf Gs p.2)=true):l.all (λp=>Zf Gk p.2)=true:=by
 rw[YL] at h⊢;exact λx hx=>Z0y Bl (h x hx)
theorem Zbt{l:Option Operand}(h:l.all (Zf Gs)=true):l.all (Zf Gk)=true:=by
 cases l with
 |none=>rfl
 |some x=>exact Z0y Bl h
theorem Z6C{c:Call}(h:Z2W P Gs c=true):Z2W P Gk c=true:=by
 unfold Z2W at h⊢;rw[YG] at h⊢;refine⟨Z7w Bl h.1,?_⟩;have h2:=h.2;cases hc:c.callee with
 |value f=>
  rw[hc] at h2;cases f with
  |func f=>exact h2
  |tmp t=>exact Z0y Bl h2
  |const t=>exact Z0y Bl h2
  |global t=>exact Z0y Bl h2
 |builtin b=>rw[hc] at h2;cases b<;>exact h2
 |invoke _ _=>rw[hc] at h2;exact h2
theorem Z5M{o:Op}(h:ZJ P Gs o=true):ZJ P Gk o=true:=by
 have hd:∀{x:Operand},Zf Gs x=true->Zf Gk x=true:=λh=>Z0y Bl h
 have h1:∀{l:List Operand},l.all (Zf Gs)=true->l.all (Zf Gk)=true:=λh=>Z7w Bl h
 have h2:∀{l:List (Nat×Operand)},l.all (λp=>Zf Gs p.2)=true->l.all (λp=>Zf Gk p.2)=true:=λh=>Z9K Bl h
 have h3:∀{l:Option Operand},l.all (Zf Gs)=true->l.all (Zf Gk)=true:=λh=>Zbt Bl h
 have h4:∀{c:Call},Z2W P Gs c=true->Z2W P Gk c=true:=λh=>Z6C Bl h
 unfold ZJ at h⊢;split at h<;>first|grind|(simp only[YG] at h⊢;grind)
theorem codeOk_mono:∀{c:Code},Zn P Gs c=true->Zn P Gk c=true:=by
 have hd:∀{x:Operand},Zf Gs x=true->Zf Gk x=true:=λh=>Z0y Bl h
 intro c
 induction c with
 |region i ops d=>
  intro h;simp only[Zn,YL] at h⊢;exact λx hx=>Z5M Bl (h x hx)
 |_=>simp only[Zn,YG] at*;grind
theorem Z9L{fs:Array Func}(h:Tm P fs Gs f):Tm P fs Gk f:=by
 obtain⟨fn,c,h1,h2,h3,h4⟩:=h;exact⟨fn,c,h1,h2,h3,codeOk_mono Bl h4⟩
end
end Go.Nk
namespace Go.Proofs.Tryq
open Go Go.Nk
attribute [local instance] theBan
class GK where
 gk:Nat->Bool
 le:∀g,Gs g=true->gk g=true
theorem soloK[GK]:Solo Tryz.prog fs GK.gk:=⟨solo.ok,λf hf=>Z9L GK.le (solo.all f hf)⟩
theorem tmK[GK]{f:FuncId}(h:f∈keptList):Tm Tryz.prog fs GK.gk f:=Z9L GK.le (tm h)
end Go.Proofs.Tryq
end
namespace Go.Proofs.Tryq
open Go Go.Nk Go.RowKit Go.Conc
attribute [local instance] theBan
section
theorem Z0g{o:Oper}(h:o.guard=none)(y:Nat->Option Bool):Region.wanted o y=true:=by simp[Region.wanted,h]
theorem Z1b(a:Act)(d:Nat)(v:Value):(a.put (some d) v).tmps=a.tmps.setIfInBounds d v:=rfl
theorem Z3B{a:Act}(h:d<a.tmps.size):(a.put (some d) v).eval (.tmp i)=if d=i then v else a.eval (.tmp i):=by
 simp only[Act.eval,Z1b,Array.getD_eq_getD_getElem?];by_cases e:d=i
 ·subst e;rw[YZ rfl,YM h];rfl
 ·rw[XA e,YO e]
theorem At.val[GK](hs:Solo Tryz.prog fs GK.gk)(hE:IsEnd E){b:Frame}{a:Act}{k:List Item}{cs:List Frame}{V:World}{ops:Array Oper}{i:Nat}{rest:List Nat}{o:Oper}{X:Sem Value}{d:Nat}(ho:ops[i]? =some o)(Bq:ZJ prog Gs o.op=true)(hg:o.guard=none)(O6:o.dst=some d)(hk:b.kind≠.early)
 (hX:execOp a.eval o=(do Pure.pure (Next.value (<-X))))(h:At E Tryz.prog fs GK.gk (b.at a (.inRegion ops (i::rest)::k)) cs V):
 ∃v V1,X.run prog V= .ok v V1/\At E Tryz.prog fs GK.gk (b.at (a.put (some d) v) (.inRegion ops rest::k)) cs V1:=by
 obtain⟨v,V1,hr,h1⟩:=h.op hs hE ho (Z5M GK.le Bq) (Z0g hg _) hk (λx V1 hx=>by
  rw[hX,UM] at hx;cases hy:X.run (Z6 Tryz.prog fs) V with
  |ok v V2=>rw[hy] at hx;cases hx;exact⟨v,rfl⟩
  |halt _ _=>rw[hy] at hx;cases hx)
 rw[hX,UM] at hr;rw[O6] at h1;cases hy:X.run (Z6 Tryz.prog fs) V with
 |ok v' V2=>rw[hy] at hr;cases hr;exact⟨v,V1,hy,h1⟩
 |halt _ _=>rw[hy] at hr;cases hr
end
def aK(x:Value):Act:=⟨#[x,undef,undef,undef,undef,undef,undef,undef,undef,undef,undef,undef,undef,undef,undef,undef,undef,undef,undef,undef,undef,undef,undef,undef,undef,undef,undef,undef,undef,undef,undef,undef,undef,undef],[]⟩
theorem enterK(x:Value):Frame.enter (Z6 Tryz.prog fs) 114 #[x] .normal=(base 114).at (aK x) [.code kBody]:=by
 have h:(Z6 Tryz.prog fs).funcs[114]? =some kf:=func114;rw[enter_at #[x] h (show kf.body=some kBody from rfl)];have e: #[x]++Array.replicate (kf.ntmps - (#[x]:Array Value).size) undef=(aK x).tmps:=by
  show #[x]++Array.replicate 33 undef=_;apply Array.ext';simp[aK,List.replicate_succ]
 rw[e];rfl
theorem Z9M{cs:Array Value}(h:(Instr.build 136 #[(0,.agg cs)]).run prog V= .ok v V1):V1=V/\cs.size=5:=by
 unfold Instr.build at h;simp[go_sem] at h;by_cases hc:cs.size=5
 ·simp[hc,go_sem] at h;exact⟨h.2.symm,hc⟩
 ·simp[hc,go_sem] at h
def Z2w(m:Nat->Value):Operand->Value
 | .tmp t=>m t
 | .const v=>v
 | .global g=> .pointer (some ⟨g,0,none⟩)
 | .func f=> .func (.func f) #[] #[]
def upT(m:Nat->Value)(d:Nat)(v:Value):Nat->Value:=λi=>if d=i then v else m i
def OnWay[GK](E:Frame->List Frame->World->Prop)(cs:List Frame)(m:Nat->Value)(k:List Item)(V:World):Prop:=
 ∃a:Act,a.tmps.size=34/\a.eval=Z2w m/\At E Tryz.prog fs GK.gk ((base 114).at a k) cs V
section
variable {cs:List Frame}{m:Nat->Value}{k:List Item}
theorem OnWay.val[GK](hE:IsEnd E){ops:Array Oper}{i:Nat}{rest:List Nat}{o:Oper}{X:Sem Value}{d:Nat}(h:OnWay E cs m (.inRegion ops (i::rest)::k) V)(ho:ops[i]? =some o)(Bq:ZJ prog Gs o.op=true)(hg:o.guard=none)(O6:o.dst=some d)(hd:d<34)
 (hX:execOp (Z2w m) o=(do Pure.pure (Next.value (<-X)))):
 ∃v V1,X.run prog V= .ok v V1/\OnWay E cs (upT m d v) (.inRegion ops rest::k) V1:=by
 obtain⟨a,h1,h2,h3⟩:=h;obtain⟨v,V1,hr,h4⟩:=At.val soloK hE ho Bq hg O6 (show(base 114).kind≠.early from λh=>by cases h) (by rw[h2];exact hX) h3;refine⟨v,V1,hr,_,?_,?_,h4⟩
 ·rw[Z1b];simpa using h1
 ·funext x;have hx:=congrFun h2 x;cases x with
  |tmp t=>
   rw[Z3B (by omega)];show _=upT m d v t;unfold upT;split
   ·rfl
   ·exact hx
  |_=>rfl
theorem OnWay.ctl[GK](hE:IsEnd E)(Ag:cs≠[trap])(he:∀a:Act,a.eval=Z2w m->stepG (Z6 Tryz.prog fs) true (G ((base 114).at a k) cs) V= .go (G ((base 114).at a k') cs) V #[])(h:OnWay E cs m k V):OnWay E cs m k' V:=by
 obtain⟨a,h1,h2,h3⟩:=h;exact⟨a,h1,h2,h3.ctl soloK hE (he a h2) Ag⟩
theorem OnWay.cond[GK](hE:IsEnd E)(Ag:cs≠[trap]){c:Operand}{x y:Code}{t:Bool}(hc:Z2w m c= .bool t)(h:OnWay E cs m (.code (.cond c x y)::k) V):OnWay E cs m (.code (if t then x else y)::k) V:=
 h.ctl hE Ag λa ha=>stepG_cond (by rw[ha];exact hc)
theorem OnWay.refuse[GK](hE:IsEnd E){id:Nat}(hx:exitTo id k=none)(h:OnWay E cs m (.code (.exit id)::k) V):False:=by
 obtain⟨a,h1,h2,h3⟩:=h;exact h3.dead soloK hE (V1:=V) (o:=_) (es:= #[]) (by simp only[G,stepG,stepG.exec,Frame.at,hx];rfl)
end
@[simp] theorem run_field65 (a:Addr) (j:Nat) (hj:j<4) (w:World):(Instr.fieldAt 75 (.pointer (some a)) j).run prog w= .ok (.pointer (some (a.add (if j<2 then j else j+1)))) w:=by
  obtain rfl|rfl|rfl|rfl:j=0\/j=1\/j=2\/j=3:=by omega
  all_goals simp[go_sem,Instr.fieldAt,fieldPlace]
@[simp] theorem run_field41 (a:Addr) (j:Nat) (hj:j<2) (w:World):(Instr.fieldAt 49 (.pointer (some a)) j).run prog w= .ok (.pointer (some (a.add j))) w:=by
  obtain rfl|rfl:j=0\/j=1:=by omega
  all_goals simp[go_sem,Instr.fieldAt,fieldPlace]
theorem Zbu[GK]{E:Frame->List Frame->World->Prop}{cs:List Frame}{V:World}{m:Nat->Value}{k:List Item}(hE:IsEnd E)(h:OnWay E cs m (.inRegion kRule [0,1,2,3,4,5,6,7,8,9,10,11,12,13,14]::k) V):
 ∃(r0 r1 r2 r3:Int)(ad:Option Addr)(n cap:Nat)(m':Nat->Value),m 0= .agg (Zh r0 r1 r2 r3 ad n cap)/\OnWay E cs m' (.inRegion kRule []::k) V/\m' 3= .slice ad n cap/\m' 10= .int .i64 n/\m' 11= .bool (decide ((n:Int)<=8))/\m' 12= .int .i64 0:=by
 obtain⟨y9,V1,rB,w0⟩:=OnWay.val hE (ops:=kRule) (d:=9) (X:=Instr.build 136 #[(0,m 0)]) (i:=0) h rfl (by kernel_rfl) rfl rfl (by decide) (by simp[execOp,kRule,op,Z2w]);obtain⟨y1,V1,r_,w1⟩:=OnWay.val hE (ops:=kRule) (d:=1) (X:=Instr.field 132 (m 0) 0) (i:=1) w0 rfl (by kernel_rfl) rfl rfl (by decide) rfl;obtain⟨e1,c,hx,rfl⟩:=Z6B r_;rw[hx] at rB;obtain⟨e2,hc⟩:=Z9M rB;subst e2;subst e1;obtain⟨y2,V1,r_,w2⟩:=OnWay.val hE (ops:=kRule) (d:=2) (X:=Instr.field 31 (.agg (c.extract 0 5)) 0) (i:=2) w1 rfl (by kernel_rfl) rfl rfl (by decide) rfl;obtain⟨e,rfl⟩:=Z4R r_;subst e;obtain⟨y3,V1,r_,w3⟩:=OnWay.val hE (ops:=kRule) (d:=3) (X:=Instr.field 31 (.agg (c.extract 0 5)) 1) (i:=3) w2 rfl (by kernel_rfl) rfl rfl (by decide) rfl;obtain⟨e,h3⟩:=Z4S r_;subst e;obtain⟨z0,V1,r_,w4⟩:=OnWay.val hE (ops:=kRule) (d:=4) (X:=Instr.field 28 (.agg ((c.extract 0 5).extract 0 4)) 0) (i:=4) w3 rfl (by kernel_rfl) rfl rfl (by decide) rfl;obtain⟨e,g0⟩:=Z1t (by decide) r_;subst e;obtain⟨z1,V1,r_,w5⟩:=OnWay.val hE (ops:=kRule) (d:=5) (X:=Instr.field 28 (.agg ((c.extract 0 5).extract 0 4)) 1) (i:=5) w4 rfl (by kernel_rfl) rfl rfl (by decide) rfl;obtain⟨e,g1⟩:=Z1t (by decide) r_;subst e;obtain⟨z2,V1,r_,w6⟩:=OnWay.val hE (ops:=kRule) (d:=6) (X:=Instr.field 28 (.agg ((c.extract 0 5).extract 0 4)) 2) (i:=6) w5 rfl (by kernel_rfl) rfl rfl (by decide) rfl
 obtain⟨e,g2⟩:=Z1t (by decide) r_;subst e;obtain⟨z3,V1,r_,w7⟩:=OnWay.val hE (ops:=kRule) (d:=7) (X:=Instr.field 28 (.agg ((c.extract 0 5).extract 0 4)) 3) (i:=7) w6 rfl (by kernel_rfl) rfl rfl (by decide) rfl;obtain⟨e,g3⟩:=Z1t (by decide) r_;subst e;obtain⟨_,V1,r_,w8⟩:=OnWay.val hE (ops:=kRule) (d:=8) (X:=Go.binOp .leq 3 z0 (.int .i64 0)) (i:=8) w7 rfl (by kernel_rfl) rfl rfl (by decide) rfl;obtain⟨e,r0,rfl,rfl⟩:=Z0L r_;subst e;obtain⟨_,V1,r_,w9⟩:=OnWay.val hE (ops:=kRule) (d:=8) (X:=Go.binOp .leq 3 z1 (.int .i64 0)) (i:=9) w8 rfl (by kernel_rfl) rfl rfl (by decide) rfl;obtain⟨e,r1,rfl,rfl⟩:=Z0L r_;subst e;obtain⟨_,V1,r_,w10⟩:=OnWay.val hE (ops:=kRule) (d:=8) (X:=Go.binOp .leq 3 z2 (.int .i64 0)) (i:=10) w9 rfl (by kernel_rfl) rfl rfl (by decide) rfl;obtain⟨e,r2,rfl,rfl⟩:=Z0L r_;subst e;obtain⟨_,V1,r_,w11⟩:=OnWay.val hE (ops:=kRule) (d:=8) (X:=Go.binOp .leq 3 z3 (.int .i64 0)) (i:=11) w10 rfl (by kernel_rfl) rfl rfl (by decide) rfl;obtain⟨e,r3,rfl,rfl⟩:=Z0L r_;subst e;obtain⟨_,V1,r_,w12⟩:=OnWay.val hE (ops:=kRule) (d:=10) (X:=Builtin.len_ #[29] 0 #[y3]) (i:=12) w11 rfl (by kernel_rfl) rfl rfl (by decide) (by simp[execOp,kRule,op,Z2w,resolve,invoke,upT];rfl);obtain⟨e,ad,n,cap,rfl,rfl⟩:=Zd9 r_
 subst e;obtain⟨_,V1,r_,w13⟩:=OnWay.val hE (ops:=kRule) (d:=11) (X:=Go.binOp .leq 3 (.int .i64 n) (.int .i64 8)) (i:=13) w12 rfl (by kernel_rfl) rfl rfl (by decide) rfl;obtain⟨e,p,ep,rfl⟩:=Z0L r_;cases ep;subst e;obtain⟨_,V1,r_,w14⟩:=OnWay.val hE (ops:=kRule) (d:=12) (X:=Pure.pure (.int .i64 0)) (i:=14) w13 rfl (by kernel_rfl) rfl rfl (by decide) rfl;cases r_;refine⟨r0,r1,r2,r3,ad,n,cap,_,?_,w14,rfl,rfl,rfl,rfl⟩;rw[hx];congr 1;have q:∀j,j<4->((c.extract 0 5).extract 0 4)[j]? =c[j]? :=by
  intro j hj;rw[Array.getElem?_extract,YZ (by simp;omega),Array.getElem?_extract,YZ (by omega)];simp
 have q4:(c.extract 0 5)[4]? =c[4]? :=by
  rw[Array.getElem?_extract,YZ (by omega)]
 rw[q 0 (by omega)] at g0;rw[q 1 (by omega)] at g1;rw[q 2 (by omega)] at g2;rw[q 3 (by omega)] at g3;rw[q4] at h3;apply Array.ext_getElem?;intro j;rcases XY j 5 with hj|hj
 ·obtain rfl|rfl|rfl|rfl|rfl:j=0\/j=1\/j=2\/j=3\/j=4:=by omega
  ·exact g0
  ·exact g1
  ·exact g2
  ·exact g3
  ·exact h3
 ·rw[Array.getElem?_eq_none (by omega),Array.getElem?_eq_none (by simp[Zh];omega)]
theorem Zbv[GK]{E:Frame->List Frame->World->Prop}{cs:List Frame}{V:World}{m:Nat->Value}{k:List Item}(hE:IsEnd E){base:Option Addr}{n cap i:Nat}(hi:i<n)(hl:∀a,base=some a->Live V a.block)(m3:m 3= .slice base n cap)(m12:m 12= .int .i64 i)
 (h:OnWay E cs m (.inRegion kShot [0,1,2,3,4,5,6,7,8,9,10,11,12,13,14,15,16,17]::k) V):
 ∃(ad:Addr)(x0 x1 x2 x3 x4:Int)(m':Nat->Value),base=some ad/\V.cell? ((ad.add (i*5)).add 0)=some (.int .i64 x0)/\V.cell? (((ad.add (i*5)).add 1).add 0)=some (.int .i64 x1)/\V.cell? (((ad.add (i*5)).add 1).add 1)=some (.int .i64 x2)/\
  V.cell? ((ad.add (i*5)).add 3)=some (.int .i64 x3)/\V.cell? ((ad.add (i*5)).add 4)=some (.int .i64 x4)/\OnWay E cs m' (.inRegion kShot []::k) V/\m' 3=m 3/\m' 10=m 10/\m' 12=m 12/\m' 28= .bool (decide (0<=x0))/\m' 29= .bool (decide (x0<=90)):=by
 obtain⟨_,V1,r_,w0⟩:=OnWay.val hE (ops:=kShot) (d:=14) (X:=Instr.indexAt 29 (m 3) (m 12)) (i:=0) h rfl (by kernel_rfl) rfl rfl (by decide) rfl;rw[m3,m12] at r_;obtain⟨e,ad,rfl,rfl⟩:=Z9J hi r_;subst e;have Kg:Live V1 ad.block:=hl _ rfl;have Kv:∀(x:Addr)(j:Nat),(x.add j).block=x.block:=λx j=>by unfold Addr.add;split<;>rfl
 suffices hh:∃(x0 x1 x2 x3 x4:Int)(m':Nat->Value),V1.cell? ((ad.add (i*5)).add 0)=some (.int .i64 x0)/\V1.cell? (((ad.add (i*5)).add 1).add 0)=some (.int .i64 x1)/\V1.cell? (((ad.add (i*5)).add 1).add 1)=some (.int .i64 x2)/\V1.cell? ((ad.add (i*5)).add 3)=some (.int .i64 x3)/\V1.cell? ((ad.add (i*5)).add 4)=some (.int .i64 x4)/\OnWay E cs m' (.inRegion kShot []::k) V1/\m' 3=m 3/\m' 10=m 10/\m' 12=m 12/\m' 28= .bool (decide (0<=x0))/\m' 29= .bool (decide (x0<=90)) from let ⟨a1,a2,a3,a4,a5,a6,r⟩:=hh;⟨ad,a1,a2,a3,a4,a5,a6,rfl,r⟩
 obtain⟨A,hA⟩:∃A,A=ad.add (i*5):=⟨_,rfl⟩;rw[<-hA] at w0⊢;have Ri:Live V1 A.block:=by rw[hA,Kv];exact Kg
 clear hA;obtain⟨_,V1,r_,w1⟩:=OnWay.val hE (ops:=kShot) (d:=15) (X:=Instr.fieldAt 75 (.pointer (some (A))) 0) (i:=1) w0 rfl (by kernel_rfl) rfl rfl (by decide) rfl;rw[run_field65 _ _ (by decide)] at r_;cases r_;obtain⟨v0,V1,r_,w2⟩:=OnWay.val hE (ops:=kShot) (d:=16) (X:=Instr.loadAt 3 (.pointer (some (A.add 0)))) (i:=2) w1 rfl (by kernel_rfl) rfl rfl (by decide) rfl;obtain⟨e,c0⟩:=Z2v (by simp only[Kv];exact Ri) r_;subst e;obtain⟨_,V1,r_,w3⟩:=OnWay.val hE (ops:=kShot) (d:=17) (X:=Instr.fieldAt 75 (.pointer (some (A))) 1) (i:=3) w2 rfl (by kernel_rfl) rfl rfl (by decide) rfl;rw[run_field65 _ _ (by decide)] at r_;cases r_;obtain⟨_,V1,r_,w4⟩:=OnWay.val hE (ops:=kShot) (d:=18) (X:=Instr.fieldAt 49 (.pointer (some (A.add 1))) 0) (i:=4) w3 rfl (by kernel_rfl) rfl rfl (by decide) rfl;rw[run_field41 _ _ (by decide)] at r_;cases r_;obtain⟨v1,V1,r_,w5⟩:=OnWay.val hE (ops:=kShot) (d:=19) (X:=Instr.loadAt 3 (.pointer (some ((A.add 1).add 0)))) (i:=5) w4 rfl (by kernel_rfl) rfl rfl (by decide) rfl;obtain⟨e,c1⟩:=Z2v (by simp only[Kv];exact Ri) r_;subst e;obtain⟨_,V1,r_,w6⟩:=OnWay.val hE (ops:=kShot) (d:=20) (X:=Instr.fieldAt 49 (.pointer (some (A.add 1))) 1) (i:=6) w5 rfl (by kernel_rfl) rfl rfl (by decide) rfl
 rw[run_field41 _ _ (by decide)] at r_;cases r_;obtain⟨v2,V1,r_,w7⟩:=OnWay.val hE (ops:=kShot) (d:=21) (X:=Instr.loadAt 3 (.pointer (some ((A.add 1).add 1)))) (i:=7) w6 rfl (by kernel_rfl) rfl rfl (by decide) rfl;obtain⟨e,c2⟩:=Z2v (by simp only[Kv];exact Ri) r_;subst e;obtain⟨_,V1,r_,w8⟩:=OnWay.val hE (ops:=kShot) (d:=22) (X:=Instr.fieldAt 75 (.pointer (some (A))) 2) (i:=8) w7 rfl (by kernel_rfl) rfl rfl (by decide) rfl;rw[run_field65 _ _ (by decide)] at r_;cases r_;obtain⟨v3,V1,r_,w9⟩:=OnWay.val hE (ops:=kShot) (d:=23) (X:=Instr.loadAt 3 (.pointer (some (A.add 3)))) (i:=9) w8 rfl (by kernel_rfl) rfl rfl (by decide) rfl;obtain⟨e,c3⟩:=Z2v (by simp only[Kv];exact Ri) r_;subst e;obtain⟨_,V1,r_,w10⟩:=OnWay.val hE (ops:=kShot) (d:=24) (X:=Instr.fieldAt 75 (.pointer (some (A))) 3) (i:=10) w9 rfl (by kernel_rfl) rfl rfl (by decide) rfl;rw[run_field65 _ _ (by decide)] at r_;cases r_;obtain⟨v4,V1,r_,w11⟩:=OnWay.val hE (ops:=kShot) (d:=25) (X:=Instr.loadAt 3 (.pointer (some (A.add 4)))) (i:=11) w10 rfl (by kernel_rfl) rfl rfl (by decide) rfl;obtain⟨e,c4⟩:=Z2v (by simp only[Kv];exact Ri) r_;subst e;obtain⟨_,V1,r_,w12⟩:=OnWay.val hE (ops:=kShot) (d:=26) (X:=Go.binOp .leq 3 v1 (.int .i64 0)) (i:=12) w11 rfl (by kernel_rfl) rfl rfl (by decide) rfl
 obtain⟨e,x1,rfl,rfl⟩:=Z0L r_;subst e;obtain⟨_,V1,r_,w13⟩:=OnWay.val hE (ops:=kShot) (d:=26) (X:=Go.binOp .leq 3 v2 (.int .i64 0)) (i:=13) w12 rfl (by kernel_rfl) rfl rfl (by decide) rfl;obtain⟨e,x2,rfl,rfl⟩:=Z0L r_;subst e;obtain⟨_,V1,r_,w14⟩:=OnWay.val hE (ops:=kShot) (d:=26) (X:=Go.binOp .leq 3 v3 (.int .i64 0)) (i:=14) w13 rfl (by kernel_rfl) rfl rfl (by decide) rfl;obtain⟨e,x3,rfl,rfl⟩:=Z0L r_;subst e;obtain⟨_,V1,r_,w15⟩:=OnWay.val hE (ops:=kShot) (d:=26) (X:=Go.binOp .leq 3 v4 (.int .i64 0)) (i:=15) w14 rfl (by kernel_rfl) rfl rfl (by decide) rfl;obtain⟨e,x4,rfl,rfl⟩:=Z0L r_;subst e;obtain⟨_,V1,r_,w16⟩:=OnWay.val hE (ops:=kShot) (d:=28) (X:=Go.binOp .leq 3 (.int .i64 0) v0) (i:=16) w15 rfl (by kernel_rfl) rfl rfl (by decide) rfl;obtain⟨e,x0,rfl,rfl⟩:=Zbs r_;subst e;obtain⟨_,V1,r_,w17⟩:=OnWay.val hE (ops:=kShot) (d:=29) (X:=Go.binOp .leq 3 (.int .i64 x0) (.int .i64 90)) (i:=17) w16 rfl (by kernel_rfl) rfl rfl (by decide) rfl;obtain⟨e,p,ep,rfl⟩:=Z0L r_;cases ep;subst e;exact⟨x0,x1,x2,x3,x4,_,c0,c1,c2,c3,c4,w17,rfl,rfl,rfl,rfl,rfl⟩
theorem valF{X:Sem Value}(h:X.run prog V= .ok v V1)(h':X.run prog V= .ok v' V2):v'=v/\V2=V1:=by rw[h] at h';cases h';exact⟨rfl,rfl⟩
theorem run_add1(i:Nat)(hi:i<=8)(V:World):(Go.binOp .add 3 (.int .i64 i) (.int .i64 1)).run prog V= .ok (.int .i64 (i+1)) V:=by
 have:IntKind.i64.wrap ((i:Int)+1)=i+1:=by rw[QU];omega
 simp[Go.binOp,go_sem,this]
def kRest:List Item:=[.code (.seq (.region 4 kMake false) (.seq (.block 1 (.loop kBuild)) .ret))]
def Ze1(V:World)(base:Option Addr)(i:Nat):Prop:=∃(ad:Addr)(x0 x1 x2 x3 x4:Int),base=some ad/\0<=x0/\x0<=90/\V.cell? ((ad.add (i*5)).add 0)=some (.int .i64 x0)/\V.cell? (((ad.add (i*5)).add 1).add 0)=some (.int .i64 x1)/\V.cell? (((ad.add (i*5)).add 1).add 1)=some (.int .i64 x2)/\
 V.cell? ((ad.add (i*5)).add 3)=some (.int .i64 x3)/\V.cell? ((ad.add (i*5)).add 4)=some (.int .i64 x4)
theorem Zbw[GK]{E:Frame->List Frame->World->Prop}{cs:List Frame}{V:World}(hE:IsEnd E)(Ag:cs≠[trap]){ba:Option Addr}{n cap:Nat}(hl:∀a,ba=some a->Live V a.block)(Ec:n<=8):
 ∀(d i:Nat)(m:Nat->Value),i+d=n->OnWay E cs m (.code kCheck:: .inLoop kCheck:: .inBlock 0::kRest) V->m 3= .slice ba n cap->m 10= .int .i64 n->m 12= .int .i64 i->∀j,i<=j->j<n->Ze1 V ba j:=by
 intro d
 induction d with
 |zero=>intro i m hd _ _ _ _ j hj hj';omega
 |succ d ih=>
  intro i m hd h m3 m10 m12;have hi:i<n:=by omega
  have h:=h.ctl hE Ag λa ha=>XH
  have h:=h.ctl hE Ag λa ha=>UD
  obtain⟨v,V1,r,h1⟩:=OnWay.val (ops:=kTest) (d:=13) (X:=Go.binOp .lss 3 (m 12) (m 10)) hE (show OnWay E cs m (.inRegion kTest (0::[])::_) V from h) rfl (by kernel_rfl) rfl rfl (by decide) rfl;rw[m12,m10] at r;obtain⟨ev,eV⟩:v= .bool (decide ((i:Int)<n))/\V1=V:=by
   refine valF (V1:=V) ?_ r;simp[Go.binOp,go_sem]
  rw[ev,eV,show decide ((i:Int)<n)=true from XX (by omega)] at h1;have h:=h1;clear h1 r ev eV;have h:=h.ctl hE Ag λa ha=>XC
  have h:=h.ctl hE Ag λa ha=>XH
  have h:=h.cond hE Ag (t:=true) rfl;rw[YZ rfl] at h;have h:=h.ctl hE Ag λa ha=>UN
  have h:=h.ctl hE Ag λa ha=>XH
  have h:=h.ctl hE Ag λa ha=>UD
  obtain⟨ad,x0,x1,x2,x3,x4,m',rfl,c0,c1,c2,c3,c4,h,e3,e10,e12,e28,e29⟩:=Zbv hE hi hl (cap:=cap) (by exact m3) (by exact m12) h;have h:=h.ctl hE Ag λa ha=>XC
  have h:=h.ctl hE Ag λa ha=>XH
  have h:=h.cond hE Ag (t:=decide (0<=x0)) (show Z2w m' (.tmp 28)=_ from e28)
  have p0:0<=x0:=VS λp0=>by
   rw[XV p0,XA (by decide)] at h;exact h.refuse hE (by rfl)
  rw[XX p0,YZ rfl] at h;have h:=h.ctl hE Ag λa ha=>UN
  have h:=h.ctl hE Ag λa ha=>XH
  have h:=h.cond hE Ag (t:=decide (x0<=90)) (show Z2w m' (.tmp 29)=_ from e29)
  have p1:x0<=90:=VS λp1=>by
   rw[XV p1,XA (by decide)] at h;exact h.refuse hE (by rfl)
  rw[XX p1,YZ rfl] at h;have h:=h.ctl hE Ag λa ha=>UN
  have h:=h.ctl hE Ag λa ha=>UD
  have e12':m' 12= .int .i64 i:=e12.trans m12;obtain⟨v,V1,r,h1⟩:=OnWay.val (ops:=kNext) (d:=30) (X:=Go.binOp .add 3 (m' 12) (.int .i64 1)) hE (show OnWay E cs m' (.inRegion kNext (0::[1])::_) V from h) rfl (by kernel_rfl) rfl rfl (by decide) rfl;rw[e12'] at r;obtain⟨ev,eV⟩:v= .int .i64 (i+1)/\V1=V:=by
   exact valF (V1:=V) (run_add1 i (by omega) V) r
  rw[ev,eV] at h1;obtain⟨v2,V2,r2,h2⟩:=OnWay.val (ops:=kNext) (d:=12) (X:=Pure.pure (.int .i64 (i+1))) hE h1 rfl (by kernel_rfl) rfl rfl (by decide) rfl;obtain⟨ev2,eV2⟩:v2= .int .i64 (i+1)/\V2=V:=valF (V1:=V) rfl r2;rw[ev2,eV2] at h2;have h:=h2;clear h1 h2 r r2 ev eV ev2 eV2;have h:=h.ctl hE Ag λa ha=>XC
  have h:=h.ctl hE Ag λa ha=>stepG_inLoop
  intro j hj Vd;rcases Nat.eq_or_lt_of_le hj with e|A3
  ·subst e;exact⟨ad,x0,x1,x2,x3,x4,rfl,p0,p1,c0,c1,c2,c3,c4⟩
  ·exact ih (i+1) _ (by omega) h (e3.trans m3) (e10.trans m10) rfl j A3 Vd
theorem pre_k[GK]{E:Frame->List Frame->World->Prop}{cs:List Frame}{V:World}{x:Value}(hE:IsEnd E)(Ag:cs≠[trap])(hx:VRel id (Live V) x x)(h:At E Tryz.prog fs GK.gk (Frame.enter (Z6 Tryz.prog fs) 114 #[x] .normal) cs V):
 ∃(r0 r1 r2 r3:Int)(ad:Option Addr)(n cap:Nat)(S:List Sh),x= .agg (Zh r0 r1 r2 r3 ad n cap)/\S.length=n/\n<=8/\Shots V ad S:=by
 rw[enterK] at h;have h:OnWay E cs (λi=>(aK x).eval (.tmp i)) [.code kBody] V:=⟨aK x,rfl,by funext o;cases o<;>rfl,h⟩;have h:=h.ctl hE Ag λa ha=>XH
 have h:=h.ctl hE Ag λa ha=>UD
 obtain⟨r0,r1,r2,r3,ad,n,cap,m',Bo,h,e3,e10,e11,e12⟩:=Zbu hE h;have Bo:x= .agg (Zh r0 r1 r2 r3 ad n cap):=Bo;rw[Bo] at hx;have h:=h.ctl hE Ag λa ha=>XC
 have h:=h.ctl hE Ag λa ha=>XH
 have h:=h.cond hE Ag (show Z2w m' (.tmp 11)=_ from e11)
 have hn:(n:Int)<=8:=VS λhn=>by
  rw[XV hn,XA (by decide)] at h;exact h.refuse hE (by rfl)
 rw[XX hn,YZ rfl] at h;have h:=h.ctl hE Ag λa ha=>UN
 have h:=h.ctl hE Ag λa ha=>XH
 have h:=h.ctl hE Ag λa ha=>stepG_block
 have h:=h.ctl hE Ag λa ha=>stepG_loop
 have hl:∀a,ad=some a->Live V a.block:=by
  intro a ha;subst ha;cases hx with
  |agg h1 h2=>
   have:=h2 4 (by simp[Zh]);simp only[Zh] at this;cases this with
   |slice l c h=>exact h
 have key:=Zbw hE Ag hl (by omega) n 0 m' (by omega) h e3 e10 (by simpa using e12);clear h e3 e10 e11 e12 hl;have ap:∀b off j,Addr.add ⟨b,off,none⟩ j=⟨b,off+j,none⟩:=λb off j=>by unfold Addr.add;split<;>simp_all
 have hk:∀j,∃s:Sh,j<n->∃b off,ad=some ⟨b,off,none⟩/\b<V.heap.size/\s.c<=90/\ShotAt V b (off+j*5) s.c s.m s.M s.wi s.li:=by
  intro j;rcases XY j n with hj|hj
  rotate_left
  ·exact⟨⟨0,0,0,0,0⟩,λh=>by omega⟩
  obtain⟨⟨b,off,sp⟩,x0,x1,x2,x3,x4,e0,p0,p1,c0,c1,c2,c3,c4⟩:=key j (by omega) hj;obtain⟨a0,_,_,_,_,_,e1,_,_,d0,_⟩:=key 0 (by omega) (by omega);have D7:sp=none:=by
   rw[e0] at e1;cases e1;simp only[Nat.zero_mul] at d0;have ea:(Addr.add (Addr.add ⟨b,off,sp⟩ 0) 0)=⟨b,off,sp⟩:=rfl;rw[ea] at d0;cases sp with
   |none=>rfl
   |some _=>
    unfold World.cell? at d0;split at d0
    ·simp at d0
    ·cases d0
  subst D7;simp only[ap,RV,TK] at c0 c1 c2 c3 c4;have hb:b<V.heap.size:=by
   unfold World.cell? at c0;split at c0
   ·rename_i hh;exact(YF.1 hh).1
   ·cases c0
  refine⟨⟨x0.toNat,x1,x2,x3,x4⟩,λ_=>⟨b,off,e0,hb,by simp only;omega,?_⟩⟩;have ex:((x0.toNat:Nat):Int)=x0:=by omega
  exact⟨by simp only[ex];exact c0,by simp only[TK];exact c1,by simp only[TK];exact c2,by simp only[TK];exact c3,by simp only[TK];exact c4⟩
 have hS:∀(i:Nat)(s:Sh),((List.range n).map λj=>Classical.choose (hk j))[i]? =some s->i<n/\s=Classical.choose (hk i):=by
  intro i s hi;rw[List.getElem?_map] at hi;obtain⟨y,hy,rfl⟩:=XT.1 hi;have A3:i<n:=by simpa using(YI.1 hy).1
  rw[List.getElem?_range A3] at hy;cases hy;exact⟨A3,rfl⟩
 refine⟨r0,r1,r2,r3,ad,n,cap,(List.range n).map λj=>Classical.choose (hk j),Bo,by simp,by omega,λi s hi=> ?_⟩;obtain⟨A3,rfl⟩:=hS i s hi;exact RM (hk i) A3
end Go.Proofs.Tryq
