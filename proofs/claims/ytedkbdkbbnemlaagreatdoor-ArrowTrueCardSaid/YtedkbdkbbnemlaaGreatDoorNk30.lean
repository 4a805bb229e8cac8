import Derived.Test.YtedkbdkbbnemlaaGreatDoorNk29
import Derived.Deep.AppendLies
set_option linter.all false
namespace Go.Proofs.Tryq
open Go Go.Nk Go.RowKit
set_option linter.all false
def sfV(x:Sf):List Value:=[.string x.nm,.int .i64 x.a0,.int .i64 x.a1,.int .i64 x.b0,.int .i64 x.b1,.int .i64 x.c0,.int .i64 x.c1]
def ZkU(L:List Sf):List Value:=L.flatMap sfV
theorem sfsV_len:∀S:List Sf,(ZkU S).length=S.length*7
 |[]=>rfl
 |s::S=>by
  have:=sfsV_len S;simp only[ZkU,List.flatMap_cons,List.length_append,List.length_cons] at*;rw[this];simp[sfV];omega
theorem sfsV_at:∀(S:List Sf)(i:Nat)(s:Sf),S[i]? =some s->∀c,c<7->(ZkU S)[i*7+c]? =(sfV s)[c]?
 |[],i,s,h,c,hc=>by simp at h
 |x::S,0,s,h,c,hc=>by
  obtain rfl:x=s:=by simpa using h
  simp only[ZkU,List.flatMap_cons];rw[List.getElem?_append_left (by simp[sfV];omega)];simp
 |x::S,i+1,s,h,c,hc=>by
  have ih:=sfsV_at S i s (by simpa using h) c hc;simp only[ZkU,List.flatMap_cons] at*;rw[List.getElem?_append_right (by simp[sfV];omega),<-ih];congr 1;simp[sfV];omega
theorem Zl3(S:List Sf):∀u∈ZkU S,u.oneCell'=true:=by
 intro u hu;obtain⟨s,_,hs⟩:=List.mem_flatMap.1 hu;simp only[sfV,List.mem_cons,List.not_mem_nil,or_false] at hs;rcases hs with rfl|rfl|rfl|rfl|rfl|rfl|rfl<;>rfl
theorem ZkQ{w:World}{B O:Nat}{S:List Sf}(h:RawA w (some ⟨B,O,none⟩) S):∀j u,(ZkU S)[j]? =some u->w.cell? ((⟨B,O,none⟩:Addr).add j)=some u:=by
 intro j u hj;have A3:=(List.getElem?_eq_some_iff.1 hj).1;rw[sfsV_len] at A3;have hi:j / 7<S.length:=by omega
 obtain⟨s,hs⟩:∃s,S[j / 7]? =some s:=⟨_,List.getElem?_eq_getElem hi⟩;have h1:=sfsV_at S (j / 7) s hs (j % 7) (Nat.mod_lt _ (by omega));rw[show j / 7*7+j % 7=j by omega,hj] at h1;obtain⟨b,o,e,_,sh,_⟩:=h _ s hs;obtain⟨rfl,rfl⟩:B=b/\O=o:=by simpa using e
 have e2:(⟨B,O,none⟩:Addr).add j=⟨B,O+j / 7*7+j % 7,none⟩:=by rw[Zh7];congr 1;omega
 rw[e2];have hm:j % 7<7:=Nat.mod_lt _ (by omega);generalize j % 7=c at h1 hm
 match c,hm,h1 with
 |0,_,h1=>simp[sfV] at h1;rw[h1];exact sh.k0
 |1,_,h1=>simp[sfV] at h1;rw[h1];exact sh.k1
 |2,_,h1=>simp[sfV] at h1;rw[h1];exact sh.k2
 |3,_,h1=>simp[sfV] at h1;rw[h1];exact sh.k3
 |4,_,h1=>simp[sfV] at h1;rw[h1];exact sh.k4
 |5,_,h1=>simp[sfV] at h1;rw[h1];exact sh.k5
 |6,_,h1=>simp[sfV] at h1;rw[h1];exact sh.k6
theorem ZkS{w:World}{B O:Nat}{S:List Sf}(hB:B<w.heap.size)(hn:∀x∈S,x.nm.size<=maxLen)(h:∀j u,(ZkU S)[j]? =some u->w.cell? ⟨B,O+j,none⟩=some u):RawA w (some ⟨B,O,none⟩) S:=by
 intro i s hs;have k:=fun c (hc:c<7) u (hu:(sfV s)[c]? =some u)=>h (i*7+c) u ((sfsV_at S i s hs c hc).trans hu)
 refine⟨B,O,rfl,hB,?_,hn s (List.mem_of_getElem? hs)⟩;have k0:=k 0 (by omega) _ rfl;have k1:=k 1 (by omega) _ rfl;have k2:=k 2 (by omega) _ rfl;have k3:=k 3 (by omega) _ rfl;have k4:=k 4 (by omega) _ rfl;have k5:=k 5 (by omega) _ rfl;have k6:=k 6 (by omega) _ rfl;exact⟨k0,k1,k2,k3,k4,k5,k6⟩
theorem RawA.size{w:World}{base:Option Addr}{L:List Sf}(h:RawA w base L):∀x∈L,x.nm.size<=maxLen:=by
 intro x hx;obtain⟨i,hi⟩:=List.mem_iff_getElem?.1 hx;obtain⟨_,_,_,_,_,h4⟩:=h i x hi;exact h4
theorem u24:prog.underlying 24=some (.slice 51):=(underlying_eq 24).trans Tryz.underlying24
theorem i51:prog.info? 51=some Tryz.t51:=by kernel_rfl
theorem t51z:Tryz.t51.zero=some (.agg #[.string .empty,.int .i64 0,.int .i64 0,.int .i64 0,.int .i64 0,.int .i64 0,.int .i64 0]):=by kernel_rfl
theorem t51s:Tryz.t51.size=7:=by kernel_rfl
theorem t51b:Tryz.t51.bytes=64:=by kernel_rfl
def OwnA(base:Nat)(w:World)(v:Value)(S:List Sf):Prop:=w.ownsRow base 51 7 v S.length (ZkU S)
theorem ZkR{w:World}{base b:Nat}(h:w.heap[b]? =some (.cells #[] 51))(hb:base<=b):OwnA base w (.slice (some ⟨b,0,none⟩) 0 0) []:=
 ⟨rfl,.inr ⟨b,0,#[],rfl,hb,h,Nat.le_refl _,by simp[maxLen],rfl,rfl⟩⟩
theorem OwnA.form{w:World}{b:Nat}{v:Value}{S:List Sf}(h:OwnA b w v S)(h0:0<S.length)(hn:∀x∈S,x.nm.size<=maxLen):∃g cap,v= .slice (some ⟨g,0,none⟩) S.length cap/\b<=g/\g<w.heap.size/\RawA w (some ⟨g,0,none⟩) S/\S.length<=cap/\cap<=maxLen:=by
 have hc:=fun g hg=>World.ownsRow.cells (g:=g) h hg
 rcases h.2 with⟨_,h1⟩|⟨g,cap,cur,rfl,hb,hg,h1,h2,_,_⟩
 ·omega
 ·refine⟨g,cap,rfl,hb,Z5 hg,ZkS (Z5 hg) hn fun j u hj=> ?_,h1,h2⟩;have:=hc g rfl j u hj;rw[Zh7] at this;exact this
set_option linter.all false
theorem Zl6{base:Nat}{w:World}{v:Value}{n:Nat}{L:List Sf}(h:w.ownsRow base 51 7 v n (ZkU L))(hn:L.length=n):OwnA base w v L:=by subst hn;exact h
theorem ZkT{w:World}{g:Nat}{cur:Array Value}{t:TypeId}{L:List Sf}(hb:w.heap[g]? =some (.cells cur t))(h:RawA w (some ⟨g,0,none⟩) L){i k K:Nat}(hi:i<L.length)(hk:k<3)(hK:K=1+2*k)(p q:Int):
 RawA ((w.setCell ⟨g,i*7+K,none⟩ (.int .i64 p)).setCell ⟨g,i*7+K+1,none⟩ (.int .i64 q)) (some ⟨g,0,none⟩) (Zla L i k (p,q)):=by
 intro j x' hx';obtain⟨x,hx,rfl⟩:=Zlc hx';obtain⟨b,o,e,A3,sh,hn⟩:=h j x hx;obtain⟨rfl,rfl⟩:g=b/\0=o:=by simpa using e
 have Ak:=Zb (i:=i*7+K+1) (Zb (i:=i*7+K) hb (.int .i64 p)) (.int .i64 q);have Ay:j*7+6<cur.size:=by
  have:=sh.k6;rw[Z0 hb] at this;have:=(Array.getElem?_eq_some_iff.1 this).1;omega
 generalize (w.setCell ⟨g,i*7+K,none⟩ (.int .i64 p)).setCell ⟨g,i*7+K+1,none⟩ (.int .i64 q)=W at Ak⊢;have G:∀o v,w.cell? ⟨g,o,none⟩=some v->¬o=i*7+K->¬o=i*7+K+1->W.cell? ⟨g,o,none⟩=some v:=by
  intro o v ho h1 h2;rw[Z0 hb] at ho;rw[Z0 Ak,Array.getElem?_setIfInBounds_ne (fun h=>h2 h.symm),Array.getElem?_setIfInBounds_ne (fun h=>h1 h.symm),ho]
 have G1:j=i->W.cell? ⟨g,i*7+K,none⟩=some (.int .i64 p):=by
  rintro rfl;rw[Z0 Ak,Array.getElem?_setIfInBounds_ne (by omega),Array.getElem?_setIfInBounds_self_of_lt (by omega)]
 have G2:j=i->W.cell? ⟨g,i*7+K+1,none⟩=some (.int .i64 q):=by
  rintro rfl;rw[Z0 Ak,Array.getElem?_setIfInBounds_self_of_lt (by rw[Array.size_setIfInBounds];omega)]
 refine⟨g,0,rfl,Z5 Ak,?_,?_⟩
 ·by_cases Aq:j=i
  ·subst Aq;rw[if_pos rfl];have G1:=G1 rfl;have G2:=G2 rfl
   match k,hk with
   |0,_=>exact⟨G _ _ sh.k0 (by omega) (by omega),by simpa[Zl9,hK] using G1,by simpa[Zl9,hK] using G2,G _ _ sh.k3 (by omega) (by omega),G _ _ sh.k4 (by omega) (by omega),G _ _ sh.k5 (by omega) (by omega),G _ _ sh.k6 (by omega) (by omega)⟩
   |1,_=>exact⟨G _ _ sh.k0 (by omega) (by omega),G _ _ sh.k1 (by omega) (by omega),G _ _ sh.k2 (by omega) (by omega),by simpa[Zl9,hK] using G1,by simpa[Zl9,hK] using G2,G _ _ sh.k5 (by omega) (by omega),G _ _ sh.k6 (by omega) (by omega)⟩
   |2,_=>exact⟨G _ _ sh.k0 (by omega) (by omega),G _ _ sh.k1 (by omega) (by omega),G _ _ sh.k2 (by omega) (by omega),G _ _ sh.k3 (by omega) (by omega),G _ _ sh.k4 (by omega) (by omega),by simpa[Zl9,hK] using G1,by simpa[Zl9,hK] using G2⟩
  ·rw[if_neg Aq];exact⟨G _ _ sh.k0 (by omega) (by omega),G _ _ sh.k1 (by omega) (by omega),G _ _ sh.k2 (by omega) (by omega),G _ _ sh.k3 (by omega) (by omega),G _ _ sh.k4 (by omega) (by omega),G _ _ sh.k5 (by omega) (by omega),G _ _ sh.k6 (by omega) (by omega)⟩
 ·split
  ·rw[Zle];exact hn
  ·exact hn
end Go.Proofs.Tryq
namespace Go.Proofs.Tryq
set_option maxRecDepth 100000
set_option maxHeartbeats 4000000
open Go Go.Nk Go.RowKit
set_option linter.all false
theorem OwnA.block{w:World}{base g n cap:Nat}{L:List Sf}(h:OwnA base w (.slice (some ⟨g,0,none⟩) n cap) L):∃cur,w.heap[g]? =some (.cells cur 51):=by
 rcases h.2 with⟨h1,_⟩|⟨g2,cap2,cur,e,_,hg,_⟩
 ·cases h1
 ·cases e;exact⟨cur,hg⟩
theorem ZkJ{w w':World}{g O:Nat}{S:List Sf}(h:RawA w (some ⟨g,O,none⟩) S)(e:w'.heap[g]? =w.heap[g]?):RawA w' (some ⟨g,O,none⟩) S:=by
 intro i s hs;obtain⟨b,off,e1,hb,sh,hz⟩:=h i s hs;obtain⟨rfl,rfl⟩:g=b/\O=off:=by simpa using e1
 have hc:∀o,w'.cell? ⟨g,o,none⟩=w.cell? ⟨g,o,none⟩:=fun o=>by simp only[World.cell?,e]
 have hb':g<w'.heap.size:=by
  rw[Array.getElem?_eq_getElem hb] at e;exact(Array.getElem?_eq_some_iff.1 e).1
 exact⟨g,O,rfl,hb',⟨by rw[hc];exact sh.k0,by rw[hc];exact sh.k1,by rw[hc];exact sh.k2,by rw[hc];exact sh.k3,by rw[hc];exact sh.k4,by rw[hc];exact sh.k5,by rw[hc];exact sh.k6⟩,hz⟩
theorem Zlf(a b c m p q:Int)(base:Option Addr)(n cap i k:Nat)(L:List Sf)(w:World)(hn:L.length=n)(h1:n<=100)(hi:i<n)(hk:k<3)(hL:RawA w base L):
 Calls prog 35 #[.agg #[.int .i64 a,.int .i64 b,.int .i64 c,.int .i64 m,.slice base n cap],.int .i64 i,.int .i64 k,.agg #[.int .i64 p,.int .i64 q]] w fun e w'=>∃g' cap',e= .returned (.agg #[.int .i64 a,.int .i64 b,.int .i64 c,.int .i64 m,.slice (some ⟨g',0,none⟩) n cap'])/\n<=cap'/\w.heap.size<=g'/\(∃cur,w'.heap[g']? =some (.cells cur 51))/\RawA w' (some ⟨g',0,none⟩) (Zla L i k (p,q))/\Ext w w':=by
 obtain⟨x0,B8⟩:∃x,L[0]? =some x:=⟨_,List.getElem?_eq_getElem (by omega)⟩;obtain⟨g,o,rfl,Wm,_⟩:=hL 0 x0 B8;have Km:=hL.size;have hX:=ZkQ hL;have hXl:=sfsV_len L;clear B8 hL;have Aj:(i:Int)<(n:Int):=by omega
 obtain⟨K,hK⟩:∃K,K=1+2*k:=⟨_,rfl⟩;have Tc:(k=0/\K=1)\/(k=1/\K=3)\/(k=2/\K=5):=by omega
 rcases Tc with⟨rfl,rfl⟩|⟨rfl,rfl⟩|⟨rfl,rfl⟩
 all_goals
  clear hK;go_enter func35,ntmps35
  go_wp2_with (
   at_builtin
   go_loud (
   have hE:=((((Ext.rfl' w).alloc (.cells #[.int .i64 a,.int .i64 b,.int .i64 c,.int .i64 m,.slice (some ⟨g,o,none⟩) n cap] 26)).alloc (.cells #[.int .i64 p,.int .i64 q] 48)).alloc (.cells #[.int .i64 0,.int .i64 0,.int .i64 0,.int .i64 0,.slice none 0 0] 26)).alloc (.cells #[.int .i64 a,.int .i64 b,.int .i64 c,.int .i64 m,.slice (some ⟨g,o,none⟩) n cap] 26);have b1:((((w.alloc (.cells #[.int .i64 a,.int .i64 b,.int .i64 c,.int .i64 m,.slice (some ⟨g,o,none⟩) n cap] 26)).alloc (.cells #[.int .i64 p,.int .i64 q] 48)).alloc (.cells #[.int .i64 0,.int .i64 0,.int .i64 0,.int .i64 0,.slice none 0 0] 26)).alloc (.cells #[.int .i64 a,.int .i64 b,.int .i64 c,.int .i64 m,.slice (some ⟨g,o,none⟩) n cap] 26)).heap[w.heap.size+1]? =some (.cells #[.int .i64 p,.int .i64 q] 48):=by simp only[Z3,Z2];rw[if_neg (by omega),if_neg (by omega),if_pos trivial]
   have b2:((((w.alloc (.cells #[.int .i64 a,.int .i64 b,.int .i64 c,.int .i64 m,.slice (some ⟨g,o,none⟩) n cap] 26)).alloc (.cells #[.int .i64 p,.int .i64 q] 48)).alloc (.cells #[.int .i64 0,.int .i64 0,.int .i64 0,.int .i64 0,.slice none 0 0] 26)).alloc (.cells #[.int .i64 a,.int .i64 b,.int .i64 c,.int .i64 m,.slice (some ⟨g,o,none⟩) n cap] 26)).heap[w.heap.size+1+1]? =some (.cells #[.int .i64 0,.int .i64 0,.int .i64 0,.int .i64 0,.slice none 0 0] 26):=by simp only[Z3,Z2];rw[if_neg (by omega),if_pos trivial]
   have b3:((((w.alloc (.cells #[.int .i64 a,.int .i64 b,.int .i64 c,.int .i64 m,.slice (some ⟨g,o,none⟩) n cap] 26)).alloc (.cells #[.int .i64 p,.int .i64 q] 48)).alloc (.cells #[.int .i64 0,.int .i64 0,.int .i64 0,.int .i64 0,.slice none 0 0] 26)).alloc (.cells #[.int .i64 a,.int .i64 b,.int .i64 c,.int .i64 m,.slice (some ⟨g,o,none⟩) n cap] 26)).heap[w.heap.size+1+1+1]? =some (.cells #[.int .i64 a,.int .i64 b,.int .i64 c,.int .i64 m,.slice (some ⟨g,o,none⟩) n cap] 26):=by simp only[Z3,Z2];rw[if_pos trivial]
   have Ay:((((w.alloc (.cells #[.int .i64 a,.int .i64 b,.int .i64 c,.int .i64 m,.slice (some ⟨g,o,none⟩) n cap] 26)).alloc (.cells #[.int .i64 p,.int .i64 q] 48)).alloc (.cells #[.int .i64 0,.int .i64 0,.int .i64 0,.int .i64 0,.slice none 0 0] 26)).alloc (.cells #[.int .i64 a,.int .i64 b,.int .i64 c,.int .i64 m,.slice (some ⟨g,o,none⟩) n cap] 26)).heap.size=w.heap.size+1+1+1+1:=by simp only[Z2]
   generalize ((((w.alloc (.cells #[.int .i64 a,.int .i64 b,.int .i64 c,.int .i64 m,.slice (some ⟨g,o,none⟩) n cap] 26)).alloc (.cells #[.int .i64 p,.int .i64 q] 48)).alloc (.cells #[.int .i64 0,.int .i64 0,.int .i64 0,.int .i64 0,.slice none 0 0] 26)).alloc (.cells #[.int .i64 a,.int .i64 b,.int .i64 c,.int .i64 m,.slice (some ⟨g,o,none⟩) n cap] 26))=W0 at hE b1 b2 b3 Ay⊢;rw[<-Ay];have hXe:∀(j:Nat) u,(ZkU L)[j]? =some u->(W0.alloc (.cells #[] 51)).cell? ((⟨g,o,none⟩:Addr).add j)=some u:=fun j u hu=>(hE.alloc _).cellS (hX j u hu)
   refine wpList_append_own _ rfl _ _ _ rfl W0.heap.size 51 Tryz.t51 _ 7 64 u24 i51 t51z t51s t51b rfl (by omega) _ 0 [] rfl (ZkR ((Z3 _ _ _).trans (if_pos rfl)) (Nat.le_refl _)) ⟨g,o,none⟩ n cap (ZkU L) rfl (by rw[hXl,hn]) hXe (Zl3 L) (by simp[maxLen];omega) (by omega) (by simp) ?_;intro v' w3 Ai Aa _;have B4:(W0.alloc (.cells #[] 51)).grownBy w3 (some W0.heap.size):=Aa;have As:Ext w w3:=(hE.alloc _).grown B4 (fun k hk=>by cases hk;exact hE.size);replace Ai:OwnA W0.heap.size w3 v' L:=Zl6 (by simpa using Ai) hn;have Bh:∀b,b<W0.heap.size->w3.heap[b]? =W0.heap[b]? :=fun b hb=>(B4.block b (by rw[Z2];omega) (by intro e;cases e;omega)).trans (((Ext.rfl' W0).alloc _).old b hb)
   have c1:=(Bh _ (by omega)).trans b1;have c2:=(Bh _ (by omega)).trans b2;have c3:=(Bh _ (by omega)).trans b3;obtain⟨g',cp',e',hg',Em,hR,B7,El⟩:=Ai.form (by omega) Km;rw[hn] at e' B7;subst e';obtain⟨cur,Fs⟩:=Ai.block;rw[Ay] at hg';rw[Ay];clear b1 b2 b3 Bh Aa B4 hE Ai hXe hX Km Ay;have y4:=Z0 c3 4;have f4:=Z8 c3 4;simp only[List.getElem?_toArray,List.getElem?_cons_zero,List.getElem?_cons_succ] at y4;have An:=As.setCell ⟨w.heap.size+1+1+1,4,none⟩ (.slice (some ⟨g',0,none⟩) n cp') (show w.heap.size<=w.heap.size+1+1+1 by omega);have d3:=Zb (i:=4) c3 (.slice (some ⟨g',0,none⟩) n cp');have d2:=(set_ne (w:=w3) (a:=⟨w.heap.size+1+1+1,4,none⟩) (show w.heap.size+1+1≠w.heap.size+1+1+1 by omega) (.slice (some ⟨g',0,none⟩) n cp')).trans c2;have d1:=(set_ne (w:=w3) (a:=⟨w.heap.size+1+1+1,4,none⟩) (show w.heap.size+1≠w.heap.size+1+1+1 by omega) (.slice (some ⟨g',0,none⟩) n cp')).trans c1;have d0:=(set_ne (w:=w3) (a:=⟨w.heap.size+1+1+1,4,none⟩) (show g'≠w.heap.size+1+1+1 by omega) (.slice (some ⟨g',0,none⟩) n cp')).trans Fs;have P4:RawA (w3.setCell ⟨w.heap.size+1+1+1,4,none⟩ (.slice (some ⟨g',0,none⟩) n cp')) (some ⟨g',0,none⟩) L:=ZkJ hR (set_ne (w:=w3) (a:=⟨w.heap.size+1+1+1,4,none⟩) (show g'≠w.heap.size+1+1+1 by omega) (.slice (some ⟨g',0,none⟩) n cp'))
   simp only[List.setIfInBounds_toArray,List.set_cons_succ,List.set_cons_zero] at d3;obtain⟨z0,z1,z2,z3,z4⟩:=Zgj c2;obtain⟨zf0,zf1,zf2,zf3,zf4⟩:=ZiJ c2;clear c1 c2 c3 Fs hR As;obtain⟨x1,Df⟩:∃x,L[i]? =some x:=⟨_,List.getElem?_eq_getElem (by omega)⟩;obtain⟨bq,oq,eq,_,sx,_⟩:=P4 i x1 Df;obtain⟨rfl,rfl⟩:g'=bq/\0=oq:=by simpa using eq
   have s1:=sx.k1;have s2:=sx.k2;have s3:=sx.k3;have s4:=sx.k4;have s5:=sx.k5;have s6:=sx.k6;simp only[Nat.zero_add] at s1 s2 s3 s4 s5 s6;have t1:=Z8 d0 (i*7+1);have t2:=Z8 d0 (i*7+1+1);have t3:=Z8 d0 (i*7+3);have t4:=Z8 d0 (i*7+3+1);have t5:=Z8 d0 (i*7+5);have t6:=Z8 d0 (i*7+5+1);obtain⟨e0,e1,e2,e3,e4⟩:=Zgj d3;have yp:=Zc d1;have yp0:=yp.1;have yp1:=yp.2.1;clear eq sx yp))
 ·have U6:=ZkT (k:=0) (K:=1) d0 P4 (by omega:i<L.length) (by decide) rfl p q;have B6:=(An.setCell ⟨g',i*7+1,none⟩ (.int .i64 p) (show w.heap.size<=g' by omega)).setCell ⟨g',i*7+1+1,none⟩ (.int .i64 q) (show w.heap.size<=g' by omega);have d5:=(set_ne (a:=⟨g',i*7+1+1,none⟩) (show w.heap.size+1+1≠g' by omega) (.int .i64 q)).trans ((set_ne (a:=⟨g',i*7+1,none⟩) (show w.heap.size+1+1≠g' by omega) (.int .i64 p)).trans d2);obtain⟨k0,k1,k2,k3,k4⟩:=Zgj (ZiD d5 (.int .i64 a) (.int .i64 b) (.int .i64 c) (.int .i64 m) (.slice (some ⟨g',0,none⟩) n cp'));have P5:=ZkJ U6 (ZiG _ (show g'≠w.heap.size+1+1 by omega) (.int .i64 a) (.int .i64 b) (.int .i64 c) (.int .i64 m) (.slice (some ⟨g',0,none⟩) n cp'));have d7:=(ZiG _ (show g'≠w.heap.size+1+1 by omega) (.int .i64 a) (.int .i64 b) (.int .i64 c) (.int .i64 m) (.slice (some ⟨g',0,none⟩) n cp')).trans (Zb (i:=i*7+1+1) (Zb (i:=i*7+1) d0 (.int .i64 p)) (.int .i64 q));have Bz:=ZiE B6 (show w.heap.size<=w.heap.size+1+1 by omega) (.int .i64 a) (.int .i64 b) (.int .i64 c) (.int .i64 m) (.slice (some ⟨g',0,none⟩) n cp');simp only[ZjW] at k0 k1 k2 k3 k4;refine bodyPost_ret (v:= .agg #[.int .i64 a,.int .i64 b,.int .i64 c,.int .i64 m,.slice (some ⟨g',0,none⟩) n cp']) ((Z07 rfl _ _ _).trans ?_) rfl ⟨g',cp',rfl,B7,by omega,⟨_,d7⟩,P5,Bz⟩
  simp[go_sem,k0,k1,k2,k3,k4]
 ·have U6:=ZkT (k:=1) (K:=3) d0 P4 (by omega:i<L.length) (by decide) rfl p q;have B6:=(An.setCell ⟨g',i*7+3,none⟩ (.int .i64 p) (show w.heap.size<=g' by omega)).setCell ⟨g',i*7+3+1,none⟩ (.int .i64 q) (show w.heap.size<=g' by omega);have d5:=(set_ne (a:=⟨g',i*7+3+1,none⟩) (show w.heap.size+1+1≠g' by omega) (.int .i64 q)).trans ((set_ne (a:=⟨g',i*7+3,none⟩) (show w.heap.size+1+1≠g' by omega) (.int .i64 p)).trans d2);obtain⟨k0,k1,k2,k3,k4⟩:=Zgj (ZiD d5 (.int .i64 a) (.int .i64 b) (.int .i64 c) (.int .i64 m) (.slice (some ⟨g',0,none⟩) n cp'));have P5:=ZkJ U6 (ZiG _ (show g'≠w.heap.size+1+1 by omega) (.int .i64 a) (.int .i64 b) (.int .i64 c) (.int .i64 m) (.slice (some ⟨g',0,none⟩) n cp'));have d7:=(ZiG _ (show g'≠w.heap.size+1+1 by omega) (.int .i64 a) (.int .i64 b) (.int .i64 c) (.int .i64 m) (.slice (some ⟨g',0,none⟩) n cp')).trans (Zb (i:=i*7+3+1) (Zb (i:=i*7+3) d0 (.int .i64 p)) (.int .i64 q));have Bz:=ZiE B6 (show w.heap.size<=w.heap.size+1+1 by omega) (.int .i64 a) (.int .i64 b) (.int .i64 c) (.int .i64 m) (.slice (some ⟨g',0,none⟩) n cp');simp only[ZjW] at k0 k1 k2 k3 k4;refine bodyPost_ret (v:= .agg #[.int .i64 a,.int .i64 b,.int .i64 c,.int .i64 m,.slice (some ⟨g',0,none⟩) n cp']) ((Z07 rfl _ _ _).trans ?_) rfl ⟨g',cp',rfl,B7,by omega,⟨_,d7⟩,P5,Bz⟩
  simp[go_sem,k0,k1,k2,k3,k4]
 ·have U6:=ZkT (k:=2) (K:=5) d0 P4 (by omega:i<L.length) (by decide) rfl p q;have B6:=(An.setCell ⟨g',i*7+5,none⟩ (.int .i64 p) (show w.heap.size<=g' by omega)).setCell ⟨g',i*7+5+1,none⟩ (.int .i64 q) (show w.heap.size<=g' by omega);have d5:=(set_ne (a:=⟨g',i*7+5+1,none⟩) (show w.heap.size+1+1≠g' by omega) (.int .i64 q)).trans ((set_ne (a:=⟨g',i*7+5,none⟩) (show w.heap.size+1+1≠g' by omega) (.int .i64 p)).trans d2);obtain⟨k0,k1,k2,k3,k4⟩:=Zgj (ZiD d5 (.int .i64 a) (.int .i64 b) (.int .i64 c) (.int .i64 m) (.slice (some ⟨g',0,none⟩) n cp'));have P5:=ZkJ U6 (ZiG _ (show g'≠w.heap.size+1+1 by omega) (.int .i64 a) (.int .i64 b) (.int .i64 c) (.int .i64 m) (.slice (some ⟨g',0,none⟩) n cp'));have d7:=(ZiG _ (show g'≠w.heap.size+1+1 by omega) (.int .i64 a) (.int .i64 b) (.int .i64 c) (.int .i64 m) (.slice (some ⟨g',0,none⟩) n cp')).trans (Zb (i:=i*7+5+1) (Zb (i:=i*7+5) d0 (.int .i64 p)) (.int .i64 q));have Bz:=ZiE B6 (show w.heap.size<=w.heap.size+1+1 by omega) (.int .i64 a) (.int .i64 b) (.int .i64 c) (.int .i64 m) (.slice (some ⟨g',0,none⟩) n cp');simp only[ZjW] at k0 k1 k2 k3 k4;refine bodyPost_ret (v:= .agg #[.int .i64 a,.int .i64 b,.int .i64 c,.int .i64 m,.slice (some ⟨g',0,none⟩) n cp']) ((Z07 rfl _ _ _).trans ?_) rfl ⟨g',cp',rfl,B7,by omega,⟨_,d7⟩,P5,Bz⟩
  simp[go_sem,k0,k1,k2,k3,k4]
end Go.Proofs.Tryq
namespace Go.Proofs.Tryq
open Go Go.Nk Go.RowKit
set_option linter.all false
set_option linter.all false
set_option linter.all false
set_option linter.all false
set_option linter.all false
set_option linter.all false
set_option linter.all false
set_option linter.all false
set_option linter.all false
theorem box3(w:World)(A B C:Obj):Ext w (((w.alloc A).alloc B).alloc C)/\(((w.alloc A).alloc B).alloc C).heap[w.heap.size]? =some A/\(((w.alloc A).alloc B).alloc C).heap[w.heap.size+1]? =some B/\(((w.alloc A).alloc B).alloc C).heap[w.heap.size+1+1]? =some C:=by
 refine⟨(((Ext.rfl' w).alloc A).alloc B).alloc C,?_,?_,?_⟩
 ·simp only[Z3,Z2];rw[if_neg (by omega),if_neg (by omega),if_pos trivial]
 ·simp only[Z3,Z2];rw[if_neg (by omega),if_pos trivial]
 ·simp only[Z3,Z2];rw[if_pos trivial]
end Go.Proofs.Tryq
namespace Go.Proofs.Tryq
set_option maxRecDepth 100000
set_option maxHeartbeats 8000000
open Go Go.Nk Go.RowKit
set_option linter.all false
@[go_sem] theorem fld0 (a b:Int) (w:World):(Instr.field 48 (.agg #[.int .i64 a,.int .i64 b]) 0).run prog w= .ok (.int .i64 a) w:=by
  have hp:=underlying_eq 48;have h48:=Tryz.underlying48;have a3:=Tryz.isAgg3;have z3:=Tryz.sizeOf3;simp[go_sem,Instr.field,fieldPlace,Program.fieldsOf,hp,h48];rfl
@[go_sem] theorem fld1 (a b:Int) (w:World):(Instr.field 48 (.agg #[.int .i64 a,.int .i64 b]) 1).run prog w= .ok (.int .i64 b) w:=by
  have hp:=underlying_eq 48;have h48:=Tryz.underlying48;have a3:=Tryz.isAgg3;have z3:=Tryz.sizeOf3;simp[go_sem,Instr.field,fieldPlace,Program.fieldsOf,hp,h48];rfl
theorem ZmH(a b c m:Int)(bs off n cap:Nat)(L:List Sf)(l:List Int)(bl:Option Addr)(k cl:Nat)(w:World)(D1:bs<w.heap.size)(A2:Hid (L.length=n))(Kl:n<=9)(U7:n<=cap)(hk:Hid (l.length=k))(Pq:k<=9)(Aj:Hid (∀i∈l,0<=i/\i<n))(hS:Hid (RawA w (some ⟨bs,off,none⟩) L))(hI:Hid (RawI w bl l)):
 Calls prog 36 #[.agg #[.int .i64 a,.int .i64 b,.int .i64 c,.int .i64 m,.slice (some ⟨bs,off,none⟩) n cap],.slice bl k cl] w fun e w'=>∃(g o cp:Nat)(LL:List Sf),e= .returned (.agg #[.int .i64 a,.int .i64 b,.int .i64 c,.int .i64 m,.slice (some ⟨g,o,none⟩) n cp])/\n<=cp/\RawA w' (some ⟨g,o,none⟩) LL/\Cl L LL l 3 0/\Ext w w':=by
 obtain⟨Bf,E2,Gu,Gw⟩:=box3 w (.cells #[.int .i64 a,.int .i64 b,.int .i64 c,.int .i64 m,.slice (some ⟨bs,off,none⟩) n cap] 26) (.cells #[.int .i64 0,.int .i64 0,.int .i64 0,.int .i64 0,.slice none 0 0] 26) (.cells #[.int .i64 a,.int .i64 b,.int .i64 c,.int .i64 m,.slice (some ⟨bs,off,none⟩) n cap] 26);have Cz:=hS.out.ext Bf;go_enter func36,ntmps36;go_wp2;generalize World.alloc _ _=w1 at Bf E2 Gu Gw Cz⊢;have M5:bs≠w.heap.size+1+1:=by omega
 have I6:bs≠w.heap.size+1:=by omega
 go_loopw [6] (fun v6 wr=>∃kw:Nat,kw<=3/\v6= .int .i64 kw/\Ext w wr/\wr.heap[w.heap.size]? =some (.cells #[.int .i64 a,.int .i64 b,.int .i64 c,.int .i64 m,.slice (some ⟨bs,off,none⟩) n cap] 26)/\wr.heap[w.heap.size+1]? =some (.cells #[.int .i64 0,.int .i64 0,.int .i64 0,.int .i64 0,.slice none 0 0] 26)/\∃(g o cp:Nat)(LL:List Sf),wr.heap[w.heap.size+1+1]? =some (.cells #[.int .i64 a,.int .i64 b,.int .i64 c,.int .i64 m,.slice (some ⟨g,o,none⟩) n cp] 26)/\g≠w.heap.size+1+1/\g≠w.heap.size+1/\n<=cp/\RawA wr (some ⟨g,o,none⟩) LL/\Hid (Cl L LL l kw 0)) (fun v6 _=>3 - (intOf v6).toNat)
 case atStart=>exact⟨0,by omega,rfl,Bf,E2,Gu,bs,off,cap,L,Gw,M5,I6,U7,Cz,Cl.start L l⟩
 case round=>
  clear Bf E2 Gu Gw Cz M5 I6;obtain⟨kw,hkw,rfl,hE,hr,H6,g,o,cp,LL,hb,Hl,Lo,F8,hR,hC⟩:=hrel;by_cases h3:kw=3
  ·subst h3;obtain⟨x0,x1,x2,x3,x4⟩:=Zgj hb;obtain⟨z0,z1,z2,z3,z4⟩:=Zgj H6;obtain⟨f0,f1,f2,f3,f4⟩:=ZiJ H6;go_wp2;obtain⟨k0,k1,k2,k3,k4⟩:=Zgj (ZiD H6 (.int .i64 a) (.int .i64 b) (.int .i64 c) (.int .i64 m) (.slice (some ⟨g,o,none⟩) n cp));have P5:=ZkJ hR (ZiG wr (b:=w.heap.size+1) Lo (.int .i64 a) (.int .i64 b) (.int .i64 c) (.int .i64 m) (.slice (some ⟨g,o,none⟩) n cp));simp only[ZjW] at k0 k1 k2 k3 k4;refine bodyPost_ret (v:= .agg #[.int .i64 a,.int .i64 b,.int .i64 c,.int .i64 m,.slice (some ⟨g,o,none⟩) n cp]) ((Z07 rfl _ _ _).trans ?_) rfl ⟨g,o,cp,LL,rfl,F8,P5,hC.out,ZiE hE (show w.heap.size<=w.heap.size+1 by omega) _ _ _ _ _⟩;simp[go_sem,k0,k1,k2,k3,k4]
  ·have hkw2:(kw:Int)<=2:=by omega
   go_wp2;obtain⟨wo,rfl⟩:∃wo:World,wo=wr:=⟨_,rfl⟩;go_loopw [7,8] (fun v7 v8 wr=>∃(j:Nat)(tp:Int),j<=k/\v7= .int .i64 tp/\Hid (tp=ZmK L kw (l.take j))/\v8= .int .i64 j/\Ext w wr/\wr.heap[w.heap.size]? =some (.cells #[.int .i64 a,.int .i64 b,.int .i64 c,.int .i64 m,.slice (some ⟨bs,off,none⟩) n cap] 26)/\wr.heap[w.heap.size+1]? =some (.cells #[.int .i64 0,.int .i64 0,.int .i64 0,.int .i64 0,.slice none 0 0] 26)/\∃(g o cp:Nat)(LL:List Sf),wr.heap[w.heap.size+1+1]? =some (.cells #[.int .i64 a,.int .i64 b,.int .i64 c,.int .i64 m,.slice (some ⟨g,o,none⟩) n cp] 26)/\g≠w.heap.size+1+1/\g≠w.heap.size+1/\n<=cp/\RawA wr (some ⟨g,o,none⟩) LL/\Hid (Cl L LL l kw 0)) (fun _ v8 _=>k - (intOf v8).toNat)
   case atStart=>exact⟨0,0,by omega,rfl,rfl,rfl,hE,hr,H6,g,o,cp,LL,hb,Hl,Lo,F8,hR,hC⟩
   case round=>
    clear hE hr H6 hb Hl Lo F8 hR hC;obtain⟨j,tp,hj,rfl,htp,rfl,hE,hr,H6,g,o,cp,LL,hb,Hl,Lo,F8,hR,hC⟩:=hrel;by_cases E4:j=k
    ·have htpe:Hid (tp=ZmK L kw l):=(by show _=_;rw[htp.out,E4,<-hk.out,List.take_length]);subst E4;clear htp;go_wp2;obtain⟨wp,rfl⟩:∃wo:World,wo=wr:=⟨_,rfl⟩;go_loopw [9] (fun v9 wr=>∃j2:Nat,j2<=j/\v9= .int .i64 j2/\Ext w wr/\wr.heap[w.heap.size]? =some (.cells #[.int .i64 a,.int .i64 b,.int .i64 c,.int .i64 m,.slice (some ⟨bs,off,none⟩) n cap] 26)/\wr.heap[w.heap.size+1]? =some (.cells #[.int .i64 0,.int .i64 0,.int .i64 0,.int .i64 0,.slice none 0 0] 26)/\∃(g o cp:Nat)(LL:List Sf),wr.heap[w.heap.size+1+1]? =some (.cells #[.int .i64 a,.int .i64 b,.int .i64 c,.int .i64 m,.slice (some ⟨g,o,none⟩) n cp] 26)/\g≠w.heap.size+1+1/\g≠w.heap.size+1/\n<=cp/\RawA wr (some ⟨g,o,none⟩) LL/\Hid (Cl L LL l kw j2)) (fun v9 _=>j - (intOf v9).toNat)
     case atStart=>exact⟨0,by omega,rfl,hE,hr,H6,g,o,cp,LL,hb,Hl,Lo,F8,hR,hC⟩
     case round=>
      obtain⟨k,Uv⟩:∃z,z=j:=⟨_,rfl⟩;subst Uv;clear hE hr H6 hb Hl Lo F8 hR hC;obtain⟨j,hj,rfl,hE,hr,H6,g,o,cp,LL,hb,Hl,Lo,F8,hR,hC⟩:=hrel;by_cases E4:j=k
      ·subst E4;have HN:Hid (Cl L LL l (kw+1) 0):=hC.out.next (by have:=hk.out;omega);clear hC;go_wp2;exact⟨⟨kw+1,by omega,by push_cast;rfl,hE,hr,H6,g,o,cp,LL,hb,Hl,Lo,F8,hR,HN⟩,by simp[intOf];omega⟩
      ·have Gx:(j:Int)<(k:Int):=(by omega);obtain⟨z,hz⟩:∃z,l[j]? =some z:=⟨_,List.getElem?_eq_getElem (by have:=hk.out;omega)⟩;have Gu:=Aj.out z (List.mem_of_getElem? hz);obtain⟨i,rfl⟩:=Int.eq_ofNat_of_zero_le Gu.1;obtain⟨x,hx⟩:∃x,L[i]? =some x:=⟨_,List.getElem?_eq_getElem (by have:=A2.out;omega)⟩;obtain⟨bi,oi,rfl,_,Hh⟩:=(hI.out.ext hE) j _ hz;obtain⟨b2,o2,e2,_,sx,_⟩:=(hS.out.ext hE) i x hx;obtain⟨rfl,rfl⟩:bs=b2/\off=o2:=(by simpa using e2);have hzj:Hid (l[j]? =some (i:Int)):=hz;have Hi:Hid (L[i]? =some x):=hx;have Ea:(i:Int)<(n:Int):=(by omega);have El:=fun W=>Z31 x kw (by omega) W
       simp only[sfC] at El;obtain⟨P1,Lp⟩:∃z,z=(spA x kw).1:=⟨_,rfl⟩;obtain⟨P2,H1⟩:∃z,z=(spA x kw).2:=⟨_,rfl⟩;rw[<-Lp,<-H1] at El;have U8:Hid (P1=(spA x kw).1):=Lp;have U9:Hid (P2=(spA x kw).2):=H1;have x0:=sx.1;have x1:=sx.2;have x2:=sx.3;have x3:=sx.4;have x4:=sx.5;have x5:=sx.6;have x6:=sx.7;clear hz hx e2 sx Lp H1 Gu;obtain⟨q0,q1,q2,q3,q4⟩:=Zgj hr;have gi:=Zet Hh;have g4:=Zet q4;have gx0:=Zet x0;have gx1:=Zet x1;have gx2:=Zet x2;have gx3:=Zet x3;have gx4:=Zet x4;have gx5:=Zet x5;have gx6:=Zet x6;go_wp2;refine ZeG 14 (by kernel_rfl) ?_;refine Zin [0,1,2,3,4,5,6,7,8,9] (by kernel_rfl) (by kernel_rfl) ?_;simp only[ZeD,List.getElem?_cons_succ,List.getElem?_cons_zero,List.cons_append,List.nil_append]
       repeat (go_big_quiet_step (fail))
       refine wpQuiet_nil ?_;refine Zib 10 (f:=33) (args:= #[.agg #[.string x.nm,.int .i64 x.a0,.int .i64 x.a1,.int .i64 x.b0,.int .i64 x.b1,.int .i64 x.c0,.int .i64 x.c1],.int .i64 kw]) (v:= .agg #[.int .i64 P1,.int .i64 P2]) (by kernel_rfl) rfl (by kernel_rfl) rfl (fun W=>by simp[go_sem,execOp,Act.eval]) (fun W _=>El W) ?_;go_simp;refine Zl5 11 (v:= .int .i64 P2) (by kernel_rfl) rfl (by kernel_rfl) rfl (fun W=>by simp[go_sem,execOp,Act.eval]) ?_;go_simp;refine Zin [12,13] (by kernel_rfl) (by kernel_rfl) ?_;simp only[ZeD,List.getElem?_cons_succ,List.getElem?_cons_zero,List.cons_append,List.nil_append]
       repeat (go_big_quiet_step (fail))
       refine wpQuiet_nil ?_;refine Zf6 (by kernel_rfl) (fun W hW=> ?_);have A7:=hE.trans hW;have Cj:=hW.get hr;have Ic:=hW.get H6;have Ak:=hW.get hb;have Lq:=hR.ext hW;have Ua:=hW.cellS Hh;clear Hh q0 q1 q2 q3 q4 x0 x1 x2 x3 x4 x5 x6 gi g4 gx0 gx1 gx2 gx3 gx4 gx5 gx6 El;clear hE hr H6 hb hR hW;obtain⟨nn,Qh⟩:∃z,z=(if P2<tp then P2 else tp):=⟨_,rfl⟩;rw[<-Qh];have hnne:Hid (nn=min (ZmK L kw l) (spA x kw).2):=(by show _=_;rw[Qh,<-htpe.out,<-U9.out];split<;>omega);clear Qh;go_wp2;obtain⟨k0,k1,k2,k3,k4⟩:=Zgj Ak;have gk0:=Zet k0;have gk1:=Zet k1;have gk2:=Zet k2;have gk3:=Zet k3;have gk4:=Zet k4;have gi:=Zet Ua;have Ub:=fun W2 (hW2:Ext W W2)=>Zlf a b c m nn nn (some ⟨g,o,none⟩) n cp i kw LL W2 (hC.out.1.trans A2.out) (by omega) (by omega) (by omega) (Lq.ext hW2)
       refine ZeG 10 (by kernel_rfl) ?_;refine ZeB [0,1,2,3,4,5,6,7] (by kernel_rfl) (by kernel_rfl) ?_;simp only[ZeD,List.getElem?_cons_succ,List.getElem?_cons_zero,List.cons_append,List.nil_append]
       repeat (go_big_quiet_step (fail))
       refine wpQuiet_nil ?_;refine ZeX 8 (f:=34) (args:= #[.int .i64 nn,.int .i64 nn]) (v:= .agg #[.int .i64 nn,.int .i64 nn]) (by kernel_rfl) rfl (by kernel_rfl) rfl (fun W=>by simp[go_sem,execOp,Act.eval]) (fun W _=>Z3P nn nn W) ?_;go_simp;refine Zfa 9 rfl (by kernel_rfl) rfl (fun W3 Ks=>Zfo (f:=35) (args:= #[.agg #[.int .i64 a,.int .i64 b,.int .i64 c,.int .i64 m,.slice (some ⟨g,o,none⟩) n cp],.int .i64 i,.int .i64 kw,.agg #[.int .i64 nn,.int .i64 nn]]) (by simp[go_sem,execOp,Act.eval]) ?_);refine(Ub W3 Ks).mono ?_;rintro e W2 ⟨g2,cp2,rfl,Uc,Ee,⟨cur,Fs⟩,hR3,Gd⟩;refine⟨.agg #[.int .i64 a,.int .i64 b,.int .i64 c,.int .i64 m,.slice (some ⟨g2,0,none⟩) n cp2],rfl,Gd,?_⟩;have J5:=Ks.trans Gd;clear Gd Ks Ee;clear W3;go_simp;clear Ub k0 k1 k2 k3 k4;refine Zfp 1 (by kernel_rfl) (fun W4 hW=> ?_);simp only[List.drop_succ_cons,List.drop_zero];have hF:=J5.trans hW;have D7:=hW.get Fs;have P4:=hR3.ext hW;have D3:=hF.get Ak;have hz4:=hF.get Ic;have I9:=hF.get Cj;have An:=A7.trans hF
       have Ag:g2≠w.heap.size+1+1:=fun e=>by
        rw[e] at D7;rw[D3] at D7;injection D7 with D7;injection D7 with h1 h2 h3;exact absurd h2 (by decide)
       have hgz2:g2≠w.heap.size+1:=fun e=>by
        rw[e] at D7;rw[hz4] at D7;injection D7 with D7;injection D7 with h1 h2 h3;exact absurd h2 (by decide)
       obtain⟨k0,k1,k2,k3,k4⟩:=Zgj D3;obtain⟨f0,f1,f2,f3,f4⟩:=ZiJ D3;have hEZ:=ZiE An (show w.heap.size<=w.heap.size+1+1 by omega) (.int .i64 a) (.int .i64 b) (.int .i64 c) (.int .i64 m) (.slice (some ⟨g2,0,none⟩) n cp2);have hbZ:=ZiD D3 (.int .i64 a) (.int .i64 b) (.int .i64 c) (.int .i64 m) (.slice (some ⟨g2,0,none⟩) n cp2);have hrZ:=(ZiG W4 (b:=w.heap.size+1+1) (show w.heap.size≠w.heap.size+1+1 by omega) (.int .i64 a) (.int .i64 b) (.int .i64 c) (.int .i64 m) (.slice (some ⟨g2,0,none⟩) n cp2)).trans I9;have hzZ:=(ZiG W4 (b:=w.heap.size+1+1) (show w.heap.size+1≠w.heap.size+1+1 by omega) (.int .i64 a) (.int .i64 b) (.int .i64 c) (.int .i64 m) (.slice (some ⟨g2,0,none⟩) n cp2)).trans hz4;have hRZ:=ZkJ P4 (ZiG W4 (b:=w.heap.size+1+1) Ag (.int .i64 a) (.int .i64 b) (.int .i64 c) (.int .i64 m) (.slice (some ⟨g2,0,none⟩) n cp2));have HN:Hid (Cl L (Zla LL i kw (nn,nn)) l kw (j+1)):=(by have:=hC.out.step (show kw<3 by omega) hzj.out Hi.out;rw[<-hnne.out] at this;exact this);unfold ZjW at hEZ hbZ hrZ hzZ hRZ;clear hF D7 P4 D3 hz4 I9 An hW J5 hR3 Fs A7 Cj Ic Ak Ua gk0 gk1 gk2 gk3 gk4 gi Lq;go_wp2_with fail;refine Zfm ?_;go_wp2_with fail;exact⟨⟨j+1,by omega,by push_cast;rfl,hEZ,hrZ,hzZ,g2,0,cp2,_,hbZ,Ag,hgz2,Uc,hRZ,HN⟩,by simp[intOf];omega⟩
    ·have Gx:(j:Int)<(k:Int):=(by omega);obtain⟨z,hz⟩:∃z,l[j]? =some z:=⟨_,List.getElem?_eq_getElem (by have:=hk.out;omega)⟩;have Gu:=Aj.out z (List.mem_of_getElem? hz);obtain⟨i,rfl⟩:=Int.eq_ofNat_of_zero_le Gu.1;obtain⟨x,hx⟩:∃x,L[i]? =some x:=⟨_,List.getElem?_eq_getElem (by have:=A2.out;omega)⟩;obtain⟨bi,oi,rfl,_,Hh⟩:=(hI.out.ext hE) j _ hz;obtain⟨b2,o2,e2,_,sx,_⟩:=(hS.out.ext hE) i x hx;obtain⟨rfl,rfl⟩:bs=b2/\off=o2:=(by simpa using e2);have hzj:Hid (l[j]? =some (i:Int)):=hz;have Hi:Hid (L[i]? =some x):=hx;have Ea:(i:Int)<(n:Int):=(by omega);have El:=fun W=>Z31 x kw (by omega) W
     simp only[sfC] at El;obtain⟨P1,Lp⟩:∃z,z=(spA x kw).1:=⟨_,rfl⟩;obtain⟨P2,H1⟩:∃z,z=(spA x kw).2:=⟨_,rfl⟩;rw[<-Lp,<-H1] at El;have U8:Hid (P1=(spA x kw).1):=Lp;have U9:Hid (P2=(spA x kw).2):=H1;have x0:=sx.1;have x1:=sx.2;have x2:=sx.3;have x3:=sx.4;have x4:=sx.5;have x5:=sx.6;have x6:=sx.7;clear hz hx e2 sx Lp H1 Gu;obtain⟨q0,q1,q2,q3,q4⟩:=Zgj hr;have gi:=Zet Hh;have g4:=Zet q4;have gx0:=Zet x0;have gx1:=Zet x1;have gx2:=Zet x2;have gx3:=Zet x3;have gx4:=Zet x4;have gx5:=Zet x5;have gx6:=Zet x6;go_wp2;refine ZeG 14 (by kernel_rfl) ?_;refine Zin [0,1,2,3,4,5,6,7,8,9] (by kernel_rfl) (by kernel_rfl) ?_;simp only[ZeD,List.getElem?_cons_succ,List.getElem?_cons_zero,List.cons_append,List.nil_append]
     repeat (go_big_quiet_step (fail))
     refine wpQuiet_nil ?_;refine Zib 10 (f:=33) (args:= #[.agg #[.string x.nm,.int .i64 x.a0,.int .i64 x.a1,.int .i64 x.b0,.int .i64 x.b1,.int .i64 x.c0,.int .i64 x.c1],.int .i64 kw]) (v:= .agg #[.int .i64 P1,.int .i64 P2]) (by kernel_rfl) rfl (by kernel_rfl) rfl (fun W=>by simp[go_sem,execOp,Act.eval]) (fun W _=>El W) ?_;go_simp;refine Zl5 11 (v:= .int .i64 P1) (by kernel_rfl) rfl (by kernel_rfl) rfl (fun W=>by simp[go_sem,execOp,Act.eval]) ?_;go_simp;refine Zin [12,13] (by kernel_rfl) (by kernel_rfl) ?_;simp only[ZeD,List.getElem?_cons_succ,List.getElem?_cons_zero,List.cons_append,List.nil_append]
     repeat (go_big_quiet_step (fail))
     refine wpQuiet_nil ?_;refine Zf6 (by kernel_rfl) (fun W hW=> ?_);have A7:=hE.trans hW;have Cj:=hW.get hr;have Ic:=hW.get H6;have Ak:=hW.get hb;have Lq:=hR.ext hW;have HN:Hid ((if tp<P1 then P1 else tp)=ZmK L kw (l.take (j+1))):=(by show _=_;rw[Z0G hzj.out,ZmM (by rw[Int.toNat_natCast];exact Hi.out),<-htp.out,<-U8.out];split<;>omega);clear Hh q0 q1 q2 q3 q4 x0 x1 x2 x3 x4 x5 x6 gi g4 gx0 gx1 gx2 gx3 gx4 gx5 gx6 El;clear hE hr H6 hb hR hW;go_wp2;exact⟨⟨j+1,_,by omega,rfl,HN,by push_cast;rfl,A7,Cj,Ic,g,o,cp,LL,Ak,Hl,Lo,F8,Lq,hC⟩,by simp[intOf];omega⟩
set_option linter.all false
def Zm4(x:Sf)(k:Nat)(pk:List Int)(i:Nat):Int:=(spA x k).1+Zgu pk (3*i+k) % ((spA x k).2 - (spA x k).1+1)
def ZlZ(L:List Sf)(pk:List Int)(i k:Nat):Int:=match L[i]? with
 |some x=>Zm4 x k pk i
 |none=>0
theorem Zm8{x:Sf}{k:Nat}(h:0<=(spA x k).1/\(spA x k).1<=(spA x k).2/\(spA x k).2<=9999)(pk:List Int)(i:Nat):(spA x k).1<=Zm4 x k pk i/\Zm4 x k pk i<=(spA x k).2:=by
 have h3:(spA x k).2 - (spA x k).1+1≠0:=by omega
 have h5:=Int.emod_nonneg (Zgu pk (3*i+k)) h3;have h6:=Int.emod_lt_of_pos (Zgu pk (3*i+k)) (show 0<(spA x k).2 - (spA x k).1+1 by omega);unfold Zm4;generalize Zgu pk (3*i+k) % ((spA x k).2 - (spA x k).1+1)=y at h5 h6⊢;omega
theorem Zm9{a b c m:Int}{L:List Sf}(hs:StockOk a b c m L)(pk:List Int):InM L (ZlZ L pk)/\∀i k,0<=ZlZ L pk i k/\ZlZ L pk i k<=9999:=by
 refine⟨fun i x hx k _=> ?_,fun i k=> ?_⟩
 ·rw[ZlZ,hx];exact Zm8 (hs.ok x (List.mem_of_getElem? hx) k) pk i
 ·unfold ZlZ;split
  ·rename_i x hx;have h1:=hs.ok x (List.mem_of_getElem? hx) k;have h2:=Zm8 h1 pk i;omega
  ·omega
theorem Zma(a b c m:Int)(bs off n cap:Nat)(x:Sf)(i k:Nat)(pb:Option Addr)(pn pc:Nat)(pk:List Int)(w:World)(D1:bs<w.heap.size)(hi:i<n)(hn:n<=20)(hk:k<3)(sx:ShaftAt w bs (off+i*7) x)(hx:0<=(spA x k).1/\(spA x k).1<=(spA x k).2/\(spA x k).2<=9999)
 (A2:pk.length=pn)(hu:∀x∈pk,0<=x/\x<65536)(hl:RawU w pb pk):
 Calls prog 76 #[.agg #[.int .i64 a,.int .i64 b,.int .i64 c,.int .i64 m,.slice (some ⟨bs,off,none⟩) n cap],.int .i64 i,.int .i64 k,.slice pb pn pc] w fun e w'=>e= .returned (.int .i64 (Zm4 x k pk i))/\Ext w w':=by
 have El:=fun w=>Z31 x k hk w
 have Pa:=fun W (hW:Ext w W)=>Zgl pb pn pc pk (3*i+k) W A2 (by omega) hu (hl.ext hW)
 have Hh:=Zgp (m:=65535) (by omega) (fun x hx=>by have:=hu x hx;omega:∀x∈pk,0<=x/\x<=65535) (3*i+k);have H:Hid (Zm4 x k pk i=(spA x k).1+Zgu pk (3*i+k) % ((spA x k).2 - (spA x k).1+1)):=rfl;simp only[sfC] at El;generalize Zm4 x k pk i=R at H⊢;generalize spA x k=P at El hx H;obtain⟨P1,P2⟩:=P;dsimp only at El hx H;have Le:=fun W=>Zgq P1 P2 (Zgu pk (3*i+k)) W hx.2.1 (by omega) (by omega) (by omega)
 rw[<-H.out] at Le;clear H;have h1:wrap64 (3*(i:Int))=3*(i:Int):=Z6a _ (by omega);have h2:wrap64 (3*(i:Int)+(k:Int))=((3*i+k:Nat):Int):=by rw[Z6a (3*(i:Int)+(k:Int)) (by omega)];push_cast;rfl
 generalize Zgu pk (3*i+k)=ch at Pa Le;have Ea:(i:Int)<(n:Int):=by omega
 clear hu hl A2 Hh;have Ao:=(Ext.rfl' w).alloc (.cells #[.int .i64 a,.int .i64 b,.int .i64 c,.int .i64 m,.slice (some ⟨bs,off,none⟩) n cap] 26);have hr:(w.alloc (.cells #[.int .i64 a,.int .i64 b,.int .i64 c,.int .i64 m,.slice (some ⟨bs,off,none⟩) n cap] 26)).heap[w.heap.size]? =some (.cells #[.int .i64 a,.int .i64 b,.int .i64 c,.int .i64 m,.slice (some ⟨bs,off,none⟩) n cap] 26):=(Z3 _ _ _).trans (if_pos rfl);have Cj:=hr;obtain⟨q0,q1,q2,q3,q4⟩:=Zgj Cj;have x0:=Ao.cellS sx.1;have x1:=Ao.cellS sx.2;have x2:=Ao.cellS sx.3;have x3:=Ao.cellS sx.4;have x4:=Ao.cellS sx.5;have x5:=Ao.cellS sx.6;have x6:=Ao.cellS sx.7;clear Cj sx hr;go_enter func76,ntmps76
 go_wp2_with (first
  |(go_at_call 33;refine(El _).mono ?_;rintro e w2 ⟨rfl,A7⟩
    have As:=Ao.trans A7)
  |(go_at_call 48;refine(Pa _ As).mono ?_;rintro e w3 ⟨rfl,An⟩
    have B6:=As.trans An)
  |(go_at_call 47;refine(Le _).mono ?_;rintro e w4 ⟨rfl,Bz⟩
    have G7:=B6.trans Bz))
 go_ret;exact⟨rfl,G7⟩
def MtdT(a b c:Int)(R:Nat->Nat->Int)(l:List Int)(kw i j:Nat):Prop:=∀(k i' j':Nat)(x y:Int),(k<kw\/(k=kw/\(i'<i\/(i'=i/\j'<j))))->l[i']? =some x->l[j']? =some y->R x.toNat k - R y.toNat k<=alw a b c k
section
variable {a b c:Int} {R:Nat->Nat->Int} {l:List Int} {kw i j:Nat}
theorem MtdT.start:MtdT a b c R l 0 0 0:=fun k i' j' x y h=>(by omega)
theorem MtdT.step(h:MtdT a b c R l kw i j){x y:Nat}(hx:l[i]? =some (x:Int))(hy:l[j]? =some (y:Int))(hd:R x kw - R y kw<=alw a b c kw):MtdT a b c R l kw i (j+1):=by
 intro k i' j' x' y' ho hx' hy';by_cases e:k=kw/\i'=i/\j'=j
 ·obtain⟨rfl,rfl,rfl⟩:=e;rw[hx] at hx';rw[hy] at hy';cases hx';cases hy';exact hd
 ·exact h k i' j' x' y' (by omega) hx' hy'
theorem MtdT.row(h:MtdT a b c R l kw i j)(hj:l.length<=j):MtdT a b c R l kw (i+1) 0:=by
 intro k i' j' x' y' ho hx' hy';have:=(List.getElem?_eq_some_iff.1 hy').1;exact h k i' j' x' y' (by omega) hx' hy'
theorem MtdT.next(h:MtdT a b c R l kw i 0)(hi:l.length<=i):MtdT a b c R l (kw+1) 0 0:=by
 intro k i' j' x' y' ho hx' hy';have:=(List.getElem?_eq_some_iff.1 hx').1;exact h k i' j' x' y' (by omega) hx' hy'
theorem MtdT.done(h:MtdT a b c R l 3 0 0):Mtd a b c R l:=by
 intro k hk x hx y hy;obtain⟨i',hi⟩:=List.mem_iff_getElem?.1 hx;obtain⟨j',hj⟩:=List.mem_iff_getElem?.1 hy;exact h k i' j' x y (by omega) hi hj
end
theorem Zm5(a b c m:Int)(base:Option Addr)(n cap:Nat)(l:List Int)(bl:Option Addr)(k cl:Nat)(pb:Option Addr)(pn pc:Nat)(R:Nat->Nat->Int)(mb:Bool)(w:World)(hk:Hid (l.length=k))(B1:k<=100)(Aj:Hid (∀x∈l,0<=x/\x<n))(Mz:Hid (mb=true↔Mtd a b c R l))(hRb:Hid (∀i k,0<=R i k/\R i k<=9999))(hI:Hid (RawI w bl l))
 (N6:∀W (i k:Nat),Ext w W->i<n->k<3->Calls prog 76 #[.agg #[.int .i64 a,.int .i64 b,.int .i64 c,.int .i64 m,.slice base n cap],.int .i64 i,.int .i64 k,.slice pb pn pc] W fun e w'=>e= .returned (.int .i64 (R i k))/\Ext W w'):
 Calls prog 32 #[.agg #[.int .i64 a,.int .i64 b,.int .i64 c,.int .i64 m,.slice base n cap],.slice bl k cl,.slice pb pn pc] w fun e w'=>e= .returned (.bool mb)/\Ext w w':=by
 have Ao:=(Ext.rfl' w).alloc (.cells #[.int .i64 a,.int .i64 b,.int .i64 c,.int .i64 m,.slice base n cap] 26);have hr:(w.alloc (.cells #[.int .i64 a,.int .i64 b,.int .i64 c,.int .i64 m,.slice base n cap] 26)).heap[w.heap.size]? =some (.cells #[.int .i64 a,.int .i64 b,.int .i64 c,.int .i64 m,.slice base n cap] 26):=(Z3 _ _ _).trans (if_pos rfl);go_enter func32,ntmps32;go_wp2;generalize World.alloc _ _=w1 at Ao hr⊢;go_loopw [7] (fun v7 wr=>∃kw:Nat,kw<=3/\v7= .int .i64 kw/\Ext w wr/\wr.heap[w.heap.size]? =some (.cells #[.int .i64 a,.int .i64 b,.int .i64 c,.int .i64 m,.slice base n cap] 26)/\Hid (MtdT a b c R l kw 0 0)) (fun v7 _=>3 - (intOf v7).toNat)
 case atStart=>exact⟨0,by omega,rfl,Ao,hr,MtdT.start⟩
 case round=>
  clear Ao hr;obtain⟨kw,hkw,rfl,hE,hr,HT⟩:=hrel;by_cases h3:kw=3
  ·subst h3;have hm:mb=true:=Mz.out.2 HT.out.done;subst hm;clear HT;go_wp2;go_ret;exact⟨rfl,hE⟩
  ·have hkw2:(kw:Int)<=2:=by omega
   go_wp2;obtain⟨wo,rfl⟩:∃wo:World,wo=wr:=⟨_,rfl⟩;go_loopw [8] (fun v8 wr=>∃i:Nat,i<=k/\v8= .int .i64 i/\Ext w wr/\wr.heap[w.heap.size]? =some (.cells #[.int .i64 a,.int .i64 b,.int .i64 c,.int .i64 m,.slice base n cap] 26)/\Hid (MtdT a b c R l kw i 0)) (fun v8 _=>k - (intOf v8).toNat)
   case atStart=>exact⟨0,by omega,rfl,hE,hr,HT⟩
   case round=>
    clear hE hr HT;obtain⟨i,hi,rfl,hE,hr,HT⟩:=hrel;by_cases X6:i=k
    ·subst X6;have HN:Hid (MtdT a b c R l (kw+1) 0 0):=HT.out.next (by have:=hk.out;omega);clear HT;go_wp2;exact⟨⟨kw+1,by omega,by push_cast;rfl,hE,hr,HN⟩,by simp[intOf];omega⟩
    ·have hil:(i:Int)<(k:Int):=(by omega);go_wp2;obtain⟨wp,rfl⟩:∃wp:World,wp=wr:=⟨_,rfl⟩;go_loopw [9] (fun v9 wr=>∃j:Nat,j<=k/\v9= .int .i64 j/\Ext w wr/\wr.heap[w.heap.size]? =some (.cells #[.int .i64 a,.int .i64 b,.int .i64 c,.int .i64 m,.slice base n cap] 26)/\Hid (MtdT a b c R l kw i j)) (fun v9 _=>k - (intOf v9).toNat)
     case atStart=>exact⟨0,by omega,rfl,hE,hr,HT⟩
     case round=>
      clear hE hr HT;obtain⟨j,hj,rfl,hE,hr,HT⟩:=hrel;by_cases E4:j=k
      ·subst E4;have HN:Hid (MtdT a b c R l kw (i+1) 0):=HT.out.row (by have:=hk.out;omega);clear HT;go_wp2;exact⟨⟨i+1,by omega,by push_cast;rfl,hE,hr,HN⟩,by simp[intOf];omega⟩
      ·have Gx:(j:Int)<(k:Int):=(by omega);obtain⟨x,Lr⟩:∃x,l[i]? =some x:=⟨_,List.getElem?_eq_getElem (by have:=hk.out;omega)⟩;obtain⟨y,Ls⟩:∃y,l[j]? =some y:=⟨_,List.getElem?_eq_getElem (by have:=hk.out;omega)⟩;have B8:=Aj.out x (List.mem_of_getElem? Lr);have Ba:=Aj.out y (List.mem_of_getElem? Ls);obtain⟨xn,rfl⟩:=Int.eq_ofNat_of_zero_le B8.1;obtain⟨yn,rfl⟩:=Int.eq_ofNat_of_zero_le Ba.1;obtain⟨bb,ob,rfl,B0,Ud⟩:=hI.out i _ Lr;obtain⟨b2,o2,e2,Ak,Ue⟩:=hI.out j _ Ls;obtain⟨rfl,rfl⟩:bb=b2/\ob=o2:=(by simpa using e2);have hcx:=hE.cellS Ud;have hcy:=hE.cellS Ue;have Hi:Hid (l[i]? =some (xn:Int)):=Lr;have hyj:Hid (l[j]? =some (yn:Int)):=Ls;clear Lr Ls Ud Ue e2 B0 Ak;have hrx:=fun W (hW:Ext wr W)=>N6 W xn kw (hE.trans hW) (by omega) (by omega)
       have hry:=fun W (hW:Ext wr W)=>N6 W yn kw (hE.trans hW) (by omega) (by omega)
       have hax:=fun W=>Z6Z a b c m kw (by omega) W
       have Fw:=hRb.out xn kw;have Ht:=hRb.out yn kw;obtain⟨rx,P6⟩:∃z,z=R xn kw:=⟨_,rfl⟩;obtain⟨ry,P7⟩:∃z,z=R yn kw:=⟨_,rfl⟩;obtain⟨ax,P8⟩:∃z,z=alw a b c kw:=⟨_,rfl⟩;rw[<-P6] at hrx Fw;rw[<-P7] at hry Ht;rw[<-P8] at hax;have Lt:Hid (rx=R xn kw):=P6;have Lu:Hid (ry=R yn kw):=P7;have Lv:Hid (ax=alw a b c kw):=P8;clear P6 P7 P8 B8 Ba;have Uj:wrap64 (rx - ry)=rx - ry:=Z6a _ (by omega);obtain⟨q0,q1,q2,q3,q4⟩:=Zgj hr;have g0:=Zet q0;have g1:=Zet q1;have g2:=Zet q2;have g3:=Zet q3;have g4:=Zet q4;have gx:=Zet hcx;have gy:=Zet hcy;go_wp2;refine ZeG 22 (by kernel_rfl) ?_;refine ZeB [0,1,2,3,4,5,6,8,9,10,11,12,13,14,17,18,19] (by kernel_rfl) (by kernel_rfl) ?_;simp only[ZeD,List.getElem?_cons_succ,List.getElem?_cons_zero,List.cons_append,List.nil_append]
       repeat (go_big_quiet_step (fail))
       refine wpQuiet_nil ?_;refine ZeX 7 (f:=76) (args:= #[.agg #[.int .i64 a,.int .i64 b,.int .i64 c,.int .i64 m,.slice base n cap],.int .i64 xn,.int .i64 kw,.slice pb pn pc]) (v:= .int .i64 rx) (by kernel_rfl) rfl (by kernel_rfl) rfl (fun W=>by simp[go_sem,execOp,Act.eval]) (hrx) ?_;go_simp;refine ZeX 15 (f:=76) (args:= #[.agg #[.int .i64 a,.int .i64 b,.int .i64 c,.int .i64 m,.slice base n cap],.int .i64 yn,.int .i64 kw,.slice pb pn pc]) (v:= .int .i64 ry) (by kernel_rfl) rfl (by kernel_rfl) rfl (fun W=>by simp[go_sem,execOp,Act.eval]) (hry) ?_;go_simp;refine ZeB [16] (by kernel_rfl) (by kernel_rfl) ?_;simp only[ZeD,List.getElem?_cons_succ,List.getElem?_cons_zero,List.cons_append,List.nil_append]
       repeat (go_big_quiet_step (fail))
       refine wpQuiet_nil ?_;refine ZeX 20 (f:=99) (args:= #[.agg #[.int .i64 a,.int .i64 b,.int .i64 c,.int .i64 m],.int .i64 kw]) (v:= .int .i64 ax) (by kernel_rfl) rfl (by kernel_rfl) rfl (fun W=>by simp[go_sem,execOp,Act.eval]) (fun W _=>hax W) ?_;go_simp;refine ZeB [21] (by kernel_rfl) (by kernel_rfl) ?_;simp only[ZeD,List.getElem?_cons_succ,List.getElem?_cons_zero,List.cons_append,List.nil_append]
       repeat (go_big_quiet_step (fail))
       refine wpQuiet_nil ?_;refine Zf6 (by kernel_rfl) (fun W hW=> ?_);have A7:=hE.trans hW;replace hr:=hW.get hr;clear q0 q1 q2 q3 q4 g0 g1 g2 g3 g4 gx gy hcx hcy hrx hry hax hW hE;by_cases hd:rx - ry<=ax
       ·have hd2:¬ax<rx - ry:=(by omega);have HN:Hid (MtdT a b c R l kw i (j+1)):=HT.out.step Hi.out hyj.out (by rw[<-Lt.out,<-Lu.out,<-Lv.out];exact hd);clear HT Lt Lu Lv;go_wp2;exact⟨⟨j+1,by omega,by push_cast;rfl,A7,hr,HN⟩,by simp[intOf];omega⟩
       ·have hd2:ax<rx - ry:=(by omega);have hm:mb=false:=by
         cases e:mb with
         |false=>rfl
         |true=>
          have h3:=(Mz.out.1 e) kw (by omega) xn (List.mem_of_getElem? Hi.out) yn (List.mem_of_getElem? hyj.out);rw[Int.toNat_natCast,Int.toNat_natCast,<-Lt.out,<-Lu.out,<-Lv.out] at h3;omega
        subst hm;clear HT Lt Lu Lv;go_wp2;go_ret;exact⟨rfl,A7⟩
theorem Zm6(a b c m:Int)(base:Option Addr)(n cap:Nat)(L:List Sf)(l:List Int)(bl:Option Addr)(k cl:Nat)(pb:Option Addr)(pn pc:Nat)(pk:List Int)(mb:Bool)(w:World)(hs:Zp a b c m L=0)(hL:L.length=n)(hS:RawA w base L)(hk:l.length=k)(B1:k<=100)(Aj:∀x∈l,0<=x/\x<n)(Mz:mb=true↔Mtd a b c (ZlZ L pk) l)(hI:RawI w bl l)
 (A2:pk.length=pn)(hu:∀x∈pk,0<=x/\x<65536)(hl:RawU w pb pk):
 Calls prog 32 #[.agg #[.int .i64 a,.int .i64 b,.int .i64 c,.int .i64 m,.slice base n cap],.slice bl k cl,.slice pb pn pc] w fun e w'=>e= .returned (.bool mb)/\Ext w w':=by
 have Az:=ZlF hs;refine Zm5 a b c m base n cap l bl k cl pb pn pc (ZlZ L pk) mb w hk B1 Aj Mz (Zm9 Az pk).2 hI fun W i k hW hi hk=> ?_
 obtain⟨x,hx⟩:∃x,L[i]? =some x:=⟨_,List.getElem?_eq_getElem (by omega)⟩;obtain⟨bs,off,rfl,hb,sx,_⟩:=(hS.ext hW) i x hx;have h9:=Az.len;have:=Zma a b c m bs off n cap x i k pb pn pc pk W hb hi (by omega) hk sx (Az.ok x (List.mem_of_getElem? hx) k) A2 hu (hl.ext hW);rw[ZlZ,hx];exact this
end Go.Proofs.Tryq
