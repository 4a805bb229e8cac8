/- nocklaw01.ArrowListed: for every stock and every list that is chosen by bits the call returns true, on every schedule and without a data race; its arguments read afterwards as they read before; nothing that was in memory is changed; at the return no other goroutine does more than leave. The card ties the four listed package variables to the program's text. Conditions: none beyond the card's own (the listed variables hold what the program's text lays). The texts of this claim were shortened by program (no remarks, short names) to fit the bounds on a claim's size; their long form lies in the repository's folder wip. -/
import Derived.Test.YtedkbdkbbnemlaaGreatDoorNk28
import Derived.JoinedOf
import Derived.KernelRfl
import Derived.Test.YtedkbdkbbnemlaaGreatDoorRows
set_option linter.all false
namespace Go.Proofs.Tryq
open Go Go.Nk Go.RowKit
set_option linter.all false
theorem ZeO(n:Nat):∀(l:List Int)(o:Option Int),(∀y,o=some y→∀x∈l,y<x)→l.Pairwise (·<·)→(∀x∈l,0≤x∧x<n)→Z1k n o l=0
 |[],_,_,_,_=>rfl
 |x::t,o,h1,h2,h3=>by
  rw[Z8y]
  have hx:=h3 x (List.mem_cons_self ..)
  rw[if_neg (by simp only[Decidable.not_not];omega)]
  obtain⟨h4,h5⟩:=List.pairwise_cons.1 h2
  have ih:=ZeO n t (some x) (fun y e z hz=>by injection e with e;subst e;exact h4 z hz) h5 (fun z hz=>h3 z (List.mem_cons_of_mem _ hz))
  cases o with
  |none=>simpa using ih
  |some y=>
   have h6:=h1 y rfl x (List.mem_cons_self ..)
   have h7:decide (x≤y)=false:=by simp only[decide_eq_false_iff_not];omega
   simpa[h7] using ih
theorem ZeE{n:Nat}{l:List Int}(h2:l.Pairwise (·<·))(h3:∀x∈l,0≤x∧x<n):Zq n l=0:=
 ZeO n l none (fun y e=>by cases e) h2 h3
theorem ZeY(v:Int)(n:Nat):(ZeL v n).Pairwise (·<·)∧∀x∈ZeL v n,0≤x∧x<n:=by
 induction n with
 |zero=>exact⟨List.Pairwise.nil,fun x hx=>by cases hx⟩
 |succ n ih=>
  rw[ZeH]
  cases hb:Zfg v n with
  |false=>
   simp only[Bool.false_eq_true,if_false,List.append_nil]
   exact⟨ih.1,fun x hx=>by have:=ih.2 x hx;omega⟩
  |true=>
   simp only[if_true]
   refine⟨List.pairwise_append.2 ⟨ih.1,List.pairwise_singleton _ _,fun x hx y hy=> ?_⟩,fun x hx=> ?_⟩
   ·rw[List.mem_singleton.1 hy];exact(ih.2 x hx).2
   ·rcases List.mem_append.1 hx with h|h
    ·have:=ih.2 x h;omega
    ·rw[List.mem_singleton.1 h];omega
theorem Zew(v:Int)(n:Nat):Zq n (ZeL v n)=0:=ZeE (ZeY v n).1 (ZeY v n).2
set_option linter.all false
def lessL:List Int→List Int→Bool
 |[],[]=>false
 |[],_::_=>true
 |_::_,[]=>false
 |x::l,y::k=>if x=y then lessL l k else decide (x<y)
theorem ZgP(x:Int)(l k:List Int):lessL (x::l) (x::k)=lessL l k:=by rw[lessL,if_pos rfl]
theorem chooseR_iff:∀(s l:List Int),l∈chooseR s↔l.Sublist s
 |[],l=>by simp[chooseR]
 |x::t,l=>by
  have h:l∈chooseR (x::t)↔(l=[]∨(∃c∈chooseR t,x::c=l)∨l∈(chooseR t).tail):=by
   show l∈[]::((chooseR t).map (x::·)++(chooseR t).tail)↔_
   rw[List.mem_cons,List.mem_append,List.mem_map]
  rw[h]
  constructor
  ·rintro(rfl|⟨c,hc,rfl⟩|h)
   ·exact List.nil_sublist _
   ·exact((chooseR_iff t c).1 hc).cons_cons x
   ·exact((chooseR_iff t l).1 (by rw[chooseR_head];exact List.mem_cons_of_mem _ h)).cons x
  ·intro h
   cases h with
   |cons _ h=>
    have h2:=(chooseR_iff t l).2 h
    rw[chooseR_head] at h2
    rcases List.mem_cons.1 h2 with h2|h2
    ·exact .inl h2
    ·exact .inr (.inr h2)
   |cons_cons _ h=>exact .inr (.inl ⟨_,(chooseR_iff t _).2 h,rfl⟩)
theorem chooseR_less:∀(s:List Int),s.Pairwise (·<·)→(chooseR s).Pairwise fun l k=>lessL l k=true
 |[],_=>by simp[chooseR]
 |x::t,h=>by
  have ih:=chooseR_less t (List.Pairwise.of_cons h)
  have iht:(chooseR t).tail.Pairwise fun l k=>lessL l k=true:=ih.sublist (List.tail_sublist _)
  show([]::((chooseR t).map (x::·)++(chooseR t).tail)).Pairwise _
  rw[List.pairwise_cons,List.pairwise_append,List.pairwise_map]
  refine⟨fun k hk=> ?_,ih.imp fun h=>by rw[ZgP];exact h,iht,fun l hl k hk=> ?_⟩
  ·cases k with
   |nil=>
    rcases List.mem_append.1 hk with h|h
    ·obtain⟨c,_,hc⟩:=List.mem_map.1 h;cases hc
    ·exact absurd rfl (chooseR_ne t _ h)
   |cons y k=>rfl
  ·obtain⟨c,_,rfl⟩:=List.mem_map.1 hl
   have hne:=chooseR_ne t k hk
   have hs:=(chooseR_iff t k).1 (by rw[chooseR_head];exact List.mem_cons_of_mem _ hk)
   cases k with
   |nil=>exact absurd rfl hne
   |cons y k=>
    have hxy:x<y:=List.rel_of_pairwise_cons h (hs.subset List.mem_cons_self)
    show lessL (x::c) (y::k)=true
    rw[lessL,if_neg (by omega)]
    exact decide_eq_true hxy
theorem ZgS(a b c:Int)(L:List Sf)(m:Nat)(s:List Int)(h:s.Pairwise (·<·)):(ZgO a b c L m s).Pairwise fun l k=>lessL l k=true:=(chooseR_less s h).sublist (List.filter_sublist)
theorem ZgT{a b c:Int}{L:List Sf}{m:Nat}{s l:List Int}:l∈ZgO a b c L m s↔l.Sublist s∧l.length=m∧Zr (apA a b c L l)=1:=by
 rw[ZgO,List.mem_filter,chooseR_iff]
 simp
def ZgA(a b c m:Int)(L:List Sf):List (List Int):=if Zo a b c m L []=0 then Zt a b c L L.length (fun _=>false) m.toNat [] 0 else[]
theorem ZgU(n:Nat):ZeS n (fun _=>false) 0=(List.range n).map fun(i:Nat)=>(i:Int):=by
 simp only[ZeS,List.range_eq_range',Nat.sub_zero,Bool.not_false]
 congr 1
 exact List.filter_eq_self.2 fun _ _=>rfl
theorem ZgK(n:Nat):((List.range n).map fun(i:Nat)=>(i:Int)).Pairwise (·<·):=by
 rw[List.pairwise_map]
 exact(List.pairwise_lt_range (n:=n)).imp fun h=>by omega
theorem ZgC{a b c m:Int}{L:List Sf}(h:Zo a b c m L []=0):ZgA a b c m L=ZgO a b c L m.toNat ((List.range L.length).map fun(i:Nat)=>(i:Int)):=by
 rw[ZgA,if_pos h,Zh0,ZgU]
theorem ZgV{a b c m:Int}{L:List Sf}{i:Nat}{t u:List Int}(ht:(ZgA a b c m L)[i]? =some t)(hu:(ZgA a b c m L)[i+1]? =some u):lessL t u=true:=by
 by_cases h:Zo a b c m L []=0
 ·have hp:=ZgS a b c L m.toNat _ (ZgK L.length)
  rw[←ZgC h] at hp
  obtain⟨h1,rfl⟩:=List.getElem?_eq_some_iff.1 ht
  obtain⟨h2,rfl⟩:=List.getElem?_eq_some_iff.1 hu
  exact List.pairwise_iff_getElem.1 hp i (i+1) h1 h2 (by omega)
 ·rw[ZgA,if_neg h] at ht;cases ht
theorem ZgD{a b c m:Int}{L:List Sf}{l:List Int}(hl:l∈ZgA a b c m L):l.length=m.toNat∧Zq L.length l=0:=by
 by_cases h:Zo a b c m L []=0
 ·rw[ZgC h] at hl
  obtain⟨h1,h2,_⟩:=ZgT.1 hl
  exact⟨h2,ZeE ((ZgK _).sublist h1) (fun p hp=>by
   obtain⟨i,hi,rfl⟩:=List.mem_map.1 (h1.subset hp)
   have:=List.mem_range.1 hi
   omega)⟩
 ·rw[ZgA,if_neg h] at hl;cases hl
theorem ZgW{a b c m:Int}{L:List Sf}{v:Int}(h:Zo a b c m L []=0)(hm:0≤m):ZeL v L.length∈ZgA a b c m L↔((ZeL v L.length).length=m.toNat∧Zr (apA a b c L (ZeL v L.length))=1):=by
 rw[ZgC h,ZgT]
 constructor
 ·rintro⟨_,h2⟩;exact h2
 ·intro h2
  exact⟨List.Sublist.map _ List.filter_sublist,h2⟩
theorem ZgL{a b c m:Int}{L:List Sf}{l:List Int}(hl:l∈Z66 a b c m L):l∈ZgA a b c m L:=by
 by_cases h:Zo a b c m L []=0
 ·rw[Z66,if_pos h] at hl
  rw[ZgA,if_pos h]
  exact Z3O _ _ _ _ hl
 ·rw[Z66,if_neg h] at hl;cases hl
end Go.Proofs.Tryq
namespace Go.Proofs.Tryq
set_option maxRecDepth 100000
set_option maxHeartbeats 4000000
open Go Go.Nk Go.RowKit
set_option linter.all false
theorem ZgE{w:World}{b:Nat}{a0 a1 a2 a3 a4:Value}{t:TypeId}(h:w.heap[b]? =some (.cells #[a0,a1,a2,a3,a4] t)):
 w.cell? ⟨b,0,none⟩=some a0∧w.cell? ⟨b,1,none⟩=some a1∧w.cell? ⟨b,2,none⟩=some a2∧w.cell? ⟨b,3,none⟩=some a3∧w.cell? ⟨b,4,none⟩=some a4:=
 ⟨Z0 h 0,Z0 h 1,Z0 h 2,Z0 h 3,Z0 h 4⟩
theorem ZgQ{l k:List Int}{i:Nat}{x y:Int}(hx:l[i]? =some x)(hy:k[i]? =some y):lessL (l.drop i) (k.drop i)=if x=y then lessL (l.drop (i+1)) (k.drop (i+1)) else decide (x<y):=by
 rw[Z0b hx,Z0b hy,lessL]
theorem ZgR{l k:List Int}{n2:Nat}(h2:k.length=n2){i:Nat}(h:i=l.length)(hi:i≤n2):lessL (l.drop i) (k.drop i)=decide ((l.length:Int)<(n2:Int)):=by
 subst h
 rw[List.drop_length]
 by_cases h:l.length<n2
 ·obtain⟨y,hy⟩:∃y,k[l.length]? =some y:=⟨_,List.getElem?_eq_getElem (by omega)⟩
  rw[Z0b hy,lessL]
  exact(decide_eq_true (by omega)).symm
 ·rw[List.drop_of_length_le (by omega),lessL]
  exact(decide_eq_false (by omega)).symm
theorem ZgM{l k:List Int}{i:Nat}(h1:i<l.length)(h2:k.length=i):lessL (l.drop i) (k.drop i)=decide ((l.length:Int)<(i:Int)):=by
 obtain⟨y,hy⟩:∃y,l[i]? =some y:=⟨_,List.getElem?_eq_getElem (by omega)⟩
 have hz:k.drop i=[]:=List.drop_of_length_le (by omega)
 rw[Z0b hy,hz,lessL]
 exact(decide_eq_false (by omega)).symm
theorem ZgX(a1:Option Addr)(n1 c1:Nat)(l:List Int)(a2:Option Addr)(n2 c2:Nat)(k:List Int)(w:World)(h1:l.length=n1)(h2:k.length=n2)(hb:n1≤1000000∧n2≤1000000)(hl:RawI w a1 l)(hk:RawI w a2 k):
 Calls prog 70 #[.slice a1 n1 c1,.slice a2 n2 c2] w fun e w'=>e= .returned (.bool (lessL l k))∧Ext w w':=by
 have H:Hid (lessL l k=lessL (l.drop 0) (k.drop 0)):=rfl
 replace h1:Hid (l.length=n1):=h1
 replace h2:Hid (k.length=n2):=h2
 have hl2:Hid (RawI w a1 l):=hl
 have hk2:Hid (RawI w a2 k):=hk
 clear hl hk
 go_enter func70,ntmps70
 go_wp2
 go_loopw [5] (fun v wr=>∃i:Nat,i≤n1∧i≤n2∧v= .int .i64 i∧Ext w wr∧Hid (lessL l k=lessL (l.drop i) (k.drop i))) (fun v _=>n1 - (intOf v).toNat)
 case atStart=>exact⟨0,Nat.zero_le _,Nat.zero_le _,rfl,Ext.rfl' w,H⟩
 case round=>
  clear H
  obtain⟨i,hi,hj,rfl,hE,HP⟩:=hrel
  by_cases hi1:i=n1
  ·have HR:Hid (lessL l k=decide ((n1:Int)<(n2:Int))):=by show _=_;rw[HP.out,ZgR h2.out (hi1.trans h1.out.symm) hj,h1.out]
   subst hi1
   clear HP
   go_wp2
   go_ret
   exact⟨ZP (by rw[HR.out,decide_eq_decide];omega),hE⟩
  ·have hlt:i<n1:=by omega
   have hlt1:(i:Int)<(n1:Int):=by omega
   by_cases hi2:i=n2
   ·have HR:Hid (lessL l k=decide ((n1:Int)<(n2:Int))):=by show _=_;rw[HP.out,ZgM (by have:=h1.out;omega) (h2.out.trans hi2.symm),h1.out,hi2]
    subst hi2
    clear HP
    go_wp2
    go_ret
    exact⟨ZP (by rw[HR.out,decide_eq_decide];omega),hE⟩
   ·have hlt':i<n2:=by omega
    have hlt2:(i:Int)<(n2:Int):=by omega
    obtain⟨x,hxi⟩:∃x,l[i]? =some x:=⟨_,List.getElem?_eq_getElem (by have:=h1.out;omega)⟩
    obtain⟨y,hyi⟩:∃y,k[i]? =some y:=⟨_,List.getElem?_eq_getElem (by have:=h2.out;omega)⟩
    have HS:Hid (lessL l k=if x=y then lessL (l.drop (i+1)) (k.drop (i+1)) else decide (x<y)):=by show _=_;rw[HP.out,ZgQ hxi hyi]
    obtain⟨ba,oa,rfl,hba,hcx⟩:=(hl2.out.ext hE) i x hxi
    obtain⟨bb,ob,rfl,hbb,hcy⟩:=(hk2.out.ext hE) i y hyi
    clear hl2 hk2 hxi hyi HP
    go_wp2_with fail
    have gx:=Zet hcx;have gy:=Zet hcy
    refine ZeG 9 (by kernel_rfl) ?_
    refine ZeB [0,1,2,3,4,5,6,7,8] (by kernel_rfl) (by kernel_rfl) ?_
    simp only[ZeD,List.getElem?_cons_succ,List.getElem?_cons_zero,List.cons_append,List.nil_append]
    repeat (go_big_quiet_step (fail))
    refine wpQuiet_nil ?_
    refine Zf6 (by kernel_rfl) (fun W hW=> ?_)
    have hE2:=hE.trans hW
    have hE2':=hW
    clear hW
    by_cases hxy:x=y
    ·subst hxy
     have HN:Hid (lessL l k=lessL (l.drop (i+1)) (k.drop (i+1))):=by show _=_;rw[HS.out,if_pos rfl]
     clear HS gx gy
     go_wp2
     exact⟨⟨i+1,by omega,by omega,by push_cast;rfl,hE2,HN⟩,by simp[intOf];omega⟩
    ·have HN:Hid (lessL l k=decide (x<y)):=by show _=_;rw[HS.out,if_neg hxy]
     have hb:(x !=y)=true:=by simpa using hxy
     replace hcx:=hE2'.cellS hcx;replace hcy:=hE2'.cellS hcy
     clear HS gx gy
     go_wp2_with fail
     have gx:=Zet hcx;have gy:=Zet hcy
     refine ZeG 10 (by kernel_rfl) ?_
     refine ZeB [0,1,2,3,4,5,6,7,8,9] (by kernel_rfl) (by kernel_rfl) ?_
     simp only[ZeD,List.getElem?_cons_succ,List.getElem?_cons_zero,List.cons_append,List.nil_append]
     repeat (go_big_quiet_step (fail))
     refine wpQuiet_nil ?_
     refine Zf6 (by kernel_rfl) (fun W hW=> ?_)
     have hE3:=hE2.trans hW
     clear gx gy hcx hcy
     go_wp2
     go_ret
     exact⟨ZP HN.out.symm,hE3⟩
theorem Zh1{b:Nat}{w:World}{v:Value}{vs:List Value}{ls:List (List Int)}(h1:w.ownsRow b 27 1 v vs.length vs)(h2:Each (fun u s=>OwnI b w u s) vs ls)(hb:∀l∈ls,l.length≤1000000):∃ao cp,v= .slice ao ls.length cp∧RawL w ao ls:=by
 have hlen:=h2.length
 by_cases h0:ls=[]
 ·subst h0
  have hv0:vs.length=0:=by simpa using hlen
  rcases h1.2 with⟨rfl,_⟩|⟨g,cp,_,rfl,_⟩
  ·exact⟨none,0,rfl,fun i l hl=>by simp at hl⟩
  ·exact⟨_,cp,by rw[hv0];rfl,fun i l hl=>by simp at hl⟩
 ·have hp:0<vs.length:=by rw[hlen];exact List.length_pos_iff.2 h0
  obtain⟨g,cr,rfl,_,hg⟩:=h1.form hp
  refine⟨_,cr,by rw[hlen],fun i l hl=> ?_⟩
  obtain⟨u,hu,hou⟩:=h2.get i l hl
  have hc:=h1.cells (g:=g) rfl i u hu
  rw[Z0c] at hc
  obtain⟨ad,cu,rfl,hr,_⟩:=hou.rawI
  exact⟨g,0,ad,cu,rfl,hg,by rw[Nat.zero_add];exact hc,hb l (List.mem_of_getElem? hl),hr⟩
theorem ZgY{a b c m:Int}{L:List Sf}:(ZgA a b c m L).length≤100000:=by
 unfold ZgA
 split
 ·rename_i h
  obtain⟨_,_,hn9,hm⟩:=Z1n h
  refine Nat.le_trans (Z3L a b c L L.length _ hn9 m.toNat [] 0) ?_
  have:m.toNat=2∨m.toNat=3∨m.toNat=4:=by omega
  rcases this with h|h|h<;>rw[h]<;>decide
 ·simp
theorem Zh2(a b c m:Int)(base:Option Addr)(n cap:Nat)(L:List Sf)(w:World)(hlen:L.length=n)(hn:n≤20)(hM:Meas w)(hS:RawA w base L):
 Calls prog 54 #[.agg #[.int .i64 a,.int .i64 b,.int .i64 c,.int .i64 m,.slice base n cap]] w fun e w'=>∃ao cp,e= .returned (.tuple #[.slice ao (ZgA a b c m L).length cp,.int .i64 (Zo a b c m L [])])∧RawL w' ao (ZgA a b c m L)∧Ext w w':=by
 have ho:=fun W hW=>Z3c a b c m base n cap L none 0 0 [] W hlen hn rfl (by omega) (hM.ext hW) (hS.ext hW) (fun i x hx=>by simp at hx)
 by_cases h:Zo a b c m L []=0
 ·obtain⟨hG,_,hn9,hm⟩:=Z1n h
  have hF1:ZgA a b c m L=Zt a b c L n (fun _=>false) m.toNat [] 0:=by rw[ZgA,if_pos h,hlen]
  have hsh:=fun W hW=>ZbU a b c m base n cap L (fun _=>false) W hG hlen (by omega) hm (hM.ext hW) (hS.ext hW)
  have hmem:∀l∈Zt a b c L n (fun _=>false) m.toNat [] 0,l.length≤1000000:=fun l hl=>by
   have:=(Z2A a b c L n (fun _=>false) m.toNat [] 0 l hl (by simp) List.Pairwise.nil).2.2
   simp at this;omega
  rw[hF1]
  rw[h] at ho⊢
  generalize Zt a b c L n (fun _=>false) m.toNat [] 0=S at hsh hmem⊢
  simp only[Zs] at hsh
  clear hF1 h
  go_enter func54,ntmps54
  go_wp2_with (first
   |(go_at_call 86;refine(ho _ (by(repeat (with_reducible first|assumption|exact Ext.rfl' _|apply Ext.alloc|apply Ext.drew)))).mono ?_;rintro e w2 ⟨rfl,hE2⟩
     have hE3:Ext w w2:=Ext.trans (by(repeat (with_reducible first|assumption|exact Ext.rfl' _|apply Ext.alloc|apply Ext.drew))) hE2)
   |(go_at_call 115;refine(hsh _ (by(repeat (with_reducible first|assumption|exact Ext.rfl' _|apply Ext.alloc|apply Ext.drew)))).mono ?_;rintro e w3 ⟨v,vs,rfl,hrow,heach,hE4⟩
     obtain⟨ao,cp,rfl,hraw⟩:=Zh1 hrow heach hmem
     have hE5:Ext w w3:=Ext.trans (by(repeat (with_reducible first|assumption|exact Ext.rfl' _|apply Ext.alloc|apply Ext.drew))) hE4))
  go_ret2
  exact⟨ao,cp,rfl,hraw,hE5⟩
 ·have hF:ZgA a b c m L=[]:=by rw[ZgA,if_neg h]
  have hne:(Zo a b c m L [] !=0)=true:=by simpa using h
  rw[hF]
  generalize Zo a b c m L []=f at ho hne⊢
  go_enter func54,ntmps54
  go_wp2_with (
   go_at_call 86;refine(ho _ (by(repeat (with_reducible first|assumption|exact Ext.rfl' _|apply Ext.alloc|apply Ext.drew)))).mono ?_;rintro e w2 ⟨rfl,hE2⟩
   have hE3:Ext w w2:=Ext.trans (by(repeat (with_reducible first|assumption|exact Ext.rfl' _|apply Ext.alloc|apply Ext.drew))) hE2)
  go_ret2
  exact⟨none,0,rfl,fun i l hl=>by simp at hl,hE3.alloc _⟩
end Go.Proofs.Tryq
namespace Go.Proofs.Tryq
set_option maxRecDepth 100000
set_option maxHeartbeats 8000000
open Go Go.Nk Go.RowKit
set_option linter.all false
theorem Zgz{T:List (List Int)}{i:Nat}{t l:List Int}(h:T[i]? =some t):l∈T.take (i+1)↔(l∈T.take i∨t=l):=by
 rw[List.take_succ,h]
 simp[eq_comm]
theorem ZgN(a b c v:Int)(mn:Nat)(base:Option Addr)(n cap:Nat)(l:List Int)(k:Nat)(T R:List (List Int))(tn rn:Nat)(mv:Int)(w:World)(hk:Hid (l.length=k))(hk20:k≤20)(hn:n≤20)(hmn:mn≤20)
 (htn:Hid (T.length=tn))(hrn:Hid (R.length=rn))(htb:tn≤1000000)(hrb:rn≤1000000)
 (hlen:Hid (∀t∈T,t.length=mn))(hasc0:Hid (∀t∈T,Zq n t=0))(hord:Hid (∀(i:Nat)(t u:List Int),T[i]? =some t→T[i+1]? =some u→lessL t u=true))(hmem:Hid (l∈T↔k=mn∧mv=1))(hsub:Hid (∀r∈R,r∈T))
 (hft:∀W,Ext w W→Calls prog 30 #[.agg #[.int .i64 a,.int .i64 b,.int .i64 c,.int .i64 mn,.slice base n cap]] W fun e w'=>e= .returned (.bool true)∧Ext W w')
 (hli:∀W,Ext w W→Calls prog 31 #[.agg #[.int .i64 a,.int .i64 b,.int .i64 c,.int .i64 mn,.slice base n cap],.int .u16 v] W fun e w'=>∃bl cl,e= .returned (.slice bl k cl)∧k≤cl∧RawI w' bl l∧Ext W w')
 (hm1:∀bl cl W,Ext w W→k≤cl→RawI W bl l→Calls prog 23 #[.agg #[.int .i64 a,.int .i64 b,.int .i64 c,.int .i64 mn,.slice base n cap],.slice bl k cl] W fun e w'=>e= .returned (.tuple #[.int .i64 mv,.int .i64 0])∧Ext W w')
 (hse:∀W,Ext w W→Calls prog 54 #[.agg #[.int .i64 a,.int .i64 b,.int .i64 c,.int .i64 mn,.slice base n cap]] W fun e w'=>∃ao cp,e= .returned (.tuple #[.slice ao tn cp,.int .i64 0])∧RawL w' ao T∧Ext W w')
 (hfi:∀W,Ext w W→Calls prog 37 #[.agg #[.int .i64 a,.int .i64 b,.int .i64 c,.int .i64 mn,.slice base n cap]] W fun e w'=>∃ao cp v2,e= .returned (.tuple #[.slice ao rn cp,v2,.int .i64 0])∧RawL w' ao R∧Ext W w')
 (hsh:∀W,Ext w W→Calls prog 22 #[] W fun e w'=>e= .returned (.bool true)∧Ext W w'):
 Calls prog 13 #[.agg #[.int .i64 a,.int .i64 b,.int .i64 c,.int .i64 mn,.slice base n cap],.int .u16 v] w fun e w'=>e= .returned (.bool true):=by
 go_enter func13,ntmps13
 go_wp2_with (first
  |(go_at_call 30;refine(hft _ ((Ext.rfl' w).alloc _)).mono ?_;rintro e w2 ⟨rfl,hE2⟩
    have hE:=((Ext.rfl' w).alloc _).trans hE2
    have hr:=hE2.get (b:=w.heap.size) (o:= .cells #[.int .i64 a,.int .i64 b,.int .i64 c,.int .i64 mn,.slice base n cap] 26) ((Z3 _ _ _).trans (if_pos rfl))
    obtain⟨q0,q1,q2,q3,q4⟩:=ZgE hr)
  |(go_at_call 31;refine(hli _ hE).mono ?_;rintro e w3 ⟨bl,cl,rfl,hcl,hI,hF⟩
    replace hr:=hF.get hr;replace hE:=hE.trans hF
    clear q0 q1 q2 q3 q4 hF
    obtain⟨q0,q1,q2,q3,q4⟩:=ZgE hr)
  |(go_at_call 23;refine(hm1 bl cl _ hE hcl hI).mono ?_;rintro e w4 ⟨rfl,hF⟩
    replace hr:=hF.get hr;replace hI:=hI.ext hF;replace hE:=hE.trans hF
    clear q0 q1 q2 q3 q4 hF
    obtain⟨q0,q1,q2,q3,q4⟩:=ZgE hr)
  |(go_at_call 54;refine(hse _ hE).mono ?_;rintro e w5 ⟨at',ct,rfl,hTw,hF⟩
    replace hr:=hF.get hr;replace hI:=hI.ext hF;replace hE:=hE.trans hF
    clear q0 q1 q2 q3 q4 hF
    obtain⟨q0,q1,q2,q3,q4⟩:=ZgE hr)
  |(go_at_call 37;refine(hfi _ hE).mono ?_;rintro e w6 ⟨ar',cr',v2,rfl,hRw,hF⟩
    replace hr:=hF.get hr;replace hI:=hI.ext hF;replace hTw:=hTw.ext hF;replace hE:=hE.trans hF
    clear q0 q1 q2 q3 q4 hF))
 clear hft hli hm1 hse hfi
 go_loopw [13,14] (fun v13 v14 wr=>∃(i:Nat)(bo:Bool),i≤tn∧v13= .bool bo∧v14= .int .i64 i∧Ext w wr∧wr.heap[w.heap.size]? =some (.cells #[.int .i64 a,.int .i64 b,.int .i64 c,.int .i64 mn,.slice base n cap] 26)∧RawI wr bl l∧RawL wr at' T∧RawL wr ar' R∧Hid (bo=true↔l∈T.take i)) (fun _ v14 _=>tn - (intOf v14).toNat)
 case atStart=>exact⟨0,false,Nat.zero_le _,rfl,rfl,hE,hr,hI,hTw,hRw,⟨fun h=>(by cases h),fun h=>(by simp at h)⟩⟩
 case round=>
  clear hE hr hI hTw hRw
  obtain⟨i,bo,hi,rfl,rfl,hE,hr,hI,hTw,hRw,hb⟩:=hrel
  by_cases hin:i=tn
  ·have hb2:Hid (bo=true↔k=mn∧mv=1):=by
    show _↔_
    rw[hb.out,hin,←htn.out,List.take_length,hmem.out]
   subst hin
   clear hb hmem
   go_wp2
   obtain⟨wo,rfl⟩:∃wo:World,wo=wr:=⟨_,rfl⟩
   go_loopw [15] (fun v15 wr=>∃(p:Nat),p≤rn∧v15= .int .i64 p∧Ext w wr∧wr.heap[w.heap.size]? =some (.cells #[.int .i64 a,.int .i64 b,.int .i64 c,.int .i64 mn,.slice base n cap] 26)∧RawI wr bl l∧RawL wr at' T∧RawL wr ar' R) (fun v15 _=>rn - (intOf v15).toNat)
   case atStart=>exact⟨0,Nat.zero_le _,rfl,hE,hr,hI,hTw,hRw⟩
   case round=>
    clear hE hr hI hTw hRw
    obtain⟨p,hp,rfl,hE,hr,hI,hTw,hRw⟩:=hrel
    by_cases hpr:p=rn
    ·subst hpr
     obtain⟨q0,q1,q2,q3,q4⟩:=ZgE hr
     clear hTw hRw hI hlen hasc0 hord hsub htn hrn
     by_cases hkm:k=mn
     ·subst hkm
      by_cases h1:mv=1
      ·subst h1
       obtain rfl:bo=true:=hb2.out.2 ⟨rfl,rfl⟩
       clear hb2
       go_wp2_with (first|(go_at_call 22;(with_reducible refine(hsh _ hE).mono ?_);rintro e w3 ⟨rfl,hE4⟩))
       go_ret
       exact rfl
      ·have h1b:(mv==1)=false:=beq_eq_false_iff_ne.2 h1
       obtain rfl:bo=false:=by
        cases bo with
        |false=>rfl
        |true=>exact absurd (hb2.out.1 rfl).2 h1
       clear hb2
       go_wp2_with (first|(go_at_call 22;(with_reducible refine(hsh _ hE).mono ?_);rintro e w3 ⟨rfl,hE4⟩))
       go_ret
       exact rfl
     ·have hkb:((k:Int)==(mn:Int))=false:=beq_eq_false_iff_ne.2 (by omega)
      obtain rfl:bo=false:=by
       cases bo with
       |false=>rfl
       |true=>exact absurd (hb2.out.1 rfl).1 hkm
      clear hb2
      go_wp2_with (first|(go_at_call 22;(with_reducible refine(hsh _ hE).mono ?_);rintro e w3 ⟨rfl,hE4⟩))
      go_ret
      exact rfl
    ·have hplt:p<rn:=by omega
     have hplt2:(p:Int)<(rn:Int):=by omega
     obtain⟨r,hrp⟩:∃r,R[p]? =some r:=⟨_,List.getElem?_eq_getElem (by have:=hrn.out;omega)⟩
     have hrT:Hid (r∈T):=hsub.out r (List.mem_of_getElem? hrp)
     have hrl:Hid (r.length=mn):=hlen.out r hrT.out
     have hrp2:Hid (R[p]? =some r):=hrp
     clear hrp
     go_wp2
     obtain⟨wo,rfl⟩:∃wo:World,wo=wr:=⟨_,rfl⟩
     go_loopw [16,17] (fun v16 v17 wr=>∃(q:Nat)(h:Bool),q≤i∧v16= .bool h∧v17= .int .i64 q∧Ext w wr∧wr.heap[w.heap.size]? =some (.cells #[.int .i64 a,.int .i64 b,.int .i64 c,.int .i64 mn,.slice base n cap] 26)∧RawI wr bl l∧RawL wr at' T∧RawL wr ar' R∧Hid (h=true↔r∈T.take q)) (fun _ v17 _=>i - (intOf v17).toNat)
     case atStart=>exact⟨0,false,Nat.zero_le _,rfl,rfl,hE,hr,hI,hTw,hRw,⟨fun h=>(by cases h),fun h=>(by simp at h)⟩⟩
     case round=>
      clear hE hr hI hTw hRw
      obtain⟨q,h,hq,rfl,rfl,hE,hr,hI,hTw,hRw,hh⟩:=hrel
      by_cases hqn:q=i
      ·obtain rfl:h=true:=hh.out.2 (by rw[hqn,←htn.out,List.take_length];exact hrT.out)
       subst hqn
       clear hh
       go_wp2
       exact⟨⟨p+1,by omega,by push_cast;rfl,hE,hr,hI,hTw,hRw⟩,by simp[intOf];omega⟩
      ·have hqlt:q<i:=by omega
       have hqlt2:(q:Int)<(i:Int):=by omega
       obtain⟨t,htq⟩:∃t,T[q]? =some t:=⟨_,List.getElem?_eq_getElem (by have:=htn.out;omega)⟩
       have htl:Hid (t.length=mn):=hlen.out t (List.mem_of_getElem? htq)
       obtain⟨tb,to,ad,cp,hea,htb2,hd,_,hrt⟩:=hTw q t htq
       obtain⟨ub,uo,ar,cr,heu,hub2,hu,_,hru⟩:=hRw p r hrp2.out
       subst hea heu
       rw[htl.out] at hd
       rw[hrl.out] at hu
       have hti:Hid (T[q]? =some t):=htq
       clear htq
       cases h with
       |true=>
        have HB:Hid (r∈T.take (q+1)):=(Zgz hti.out).2 (.inl (hh.out.1 rfl))
        clear hh hrt hru
        have gd:=Zet hd;have gu:=Zet hu
        go_wp2
        refine ZeG 13 (by kernel_rfl) ?_
        refine ZeB [0,1,2,3,4,5,6,7,8,9] (by kernel_rfl) (by kernel_rfl) ?_
        simp only[ZeD,List.getElem?_cons_succ,List.getElem?_cons_zero,List.cons_append,List.nil_append]
        repeat (go_big_quiet_step (fail))
        refine wpQuiet_nil ?_
        refine Zg4 10 (by kernel_rfl) rfl (by kernel_rfl) rfl ?_
        go_simp
        refine ZeB [11,12] (by kernel_rfl) (by kernel_rfl) ?_
        simp only[ZeD,List.getElem?_cons_succ,List.getElem?_cons_zero,List.cons_append,List.nil_append]
        repeat (go_big_quiet_step (fail))
        refine wpQuiet_nil ?_
        refine Zf6 (by kernel_rfl) (fun W hW=> ?_)
        have hE3:=hE.trans hW
        have hr3:=hW.get hr;have hI3:=hI.ext hW;have hT3:=hTw.ext hW;have hR3:=hRw.ext hW
        clear hd hu gd gu hW hE hr hI hTw hRw
        go_wp2
        exact⟨⟨q+1,true,by omega,rfl,by push_cast;rfl,hE3,hr3,hI3,hT3,hR3,⟨fun _=>HB.out,fun _=>rfl⟩⟩,by simp[intOf];omega⟩
       |false=>
        have HB:Hid (decide (t=r)=true↔r∈T.take (q+1)):=⟨fun h=>(Zgz hti.out).2 (.inr (of_decide_eq_true h)),fun h=>((Zgz hti.out).1 h).elim (fun h=>by have:=hh.out.2 h;cases this) (fun h=>decide_eq_true h)⟩
        have hsn:=fun W (hW:Ext wr W)=>Z1d ad mn cp t ar mn cr r W htl.out hrl.out ⟨by omega,by omega⟩ (hrt.ext hW) (hru.ext hW)
        clear hh hrt hru
        generalize decide (t=r)=dv at hsn HB
        have gd:=Zet hd;have gu:=Zet hu
        go_wp2
        refine ZeG 13 (by kernel_rfl) ?_
        refine ZeB [0,1,2,3,4,5,6,7,8,9] (by kernel_rfl) (by kernel_rfl) ?_
        simp only[ZeD,List.getElem?_cons_succ,List.getElem?_cons_zero,List.cons_append,List.nil_append]
        repeat (go_big_quiet_step (fail))
        refine wpQuiet_nil ?_
        refine ZeX 10 (f:=58) (args:= #[.slice ad mn cp,.slice ar mn cr]) (v:= .bool dv) (by kernel_rfl) rfl (by kernel_rfl) rfl (fun W=>by simp[go_sem,execOp,Act.eval]) (hsn) ?_
        go_simp
        refine ZeB [11,12] (by kernel_rfl) (by kernel_rfl) ?_
        simp only[ZeD,List.getElem?_cons_succ,List.getElem?_cons_zero,List.cons_append,List.nil_append]
        repeat (go_big_quiet_step (fail))
        refine wpQuiet_nil ?_
        refine Zf6 (by kernel_rfl) (fun W hW=> ?_)
        have hE3:=hE.trans hW
        have hr3:=hW.get hr;have hI3:=hI.ext hW;have hT3:=hTw.ext hW;have hR3:=hRw.ext hW
        clear hd hu gd gu hW hE hr hI hTw hRw hsn
        go_wp2
        exact⟨⟨q+1,dv,by omega,rfl,by push_cast;rfl,hE3,hr3,hI3,hT3,hR3,HB⟩,by simp[intOf];omega⟩
  ·have hlt:i<tn:=by omega
   have hlt2:(i:Int)<(tn:Int):=by omega
   obtain⟨t,hti0⟩:∃t,T[i]? =some t:=⟨_,List.getElem?_eq_getElem (by have:=htn.out;omega)⟩
   have htT:=List.mem_of_getElem? hti0
   have htl:Hid (t.length=mn):=hlen.out t htT
   obtain⟨tb,to,ad,cp,hea,htb2,hd,_,hrt⟩:=hTw i t hti0
   subst hea
   rw[htl.out] at hd
   have hasc:=fun W (hW:Ext wr W)=>Z5a n ad mn cp t W (by omega) htl.out (by omega) (hrt.ext hW)
   rw[hasc0.out t htT] at hasc
   have hti:Hid (T[i]? =some t):=hti0
   clear htT
   obtain⟨q0,q1,q2,q3,q4⟩:=ZgE hr
   have g0:=Zet q0;have g1:=Zet q1;have g2:=Zet q2;have g3:=Zet q3;have g4:=Zet q4
   have gd:=Zet hd
   cases i with
   |zero=>
    clear hti0
    have hz2:(0:Int)<(tn:Int):=by omega
    have hz3:¬tn≤0:=by omega
    clear gd
    rw[Nat.add_zero] at hd
    have gd:=Zet hd
    go_wp2
    refine ZeG 37 (by kernel_rfl) ?_
    refine ZeB [0,1,2,3,4,5,6,7,8,9,10,11,12,13,14,15,16] (by kernel_rfl) (by kernel_rfl) ?_
    simp only[ZeD,List.getElem?_cons_succ,List.getElem?_cons_zero,List.cons_append,List.nil_append]
    repeat (go_big_quiet_step (fail))
    refine wpQuiet_nil ?_
    refine ZeX 17 (f:=40) (args:= #[.slice ad mn cp,.int .i64 n]) (v:= .int .i64 0) (by kernel_rfl) rfl (by kernel_rfl) rfl (fun W=>by simp[go_sem,execOp,Act.eval]) (hasc) ?_
    go_simp
    refine ZeB [18,19,20,21,22,23,24,25,26,27,28,29,30,31,32] (by kernel_rfl) (by kernel_rfl) ?_
    simp only[ZeD,List.getElem?_cons_succ,List.getElem?_cons_zero,List.cons_append,List.nil_append]
    repeat (go_big_quiet_step (fail))
    refine wpQuiet_nil ?_
    refine Zg4 33 (by kernel_rfl) rfl (by kernel_rfl) rfl ?_
    go_simp
    refine ZeB [34,35,36] (by kernel_rfl) (by kernel_rfl) ?_
    simp only[ZeD,List.getElem?_cons_succ,List.getElem?_cons_zero,List.cons_append,List.nil_append]
    repeat (go_big_quiet_step (fail))
    refine wpQuiet_nil ?_
    refine Zf6 (by kernel_rfl) (fun W hW=> ?_)
    have hE3:=hE.trans hW
    have hr3:=hW.get hr;have hI3:=hI.ext hW;have hT3:=hTw.ext hW;have hR3:=hRw.ext hW
    have hd3:=hW.cellS hd
    have hsn:=fun W (hW:Ext wr W)=>Z1d ad mn cp t bl k cl l W htl.out hk.out ⟨by omega,by omega⟩ (hrt.ext hW) (hI.ext hW)
    replace hsn:=fun W' (hW':Ext W W')=>hsn W' (hW.trans hW')
    clear q0 q1 q2 q3 q4 g0 g1 g2 g3 g4 gd hd hasc hW hE hr hI hTw hRw
    cases bo with
    |true=>
     have HB:Hid (l∈T.take (0+1)):=(Zgz hti.out).2 (.inl (hb.out.1 rfl))
     clear hsn hb
     go_wp2
     exact⟨⟨0+1,true,by omega,rfl,by push_cast;rfl,hE3,hr3,hI3,hT3,hR3,⟨fun _=>HB.out,fun _=>rfl⟩⟩,by simp[intOf];omega⟩
    |false=>
     have HB:Hid (decide (t=l)=true↔l∈T.take (0+1)):=⟨fun h=>(Zgz hti.out).2 (.inr (of_decide_eq_true h)),fun h=>((Zgz hti.out).1 h).elim (fun h=>by have:=hb.out.2 h;cases this) (fun h=>decide_eq_true h)⟩
     clear hb
     generalize decide (t=l)=dv at hsn HB
     go_wp2_with (first|(go_at_call 58;(with_reducible refine(hsn _ (Ext.rfl' _)).mono ?_);rintro e w9 ⟨rfl,hF⟩;replace hE3:=hE3.trans hF;replace hr3:=hF.get hr3;replace hI3:=hI3.ext hF;replace hT3:=hT3.ext hF;replace hR3:=hR3.ext hF))
     exact⟨⟨0+1,dv,by omega,rfl,by push_cast;rfl,hE3,hr3,hI3,hT3,hR3,HB⟩,by simp[intOf];omega⟩
   |succ j=>
    obtain⟨t0,ht0⟩:∃t,T[j]? =some t:=⟨_,List.getElem?_eq_getElem (by have:=htn.out;omega)⟩
    have htl0:Hid (t0.length=mn):=hlen.out t0 (List.mem_of_getElem? ht0)
    obtain⟨tb0,to0,ad0,cp0,hea,_,hd0,_,hrt0⟩:=hTw j t0 ht0
    obtain⟨rfl,rfl⟩:tb=tb0∧to=to0:=by simpa using hea
    rw[htl0.out] at hd0
    have hless:=fun W (hW:Ext wr W)=>ZgX ad0 mn cp0 t0 ad mn cp t W htl0.out htl.out ⟨by omega,by omega⟩ (hrt0.ext hW) (hrt.ext hW)
    rw[hord.out j t0 t ht0 hti0] at hless
    have gd0:=Zet hd0
    have hj1:((j+1:Nat):Int) - 1=(j:Int):=by omega
    have hj2:(0:Int)<((j+1:Nat):Int):=by omega
    clear hti0 ht0 hea hrt0
    go_wp2
    refine ZeG 37 (by kernel_rfl) ?_
    refine ZeB [0,1,2,3,4,5,6,7,8,9,10,11,12,13,14,15,16] (by kernel_rfl) (by kernel_rfl) ?_
    simp only[ZeD,List.getElem?_cons_succ,List.getElem?_cons_zero,List.cons_append,List.nil_append]
    repeat (go_big_quiet_step (fail))
    refine wpQuiet_nil ?_
    refine ZeX 17 (f:=40) (args:= #[.slice ad mn cp,.int .i64 n]) (v:= .int .i64 0) (by kernel_rfl) rfl (by kernel_rfl) rfl (fun W=>by simp[go_sem,execOp,Act.eval]) (hasc) ?_
    go_simp
    refine ZeB [18,19,20,21,22,23,24,25,26,27,28,29,30,31,32] (by kernel_rfl) (by kernel_rfl) ?_
    simp only[ZeD,List.getElem?_cons_succ,List.getElem?_cons_zero,List.cons_append,List.nil_append]
    repeat (go_big_quiet_step (fail))
    refine wpQuiet_nil ?_
    refine ZeX 33 (f:=70) (args:= #[.slice ad0 mn cp0,.slice ad mn cp]) (v:= .bool true) (by kernel_rfl) rfl (by kernel_rfl) rfl (fun W=>by simp[go_sem,execOp,Act.eval]) (hless) ?_
    go_simp
    refine ZeB [34,35,36] (by kernel_rfl) (by kernel_rfl) ?_
    simp only[ZeD,List.getElem?_cons_succ,List.getElem?_cons_zero,List.cons_append,List.nil_append]
    repeat (go_big_quiet_step (fail))
    refine wpQuiet_nil ?_
    refine Zf6 (by kernel_rfl) (fun W hW=> ?_)
    have hE3:=hE.trans hW
    have hr3:=hW.get hr;have hI3:=hI.ext hW;have hT3:=hTw.ext hW;have hR3:=hRw.ext hW
    have hd3:=hW.cellS hd
    have hsn:=fun W (hW:Ext wr W)=>Z1d ad mn cp t bl k cl l W htl.out hk.out ⟨by omega,by omega⟩ (hrt.ext hW) (hI.ext hW)
    replace hsn:=fun W' (hW':Ext W W')=>hsn W' (hW.trans hW')
    clear q0 q1 q2 q3 q4 g0 g1 g2 g3 g4 gd hd hasc hW hE hr hI hTw hRw gd0 hd0 hless
    cases bo with
    |true=>
     have HB:Hid (l∈T.take (j+1+1)):=(Zgz hti.out).2 (.inl (hb.out.1 rfl))
     clear hsn hb
     go_wp2
     exact⟨⟨j+1+1,true,by omega,rfl,by push_cast;rfl,hE3,hr3,hI3,hT3,hR3,⟨fun _=>HB.out,fun _=>rfl⟩⟩,by simp[intOf];omega⟩
    |false=>
     have HB:Hid (decide (t=l)=true↔l∈T.take (j+1+1)):=⟨fun h=>(Zgz hti.out).2 (.inr (of_decide_eq_true h)),fun h=>((Zgz hti.out).1 h).elim (fun h=>by have:=hb.out.2 h;cases this) (fun h=>decide_eq_true h)⟩
     clear hb
     generalize decide (t=l)=dv at hsn HB
     go_wp2_with (first|(go_at_call 58;(with_reducible refine(hsn _ (Ext.rfl' _)).mono ?_);rintro e w9 ⟨rfl,hF⟩;replace hE3:=hE3.trans hF;replace hr3:=hF.get hr3;replace hI3:=hI3.ext hF;replace hT3:=hT3.ext hF;replace hR3:=hR3.ext hF))
     exact⟨⟨j+1+1,dv,by omega,rfl,by push_cast;rfl,hE3,hr3,hI3,hT3,hR3,HB⟩,by simp[intOf];omega⟩
set_option linter.all false
theorem ZgZ(a b c m v:Int)(base:Option Addr)(n cap:Nat)(w:World)
 (hft:∀W,Ext w W→Calls prog 30 #[.agg #[.int .i64 a,.int .i64 b,.int .i64 c,.int .i64 m,.slice base n cap]] W fun e w'=>e= .returned (.bool false)∧Ext W w')
 (hsh:∀W,Ext w W→Calls prog 22 #[] W fun e w'=>e= .returned (.bool true)∧Ext W w'):
 Calls prog 13 #[.agg #[.int .i64 a,.int .i64 b,.int .i64 c,.int .i64 m,.slice base n cap],.int .u16 v] w fun e w'=>e= .returned (.bool true):=by
 go_enter func13,ntmps13
 go_wp2_with (first
  |(go_at_call 30;refine(hft _ ((Ext.rfl' w).alloc _)).mono ?_;rintro e w2 ⟨rfl,hE2⟩
    have hE3:=((Ext.rfl' w).alloc _).trans hE2)
  |(go_at_call 22;refine(hsh _ hE3).mono ?_;rintro e w3 ⟨rfl,hE4⟩))
 go_ret
 exact rfl
theorem ZgG(a b c m v:Int)(base:Option Addr)(n cap:Nat)(L:List Sf)(w:World)(hlen:L.length=n)(hv:0≤v∧v<65536)(hM:Meas w)(hmo:Most w)(hd:Deb w)(hS:RawA w base L):
 Calls prog 13 #[.agg #[.int .i64 a,.int .i64 b,.int .i64 c,.int .i64 m,.slice base n cap],.int .u16 v] w fun e w'=>e= .returned (.bool true):=by
 have hft:=fun W hW=>Zfd a b c m base n cap L W hlen (hS.ext hW)
 have hsh:∀W,Ext w W→Calls prog 22 #[] W fun e w'=>e= .returned (.bool true)∧Ext W w':=fun W (hW:Ext w W)=>Zce W (hM.ext hW) (hmo.ext hW) (hd.ext hW)
 cases hf:Zfc a b c m L with
 |false=>
  simp only[hf] at hft
  exact ZgZ a b c m v base n cap w hft hsh
 |true=>
  simp only[hf] at hft
  have hg:Z1B L=false∧Zp a b c m L=0:=by simpa[Zfc] using hf
  have hn:n≤20:=by
   rw[←hlen]
   have:=hg.1
   simp only[Z1B,Bool.or_eq_false_iff,decide_eq_false_iff_not] at this
   omega
  have hop:∀l,Zq n l=0→Zo a b c m L l=0:=fun l h=>by rw[Zo,hlen,h,hg.2];rfl
  have ho:=hop [] (by simp[Zq,Z1k])
  obtain⟨_,_,hn9,hm⟩:=Z1n ho
  obtain⟨mn,rfl⟩:=Int.eq_ofNat_of_zero_le (show 0≤m by omega)
  have hz:=Zew v n
  have hll:=ZeN v n
  have hmt:((mn:Int)).toNat=mn:=Int.toNat_natCast mn
  refine ZgN a b c v mn base n cap (ZeL v n) (ZeL v n).length (ZgA a b c mn L) (Z66 a b c mn L) (ZgA a b c mn L).length (Z66 a b c mn L).length (Z1M a b c mn L (ZeL v n)) w rfl (Nat.le_trans hll hn) hn (by omega) rfl rfl (Nat.le_trans ZgY (by omega)) ?_ ?_ ?_ ?_ ?_ ?_ hft (fun W _=> ?_) (fun bl cl W hW hcl hI=> ?_) (fun W hW=> ?_) (fun W hW=> ?_) hsh
  ·rw[Z66,if_pos ho]
   exact Nat.le_trans (Z2C _ _ _ _) (by omega)
  ·exact fun t ht=>by rw[(ZgD ht).1,hmt]
  ·exact fun t ht=>by rw[←hlen];exact(ZgD ht).2
  ·exact fun i t u ht hu=>ZgV ht hu
  ·show _↔_
   have h2:=ZgW (v:=v) ho (by omega)
   rw[hlen,hmt] at h2
   rw[h2,Z1M,if_pos (hop _ hz)]
  ·exact fun r hr=>ZgL hr
  ·refine(ZeT a b c mn v base n cap W hn hv).mono ?_
   rintro e w2 ⟨x,rfl,hx,hE⟩
   obtain⟨bl,cl,rfl,hI,hcl⟩:=hx.rawI
   exact⟨bl,cl,rfl,hcl,hI,hE⟩
  ·have:=Z5Y a b c mn base n cap L bl (ZeL v n).length cl (ZeL v n) W hlen hn rfl hcl (by omega) (hM.ext hW) (hS.ext hW) hI
   rw[hop _ hz] at this
   exact this
  ·have:=Zh2 a b c mn base n cap L W hlen hn (hM.ext hW) (hS.ext hW)
   rw[ho] at this
   exact this
  ·refine(ZbY a b c mn base n cap L W hlen hn (hM.ext hW) (hS.ext hW)).mono ?_
   rw[ho]
   rintro e w2 ⟨v1,v2,rfl,h1,_,hE⟩
   obtain⟨ao,cp,rfl,hR⟩:=h1.rawL (fun l hl=>by
    have:=(ZgD (ZgL hl)).1
    omega)
   exact⟨ao,cp,v2,rfl,hR,hE⟩
end Go.Proofs.Tryq
section
set_option maxRecDepth 100000
namespace Go.Proofs.YtedkbdkbbnemlaaGreatDoor
open Go
namespace JarrowListed
theorem k0:Rows.arrowListedRow.wf (OpenSpec.ofChange Rows.arrowListedSpec)=true:=by kernel_rfl
theorem k1:laidOutB Tryz.prog=true:=by kernel_rfl
theorem k2:mapsRowed Tryz.prog=true:=by kernel_rfl
theorem k3:Tryz.f13.params.all (Tryz.prog.readableRec ·)=true:=by kernel_rfl
theorem k4:namedTie Tryz.prog Rows.arrowListedRow.named Rows.arrowListedSpec.vars=true:=by kernel_rfl
theorem k5:(Rows.arrowListedRow.stops==[])=true:=by kernel_rfl
theorem k6:(Tryz.prog.stops==[])=true:=by kernel_rfl
theorem k7:(Rows.arrowListedRow.knobs==[])=true:=by kernel_rfl
theorem k8:(Tryz.prog.stopKnobs==[])=true:=by kernel_rfl
theorem k9:(Rows.arrowListedRow.inPlace==Tryz.prog.inPlace 13)=true:=by kernel_rfl
theorem k10:(Rows.arrowListedRow.unfollowed==Tryz.prog.unfollowed 13)=true:=by kernel_rfl
theorem k11:(Rows.arrowListedRow.recurses==Tryz.prog.recurses 13)=true:=by kernel_rfl
theorem k12:(Rows.arrowListedRow.named==Tryz.prog.varsNamed 13)=true:=by kernel_rfl
theorem k13:(Rows.arrowListedRow.maps==(Tryz.f13.params.toList++Rows.arrowListedSpec.plain.varTypes Tryz.prog).any (Tryz.prog.mapsRec ·))=true:=by kernel_rfl
theorem k14:(Rows.arrowListedRow.ifaces==(Tryz.f13.params.toList++Rows.arrowListedSpec.plain.varTypes Tryz.prog).any (Tryz.prog.ifacesRec ·))=true:=by kernel_rfl
theorem k15:(Rows.arrowListedRow.mapsOut==Tryz.prog.mapsAmong Tryz.f13.resultTypes.toList)=true:=by kernel_rfl
theorem k16:(Rows.arrowListedRow.loops==(Tryz.f13.params.toList++Rows.arrowListedSpec.plain.varTypes Tryz.prog).any (Tryz.prog.loopsFrom ·))=true:=by kernel_rfl
theorem k17:(Rows.arrowListedRow.wideKeys==(Tryz.f13.params.toList++Rows.arrowListedSpec.plain.varTypes Tryz.prog++Tryz.f13.resultTypes.toList).any (Tryz.prog.wideKeysFrom ·))=true:=by kernel_rfl
theorem k18:Rows.arrowListedSpec.vars.all (Tryz.prog.varReadable ·)=true:=by kernel_rfl
theorem k19:Tryz.f13.resultTypes.all (fun t=>Tryz.prog.readableRec t&&decide (t<Tryz.prog.types.size))=true:=by kernel_rfl
theorem k20:(Rows.arrowListedRow.ifacesOut==Tryz.f13.resultTypes.toList.any (Tryz.prog.ifacesRec ·))=true:=by kernel_rfl
theorem k21:(Rows.arrowListedRow.loopsOut==Tryz.f13.resultTypes.toList.any (Tryz.prog.loopsFrom ·))=true:=by kernel_rfl
theorem k22:(Rows.arrowListedRow.plainKeys==Tryz.prog.plainKeys)=true:=by kernel_rfl
theorem k23:Rows.arrowListedRow.shortTexts.isNone=true:=by kernel_rfl
theorem k24:Tryz.prog.stopsHeard=true:=by kernel_rfl
theorem k25:Tryz.prog.mayEnter=true:=by kernel_rfl
theorem k26:(Rows.arrowListedRow.lifted==Tryz.prog.liftsFinal)=true:=by kernel_rfl
theorem k27:(Tryz.prog.make==some Rows.arrowListedRow.make)=true:=by kernel_rfl
theorem k28:(Rows.arrowListedRow.kinds==(if Rows.arrowListedRow.domain.isEmpty then[] else Tryz.f13.params.toList.map fun t=>match Tryz.prog.underlying t with|some (.int k)=>some k|_=>none))=true:=by kernel_rfl
theorem k29:(Rows.arrowListedRow.pinned==Rows.arrowListedRow.pinnedBy)=true:=by kernel_rfl
theorem k30:(Rows.arrowListedRow.veiled==(Tryz.f13.params.toList++Rows.arrowListedSpec.plain.varTypes Tryz.prog++Tryz.f13.resultTypes.toList).any (Tryz.prog.veiledRec ·))=true:=by kernel_rfl
theorem k31:Rows.arrowListedRow.veiledFits Tryz.prog Tryz.f13.params.toList (Tryz.f13.params.toList++Rows.arrowListedSpec.plain.varTypes Tryz.prog++Tryz.f13.resultTypes.toList)=true:=by kernel_rfl
theorem ZI{a b:Bool}(ha:a=true)(hb:b=true):(a&&b)=true:=by rw[ha,hb];rfl
theorem facts:joinedFacts Tryz.prog 13 Tryz.f13 Rows.arrowListedSpec Rows.arrowListedRow=true:=(ZI (ZI (ZI (ZI (ZI (ZI (ZI (ZI (ZI (ZI (ZI (ZI (ZI (ZI (ZI (ZI (ZI (ZI (ZI (ZI (ZI (ZI (ZI (ZI (ZI (ZI (ZI (ZI (ZI (ZI (ZI k0 k1) k2) k3) k4) k5) k6) k7) k8) k9) k10) k11) k12) k13) k14) k15) k16) k17) k18) k19) k20) k21) k22) k23) k24) k25) k26) k27) k28) k29) k30) k31)
end JarrowListed
end Go.Proofs.YtedkbdkbbnemlaaGreatDoor
end
namespace Go.Proofs.YtedkbdkbbnemlaaGreatDoor
set_option maxRecDepth 100000
open Go Go.Nk Go.RowKit Go.ChangeShapes Go.WideShapes Go.ChangeAt Go.Conc
open Go.Proofs.Tryq
attribute [local instance] theBan
theorem ZgB(os:Os)(started:os.Started)(H:Type)(enc:TypeId×Value→H):
 ReturnsInLeavingWide {} Tryz.checked os 13 .any (fun w args=>(Rows.arrowListedSpec.pre enc Tryz.prog Tryz.f13 [] false w args∧laidMetH Tryz.prog laidL w)∧sizedMet enc Tryz.prog Tryz.f13 (OpenSpec.ofChange Rows.arrowListedSpec) false w args)
  (Rows.arrowListedSpec.post enc Tryz.prog Tryz.f13 false true false false):=by
 refine Z4e (n:=2) (ts:=[26,40]) started (by simp[keptList]) Tryz.func13 same13 (by kernel_rfl) Tryz.results13 (by kernel_rfl) (by rw[Tryz.params13]) rfl rfl (by kernel_rfl) (fun ds hd=>by
  match ds,hd with
  |[_,_],_=>rfl) (by kernel_rfl)
  (ChangeSpec.witness_shaped (enc:=enc) (C:=Tryz.checked) (os:=os) (X:=fun w _=>laidMetH Tryz.prog laidL w) false (World.doorLaid Tryz.prog 400 os) #[.agg #[.int .i64 0,.int .i64 0,.int .i64 0,.int .i64 0,.slice none 0 0],.int .u16 0] 8 rfl (Z3F os _) (by kernel_rfl) (by kernel_rfl) (by kernel_rfl) (Z7C os _)) ?_
 intro W base args ds p hval hA hM hmo hd
 rw[Tryz.params13] at hval
 obtain⟨v0,v1,dx0,dx1,px0,px1,rfl,rfl,rfl,h0,h1⟩:=trodAll_two hA
 obtain⟨a0,b0,c0,d0,ab0,n0,k0,S0,rfl,hL0,hn0,hc0,hr0,hS0,hw0⟩:=Z4c (hval 0 26 v0 rfl rfl) h0
 obtain⟨u1,rfl,hw1,hr1⟩:=ZeQ (hval 1 40 v1 rfl rfl) h1
 refine⟨(AR.nil.push hr0).push hr1,fun t=> ?_⟩
 exact ZgG a0 b0 c0 d0 u1 ab0 n0 k0 S0 (retape t (Zx W)) hL0 (Zf7 hw1) hM (Za7 t hmo) hd (Za8 t (Z5T hS0))
theorem arrowListed_row:Rows.ArrowListedSaid:=
 OpenClaim.holds_of_wide_leaving 13 Tryz.f13 rfl rfl rfl rfl rfl rfl rfl ⟨rfl,rfl,rfl,rfl,rfl⟩ rfl rfl rfl rfl rfl (by kernel_rfl) Tryz.func13 JarrowListed.facts
  (of_decide_eq_true (by kernel_rfl)) (by unfold Func.isWrapper;first|(rw[if_pos (by decide+kernel)];kernel_rfl)|(rw[if_neg (by decide+kernel)];exact⟨rfl,rfl⟩))
  (fun os started H enc _=>ZgB os started H enc)
theorem arrowListed_card:Rows.ArrowListedCardSaid:=
 Zac .later [.data,.data,.data,.funcs] true (true,"0e1059176c690520e63ed0d32383d6ff1680ebd08dcb3a61820afc84c46f7b58") false
  arrowListed_row (by kernel_rfl) arrowListed_row_tie rfl ⟨rfl,rfl⟩ (by kernel_rfl) rfl
  (fun f fn hf hfn=>by
    obtain rfl:f=13:=Option.some.inj ((show Tryz.prog.funcNamed "nock/nocklaw01.ArrowListed" =some 13 by kernel_rfl).symm.trans hf) |>.symm
    obtain rfl:fn=Tryz.f13:=(Option.some.inj (Tryz.func13.symm.trans hfn)).symm
    exact⟨by kernel_rfl,fun j t ht=>by
     rw[Tryz.params13] at ht
     have hm:t∈[26,40]:=by simpa using Array.mem_of_getElem? ht
     have hall:([26,40].all fun u=> !Tryz.prog.wantsStandIn u)=true:=by kernel_rfl
     exact(show Tryz.prog.wantsStandIn t=false by simpa using List.all_eq_true.1 hall t hm)⟩)
  (by kernel_rfl)
end Go.Proofs.YtedkbdkbbnemlaaGreatDoor
