import Derived.Test.YtedkbdkbbnemlaaGreatDoorNk09
import Derived.Laws.EntriesVeiled
import Derived.Laws.StructEq
import Derived.Lib.ConvBytes
import Derived.Maps.Own
set_option linter.all false
namespace Go.Nk
open Go Go.Region Go.Proofs.Tryq
section
variable {P:Program} {ops:Array Oper} {R:Exit→Act→World→Prop} {t:Nat}
def subA(A:Nat→Prop)(W W':World):Nat→Prop:=fun b=>A b∧¬(W.heap.size≤b∧b<W'.heap.size)
def anyF(P:Program)(ops:Array Oper)(R:Exit→Act→World→Prop)(t i d:Nat)(pre:List Nat)(obj:Obj):Nat→Array Bool→Act→World→(Nat→Prop)→Prop
 |0,_,_,_,_=>False
 |n+1,listed,a,w,A=>∀W,Ext w W→
   (∀j∈Region.ready .any ops listed,j≠i→wpOp P ops FQ j (fun a' W'=>Ext W W'∧anyF P ops R t i d pre obj n (listed.setIfInBounds j true) a' W' (subA A W W')) a W)∧
   ((∀m∈pre,listed.getD m false=true)→∀b,A b→b<W.heap.size→W.heap[b]? =some obj→anyE P ops R t n (listed.setIfInBounds i true) (a.put (some d) (.pointer (some ⟨b,0,none⟩))) W)
variable {i d:Nat} {pre:List Nat} {obj:Obj}
theorem anyF.mono{n:Nat}{l:Array Bool}{a:Act}{w W:World}{A A':Nat→Prop}(h:anyF P ops R t i d pre obj n l a w A)(e:Ext w W)(hA:∀b,A' b→A b):anyF P ops R t i d pre obj n l a W A':=by
 induction n generalizing l a w W A A' with
 |zero=>exact h
 |succ n ih=>
  intro W' hW'
  obtain⟨h1,h2⟩:=h W' (e.trans hW')
  exact⟨fun j hj hji=>wpOp_mono (fun a' W'' h'=>⟨h'.1,ih h'.2 (Ext.rfl' _) fun b hb=>⟨hA b hb.1,hb.2⟩⟩) (h1 j hj hji),fun hall b hb=>h2 hall b (hA b hb)⟩
def ZfM(ops:Array Oper)(l:Array Bool):Nat:=(List.range ops.size).countP fun j=> !l.getD j false
theorem Zfu{l:Array Bool}{j:Nat}(hs:l.size=ops.size)(hj:j<ops.size)(hl:l.getD j false=false):ZfM ops (l.setIfInBounds j true)<ZfM ops l:=by
 unfold ZfM
 refine Zad.countP_lt j (List.mem_range.2 hj) ?_ ?_ ?_
 ·simp[hs,hj]
 ·simp only[hl];rfl
 ·intro k hk
  by_cases hkj:j=k
  ·subst hkj;simp[hs,hj] at hk
  ·rwa [getD_set_ne false hkj] at hk
theorem ZfD{l:Array Bool}{j k:Nat}(hjk:j≠k)(hj:j<ops.size)(hk:k<ops.size)(hs:l.size=ops.size)(h1:l.getD j false=false)(h2:l.getD k false=false):2≤ZfM ops l:=by
 have a1:=Zfu hs hj h1
 have a2:=Zfu (ops:=ops) (l:=l.setIfInBounds j true) (j:=k) (by simpa using hs) hk (by rw[getD_set_ne false hjk];exact h2)
 omega
def okF(ops:Array Oper)(t i:Nat)(pre:List Nat):Bool:=Region.noSelect ops&&ZfH ops t i&&Zdr ops&&decide (i<t)&&decide (i<ops.size)&&(pre.all fun m=>decide (m<ops.size)&&m !=i)&&
 (List.range ops.size).all fun j=>j==i||match ops[i]?,ops[j]? with
   |some oi,some oj=>if(ahead oj).contains i then pre.all fun m=>(ahead oj).contains m else oi.apart ops oj
   |_,_=>false
structure OkF(ops:Array Oper)(t i:Nat)(pre:List Nat)(oi:Oper):Prop where
 hi:ops[i]? =some oi
 sel:∀(j:Nat)(o:Oper) cs b,ops[j]? =some o→o.op≠.select cs b
 sink:ZfH ops t i=true
 eld:Zdr ops=true
 lt:i<t
 dep:∀(j:Nat)(oj:Oper),ops[j]? =some oj→i∈ahead oj→j≠i→∀m,m∈pre→m∈ahead oj
 pres:∀m∈pre,m<ops.size∧m≠i
 free:∀(j:Nat)(oj:Oper),ops[j]? =some oj→j≠i→¬i∈ahead oj→oi.apart ops oj=true
theorem ZfN{oi:Oper}(hi:ops[i]? =some oi)(h:okF ops t i pre=true):OkF ops t i pre oi:=by
 unfold okF at h
 simp only[Bool.and_eq_true,decide_eq_true_eq] at h
 obtain⟨⟨⟨⟨⟨⟨h1,h2⟩,h3⟩,h4⟩,h5⟩,hp⟩,h6⟩:=h
 have key:∀(j:Nat)(oj:Oper),ops[j]? =some oj→j≠i→(if(ahead oj).contains i then pre.all fun m=>(ahead oj).contains m else oi.apart ops oj)=true:=by
  intro j oj hj hji
  have:=List.all_eq_true.1 h6 j (List.mem_range.2 (Array.getElem?_eq_some_iff.1 hj).1)
  rw[hi,hj] at this
  simpa[hji] using this
 refine⟨hi,Region.noSelect_spec h1,h2,h3,h4,fun j oj hj hw hji m hm=> ?_,fun m hm=>by have:=List.all_eq_true.1 hp m hm;simpa using this,fun j oj hj hji hw=> ?_⟩
 ·have:=key j oj hj hji
  rw[if_pos (by simpa using hw)] at this
  simpa using List.all_eq_true.1 this m hm
 ·have:=key j oj hj hji
  rwa [if_neg (by simpa using hw)] at this
theorem Zfs{listed:Array Bool}{j m:Nat}{oj:Oper}(hoj:ops[j]? =some oj)(hj:j∈Region.ready .any ops listed)(hm:m∈ahead oj):listed.getD m false=true:=by
 obtain⟨_,o,ho,hall⟩:=Go.mem_ready.1 hj
 rw[hoj] at ho
 cases ho
 obtain⟨e,he,hb,rfl⟩:=Zf2 hm
 exact hall e he hb
theorem ZfE{o:Oper}{e:Edge}(he:e∈o.after)(hb:Region.binds .any e=true):e.on∈ahead o:=by
 unfold ahead
 exact List.mem_map.2 ⟨e,List.mem_filter.2 ⟨by simpa using he,hb⟩,rfl⟩
theorem Zfv{l:Array Bool}{j:Nat}(hj:j<l.size):l.getD j true=l.getD j false:=by simp[hj]
theorem Zft{oi:Oper}(ok:OkF ops t i pre oi)(hd:oi.dst=some d):∀(n:Nat)(listed:Array Bool)(a:Act)(w:World)(A:Nat→Prop),listed.size=ops.size→listed.getD i false=false→ZfM ops listed≤n+1→
 anyF P ops R t i d pre obj (n+1) listed a w A→∀b,A b→b<w.heap.size→w.heap[b]? =some obj→anyE P ops R t n (listed.setIfInBounds i true) (a.put (some d) (.pointer (some ⟨b,0,none⟩))) w:=by
 have hilt:i<ops.size:=(Array.getElem?_eq_some_iff.1 ok.hi).1
 intro n
 induction n with
 |zero=>
  intro listed a w A hs hl hc h b hb hbl hbo
  refine(h w (Ext.rfl' w)).2 (fun m hm=> ?_) b hb hbl hbo
  cases h9:listed.getD m false with
  |true=>rfl
  |false=>
   have:=ZfD (ops:=ops) (j:=m) (k:=i) (ok.pres m hm).2 (ok.pres m hm).1 hilt hs h9 hl
   omega
 |succ n ih=>
  intro listed a w A hs hl hc h b hb hbl hbo
  by_cases hall:∀m∈pre,listed.getD m false=true
  ·exact(h w (Ext.rfl' w)).2 hall b hb hbl hbo
  ·obtain⟨m0,hm0,hu0⟩:∃m0,m0∈pre∧listed.getD m0 false=false:=by
    apply Classical.byContradiction
    intro hn
    refine hall fun m hm=> ?_
    cases h9:listed.getD m false with
    |true=>rfl
    |false=>exact absurd ⟨m,hm,h9⟩ hn
   have hm0i:=(ok.pres m0 hm0).2
   have hm0l:=(ok.pres m0 hm0).1
   intro W hW
   refine⟨fun h0=> ?_,fun j hj=> ?_⟩
   ·have:=Z8w ok.eld (listed:=listed.setIfInBounds i true) (by simpa using hs) h0 m0 (by omega)
    rw[getD_set_ne false (by omega),hu0] at this
    cases this
   ·obtain⟨hju,oj,hoj,hall2⟩:=Go.mem_ready.1 hj
    have hjlt:j<ops.size:=(Array.getElem?_eq_some_iff.1 hoj).1
    have hji:j≠i:=by
     rintro rfl
     simp[hs,hjlt] at hju
    have hjun:listed.getD j true=false:=by rwa [getD_set_ne true (Ne.symm hji)] at hju
    have hnw:¬i∈ahead oj:=by
     intro hw
     have h1:=Zfs hoj hj (ok.dep j oj hoj hw hji m0 hm0)
     rw[getD_set_ne false (by omega),hu0] at h1
     cases h1
    have hj2:j∈Region.ready .any ops listed:=by
     refine Go.mem_ready.2 ⟨hjun,oj,hoj,fun e he hbn=> ?_⟩
     have h1:=hall2 e he hbn
     rwa [getD_set_ne false (fun h=>hnw (by rw[h];exact ZfE he hbn))] at h1
    refine⟨fun _=> ?_,fun htj=> ?_⟩
    ·have h1:=(h W hW).1 j hj2 hji
     have hap:=ok.free j oj hoj hji hnw
     have h2:=Zfz (oi:=oi) (v:= .pointer (some ⟨b,0,none⟩)) hoj hap (fun cs b=>ok.sel j oj cs b hoj) h1
     rw[hd] at h2
     refine wpOp_mono (fun a' W' h'=> ?_) h2
     obtain⟨a'',rfl,hE,hF⟩:=h'
     refine⟨hE,?_⟩
     rw[←Array.setIfInBounds_comm _ _ hji]
     have hbW:b<W.heap.size:=hW.lt hbl
     refine ih (listed.setIfInBounds j true) a'' W' (subA A W W') (by simpa using hs) (by rw[getD_set_ne false hji];exact hl) ?_ hF b ⟨hb,fun h=>by omega⟩ (hE.lt hbW) (hE.get (hW.get hbo))
     have:=Zfu (ops:=ops) hs hjlt (by rw[←Zfv (by omega)];exact hjun)
     omega
    ·have h1:=List.all_eq_true.1 ok.sink j (List.mem_range.2 hjlt)
     rw[hoj] at h1
     simp only[Bool.or_eq_true,decide_eq_true_eq] at h1
     rcases h1 with h1|h1
     ·omega
     ·exact absurd (by simpa using h1) hnw
theorem ZfJ{oi:Oper}(ok:OkF ops t i pre oi)(hd:oi.dst=some d)(hg:oi.guard=none)(hal:∀(a:Act) W,(execOp a.eval oi).run P W= .ok (.value (.pointer (some ⟨W.heap.size,0,none⟩))) (W.alloc obj)):∀(n:Nat)(listed:Array Bool)(a:Act)(w:World)(A:Nat→Prop),listed.size=ops.size→listed.getD i false=false→ZfM ops listed≤n+1→
 (∀b,w.heap.size≤b→A b)→anyF P ops R t i d pre obj (n+1) listed a w A→anyE P ops R t (n+1) listed a w:=by
 have hilt:i<ops.size:=(Array.getElem?_eq_some_iff.1 ok.hi).1
 intro n
 induction n with
 |zero=>
  intro listed a w A hs hl hc hA h W hW
  refine⟨fun h0=> ?_,fun j hj=> ?_⟩
  ·rw[Z8w ok.eld hs h0 i hilt] at hl;cases hl
  ·obtain⟨hju,oj,hoj,hall2⟩:=Go.mem_ready.1 hj
   have hjlt:j<ops.size:=(Array.getElem?_eq_some_iff.1 hoj).1
   by_cases hji:j=i
   ·subst hji
    refine⟨fun _=> ?_,fun h=>absurd ok.lt (by omega)⟩
    unfold wpOp
    rw[ok.hi] at hoj
    cases hoj
    simp only[ok.hi,Region.wanted,hg,if_true]
    refine .inl ?_
    unfold Oper.wp
    rw[hal,Oper.upon_value,hd]
    refine⟨(Ext.rfl' W).alloc _,?_⟩
    exact Zft ok hd 0 listed a (W.alloc obj) A hs hl hc (h.mono (hW.alloc _) fun _ h=>h) W.heap.size (hA _ hW.size) (by rw[Z2];omega) ((Z3 _ _ _).trans (if_pos rfl))
   ·have:=ZfD (ops:=ops) (j:=j) (k:=i) hji hjlt hilt hs (by rw[←Zfv (by omega)];exact hju) hl
    omega
 |succ n ih=>
  intro listed a w A hs hl hc hA h W hW
  refine⟨fun h0=> ?_,fun j hj=> ?_⟩
  ·rw[Z8w ok.eld hs h0 i hilt] at hl;cases hl
  ·obtain⟨hju,oj,hoj,hall2⟩:=Go.mem_ready.1 hj
   have hjlt:j<ops.size:=(Array.getElem?_eq_some_iff.1 hoj).1
   by_cases hji:j=i
   ·subst hji
    refine⟨fun _=> ?_,fun h=>absurd ok.lt (by omega)⟩
    unfold wpOp
    rw[ok.hi] at hoj
    cases hoj
    simp only[ok.hi,Region.wanted,hg,if_true]
    refine .inl ?_
    unfold Oper.wp
    rw[hal,Oper.upon_value,hd]
    refine⟨(Ext.rfl' W).alloc _,?_⟩
    exact Zft ok hd (n+1) listed a (W.alloc obj) A hs hl hc (h.mono (hW.alloc _) fun _ h=>h) W.heap.size (hA _ hW.size) (by rw[Z2];omega) ((Z3 _ _ _).trans (if_pos rfl))
   ·refine⟨fun _=> ?_,fun htj=> ?_⟩
    ·refine wpOp_mono (fun a' W' h'=>⟨h'.1,ih (listed.setIfInBounds j true) a' W' (subA A W W') (by simpa using hs) (by rw[getD_set_ne false hji];exact hl) ?_ (fun b hb=>⟨hA b ?_,fun h=>by omega⟩) h'.2⟩) ((h W hW).1 j hj hji)
     ·have:=Zfu (ops:=ops) hs hjlt (by rw[←Zfv (by omega)];exact hju)
      omega
     ·have h1:=hW.size
      have h2:=h'.1.size
      omega
    ·have h1:=List.all_eq_true.1 ok.sink j (List.mem_range.2 hjlt)
     rw[hoj] at h1
     simp only[Bool.or_eq_true,decide_eq_true_eq] at h1
     rcases h1 with h1|h1
     ·omega
     ·have h2:=Zfs hoj hj (by simpa using h1)
      rw[h2] at hl
      cases hl
theorem ZfB{q:Nat}{oq oi:Oper}{v:Value}(hq:ops[q]? =some oq)(hoi:ops[i]? =some oi)(hd:oi.dst=some d)(hsel:∀(j:Nat)(o:Oper) cs b,ops[j]? =some o→o.op≠.select cs b)(hqi:q≠i)(hapi:oq.apart ops oi=true)(hg:ZfI ops t q=true)(hqt:q<t):
 ∀(n:Nat)(listed:Array Bool)(a:Act)(w:World)(A:Nat→Prop),
  (∀j oj,ops[j]? =some oj→j≠q→listed.getD j true=false→(∀e∈oj.after,Region.binds .any e=true→e.on≠q)→oq.apart ops oj=true)→
  q∈Region.ready .any ops listed→YE P ops w oq v a→anyF P ops R t i d pre obj n (listed.setIfInBounds q true) (a.put oq.dst v) w A→anyF P ops R t i d pre obj (n+1) listed a w A:=by
 intro n
 induction n with
 |zero=>intro _ _ _ _ _ _ _ h;exact h.elim
 |succ n ih=>
  intro listed a w A hfree hr hy H W hW
  have hup:∀{j:Nat},(∀k ok,ops[k]? =some ok→k≠q→(listed.setIfInBounds j true).getD k true=false→
   (∀e∈ok.after,Region.binds .any e=true→e.on≠q)→oq.apart ops ok=true):=fun{j} k ok hk hki hun hno=>by
   refine hfree k ok hk hki ?_ hno
   by_cases hjk:j=k
   ·subst hjk
    rcases Nat.lt_or_ge j listed.size with h'|h'
    ·simp[h'] at hun
    ·simp[Array.getElem?_eq_none h'] at hun
   ·rw[getD_set_ne true hjk] at hun;exact hun
  refine⟨fun j hj hji=> ?_,fun hall b hb hbl hbo=> ?_⟩
  ·by_cases hjq:j=q
   ·subst hjq
    exact hy.wpOp hq hW fun W' hW'=>⟨hW',H.mono (hW.trans hW') fun b hb=>hb.1⟩
   ·have h1:=(H W hW).1 j (Go.ready_mono hj hjq) hji
    obtain⟨hjun,oj,hoj,hall⟩:=Go.mem_ready.1 hj
    have hap:=hfree j oj hoj hjq hjun (ZeW (j:=j) (Go.mem_ready.1 hr).1 hall)
    refine wpOp_mono (fun a' w' h3=> ?_) (ZeV hoj hap (fun cs b=>hsel j oj cs b hoj) h1)
    obtain⟨⟨u,d,rfl⟩,h4,h5⟩:=h3
    refine⟨h4,ih (listed.setIfInBounds j true) _ w' _ hup (Go.ready_mono hr (Ne.symm hjq)) (YE.kept hap (fun cs b=>hsel q oq cs b hq) (hy.ext (hW.trans h4))) ?_⟩
    rw[Array.setIfInBounds_comm _ _ hjq]
    exact h5
  ·have h1:=(H W hW).2 (fun m hm=>getD_set_true (hall m hm)) b hb hbl hbo
   have h2:(a.put (some d) (.pointer (some ⟨b,0,none⟩)))=({a with defers:=a.defers}.put oi.dst (.pointer (some ⟨b,0,none⟩))):=by rw[hd]
   refine ZeR hq hsel hg hqt n _ _ W hup (Go.ready_mono hr hqi) (by rw[h2];exact YE.kept hapi (fun cs b=>hsel q oq cs b hq) (hy.ext hW)) ?_
   rw[Array.setIfInBounds_comm _ _ (Ne.symm hqi)]
   have h3:=Act.put_comm a (x:=oq.dst) (y:=oi.dst) v (.pointer (some ⟨b,0,none⟩)) (Oper.apart_spec hapi).2.1
   rw[hd] at h3
   rw[←h3]
   exact h1
def ZfF(ops:Array Oper)(k i:Nat):Bool:=k !=i&&match ops[k]?,ops[i]? with|some o,some oi=>o.apart ops oi|_,_=>false
def LXF(P:Program)(ops:Array Oper)(R:Exit→Act→World→Prop)(t i d:Nat)(pre:List Nat)(obj:Obj)(l:List Nat)(a:Act)(w:World)(A:Nat→Prop):Prop:=anyF P ops R t i d pre obj (ops.size - l.length) (mark ops.size l) a w A
variable {l:List Nat}
theorem ZfG{k:Nat}{o oi:Oper}{v:Value}{a:Act}{w:World}{A:Nat→Prop}(hs:okT ops t=true)(hoi:ops[i]? =some oi)(hd:oi.dst=some d)(hki:ZfF ops k i=true)(hi:ops[k]? =some o)(hf:ZeS ops t l k=true)(hy:YE P ops w o v a)(h:LXF P ops R t i d pre obj (k::l) (a.put o.dst v) w A):LXF P ops R t i d pre obj l a w A:=by
 unfold okT at hs
 unfold ZeS at hf
 simp only[Bool.and_eq_true,decide_eq_true_eq] at hf
 obtain⟨⟨⟨⟨h1,h2⟩,h3⟩,h4⟩,h5⟩:=hf
 unfold LXF at*
 rw[show ops.size - l.length=(ops.size - (k::l).length)+1 by simp only[List.length_cons];omega]
 unfold ZfF at hki
 rw[hi,hoi] at hki
 simp only[Bool.and_eq_true,bne_iff_ne] at hki
 exact ZfB hi hoi hd (Region.noSelect_spec hs) hki.1 hki.2 h5 h1 _ _ a w A (Region.free_spec hi h4) (by simpa using h3) hy h
theorem Zfr(k:Nat){o oi:Oper}{v:Value}{a:Act}{w:World}{A:Nat→Prop}{f:FuncId}{args:Array Value}(hs:(okT ops t&&ZfF ops k i)=true)(hoi:ops[i]? =some oi)(hd:oi.dst=some d)(hi:ops[k]? =some o)(hf:ZeS ops t l k=true)(hw:Region.wanted o (yielded ops a.tmps)=true)
 (hr:∀W,(execOp a.eval o).run P W= .ok (.enter f args) W)(hc:∀W,Ext w W→Calls P f args W fun e W'=>e= .returned v∧Ext W W')(h:LXF P ops R t i d pre obj (k::l) (a.put o.dst v) w A):LXF P ops R t i d pre obj l a w A:=by
 rw[Bool.and_eq_true] at hs
 exact ZfG hs.1 hoi hd hs.2 hi hf (.inl ⟨hw,fun W hW=>by unfold YV;rw[hr W];exact⟨Ext.rfl' W,hc W hW⟩⟩) h
theorem Zfj{o:List Oper}{oi:Oper}(ks:List Nat){a:Act}{w:World}{A:Nat→Prop}(hs:(okT o.toArray t&&ks.all fun k=>ZfF o.toArray k i)=true)(hoi:o.toArray[i]? =some oi)(hd:oi.dst=some d)(hp:ZeM o.toArray t ks l=true)(h:wpQuiet P o.toArray (fun w'=>∃p:Gr,w'=gr w p.d p.os) (fun a'=>LXF P o.toArray R t i d pre obj (doneL ks l) a' w A) (ZeD o ks) a):LXF P o.toArray R t i d pre obj l a w A:=by
 rw[Bool.and_eq_true] at hs
 exact Zfb (X:=fun l a=>LXF P o.toArray R t i d pre obj l a w A) (fun k=>ZfF o.toArray k i=true) (fun _ _ _ _ _ hB hi hf hy h=>ZfG hs.1 hoi hd hB hi hf hy h) ks l a (fun k hk=>List.all_eq_true.1 hs.2 k hk) hp h
theorem Zfk(k:Nat){o:Oper}{a:Act}{w:World}{A:Nat→Prop}(hi:ops[k]? =some o)(hb:(pre.contains k&&decide (l.length<ops.size)&&decide (k<ops.size)&& !(mark ops.size l).getD k true&&(Region.ready .any ops (mark ops.size l)).all fun j=>j==k||j==i)=true)(hw:Region.wanted o (yielded ops a.tmps)=true)
 (h:∀W,Ext w W→o.wp P a W (fun a' W'=>Ext W W'∧LXF P ops R t i d pre obj (k::l) a' W' (subA A W W')) FQ):LXF P ops R t i d pre obj l a w A:=by
 simp only[Bool.and_eq_true,decide_eq_true_eq,Bool.not_eq_true'] at hb
 obtain⟨⟨⟨⟨h1,h2⟩,h3⟩,h4⟩,h5⟩:=hb
 unfold LXF at*
 rw[show ops.size - l.length=(ops.size - (k::l).length)+1 by simp only[List.length_cons];omega]
 refine fun W hW=>⟨fun j hj hji=> ?_,fun hall=> ?_⟩
 ·have h6:=List.all_eq_true.1 h5 j hj
  obtain rfl:j=k:=by simpa[hji] using h6
  unfold wpOp
  simp only[hi,hw,if_true]
  exact .inl (h W hW)
 ·have h6:=hall k (by simpa using h1)
  rw[←Zfv (by rw[ZfC];exact h3),h4] at h6
  cases h6
theorem Zfq{a:Act}{w:World}{A:Nat→Prop}(hb:(decide (l.length<ops.size)&&(Region.ready .any ops (mark ops.size l)==[i]))=true)
 (h:∀W,Ext w W→∀b,A b→b<W.heap.size→W.heap[b]? =some obj→LX P ops R t (i::l) (a.put (some d) (.pointer (some ⟨b,0,none⟩))) W):LXF P ops R t i d pre obj l a w A:=by
 rw[Bool.and_eq_true,decide_eq_true_eq,beq_iff_eq] at hb
 unfold LXF LX at*
 rw[show ops.size - l.length=(ops.size - (i::l).length)+1 by simp only[List.length_cons];omega]
 refine fun W hW=>⟨fun j hj hji=> ?_,fun _ b hA hbl hbo=>h W hW b hA hbl hbo⟩
 rw[hb.2] at hj
 exact absurd (by simpa using hj) hji
theorem Zfn{id:Nat}{oi:Oper}{a:Act}{w:World}(t i d:Nat)(pre:List Nat)(obj:Obj)(hm:P.follows .mixedOrders=true)(hi:ops[i]? =some oi)(hok:okF ops t i pre=true)(hd:oi.dst=some d)(hg:oi.guard=none)
 (hal:∀(a:Act) W,(execOp a.eval oi).run P W= .ok (.value (.pointer (some ⟨W.heap.size,0,none⟩))) (W.alloc obj))(h:LXF P ops R t i d pre obj [] a w fun b=>w.heap.size≤b):(Code.region id ops true).wp P R a w:=by
 have hilt:i<ops.size:=(Array.getElem?_eq_some_iff.1 hi).1
 unfold LXF at h
 refine wp_region_any hm (wpAny_of_E (t:=t) _ _ _ _ ?_)
 obtain⟨n,hn⟩:∃n,ops.size=n+1:=⟨ops.size - 1,by omega⟩
 rw[List.length_nil,Nat.sub_zero,mark,hn] at h
 have h2:=ZfJ (R:=R) (ZfN hi hok) hd hg hal n (Array.replicate (n+1) false) a {w with drawn:=w.drawn+1} (fun b=>w.heap.size≤b) (by simp[hn]) (by simp only[Array.getD_eq_getD_getElem?,Array.getElem?_replicate];split<;>rfl) (by
  unfold ZfM
  have:=List.countP_le_length (p:=fun j=> !(Array.replicate (n+1) false).getD j false) (l:=List.range ops.size)
  simp at this⊢
  omega) (fun b hb=>hb) (h.mono (Ext.drew (Ext.rfl' w)) fun _ h=>h)
 rw[hn]
 exact h2
end
end Go.Nk
namespace Go.Proofs.Tryq
set_option maxRecDepth 100000
set_option maxHeartbeats 2000000
open Go Go.Nk Go.RowKit
theorem Z9v(at':Int)(w:World):Calls prog 104 #[.int .i64 at'] w fun e w'=>∃p,e= .returned (.func (.func 151) #[] #[.pointer (some ⟨p,0,none⟩)])∧Ext w w'∧w'.cell? ⟨p,0,none⟩=some (.int .i64 at'):=by
 refine(ZcS at' w).mono ?_
 rintro e w' ⟨rfl,rfl⟩
 refine⟨_,rfl,(Ext.rfl' w).alloc _,?_⟩
 rw[Z0 (by rw[Z3,if_pos rfl])]
 rfl
theorem firstV_all:∀{l:List Int},firstV l=0→∀x∈l,x=0
 |[],_,x,hx=>by cases hx
 |y::l,h,x,hx=>by
  have h0:=Z6t h
  rw[firstV,if_pos h0] at h
  rcases List.mem_cons.1 hx with rfl|hx
  ·exact h0
  ·exact firstV_all h x hx
theorem Z11{r0 r1 r2 r3:Int}{S:List Rs}{rs:List Int}(h:firstV (Zy r0 r1 r2 r3 S rs)=0):ZC r0 r1 r2 r3 S=0∧(∀r∈rs,r=0)∧ZdW S.length=0∧Z1r r0 r1 r2 r3 (S.map Ze)=0:=by
 have ha:=firstV_all h
 refine⟨ha _ (by simp[Zy]),fun r hr=>ha r (by simp[Zy,hr]),ha _ (by simp[Zy]),ha _ (by simp[Zy])⟩
theorem Z0N{a:Int}(h:Zv a=0):0≤a∧a≤90:=by
 unfold Zv okN at h
 split at h
 ·rename_i h1;simpa using h1
 ·omega
theorem Z2Z{n:Nat}(hn:n≤8):(0:Int)≤2 ^ n - 1∧(2:Int) ^ n - 1<256:=by
 obtain rfl|rfl|rfl|rfl|rfl|rfl|rfl|rfl|rfl:n=0∨n=1∨n=2∨n=3∨n=4∨n=5∨n=6∨n=7∨n=8:=by omega
 all_goals decide
theorem Z30(w:World)(cs:Array Value)(L:List Fn3)(B:Nat)(hB:w.heap.size=B)(hcs:cs=(L.map fn3).toArray):∀(j:Nat)(x:Fn3),L[j]? =some x→(w.alloc (.cells cs 127)).cell? ⟨B,j,none⟩=some (fn3 x):=by
 intro j x hj
 subst hB hcs
 rw[Z0 (by rw[Z3,if_pos rfl])]
 rw[List.getElem?_toArray,List.getElem?_map,hj]
 rfl
def Z4L(r0 r1 r2 r3:Int)(S:List Rs)(a:Int):Int×Int:=atF (cvS r0 r1 r2 r3 (S.map Ze)) (2 ^ S.length - 1) a.toNat S.length
def ZA(r0 r1 r2 r3:Int)(S:List Rs)(a:Int):Int:=firstV (Zy r0 r1 r2 r3 S [Zv a])
def Zw(r0 r1 r2 r3:Int)(S:List Rs)(a:Int):Int×Int:=if ZA r0 r1 r2 r3 S a=0 then Z4L r0 r1 r2 r3 S a else(0,0)
def Askd(r0 r1 r2 r3:Int)(base:Option Addr)(n cap:Nat)(S:List Rs)(rs:List Int)(k0 k1 k2 k3:Int)(b4:Option Addr)(n4 c4:Nat)(b5:Option Addr)(n5 c5:Nat)(w:World):Prop:=
 firstV (Zy r0 r1 r2 r3 S rs)=0→∃B p,k0=r0∧k1=r1∧k2=r2∧k3=r3∧b4=base∧n4=n∧c4=cap∧b5=some ⟨B,0,none⟩∧n5=n∧c5=n∧Cv w B n p (cvS r0 r1 r2 r3 (S.map Ze))
section
variable {r0 r1 r2 r3 k0 k1 k2 k3:Int} {base b4 b5:Option Addr} {n cap n4 c4 n5 c5:Nat} {S:List Rs} {rs:List Int} {w w':World}
theorem Askd.ext(h:Askd r0 r1 r2 r3 base n cap S rs k0 k1 k2 k3 b4 n4 c4 b5 n5 c5 w)(e:Ext w w'):Askd r0 r1 r2 r3 base n cap S rs k0 k1 k2 k3 b4 n4 c4 b5 n5 c5 w':=fun h0=>by
 obtain⟨B,p,a0,a1,a2,a3,a4,a5,a6,a7,a8,a9,hC⟩:=h h0
 exact⟨B,p,a0,a1,a2,a3,a4,a5,a6,a7,a8,a9,hC.ext e⟩
theorem Cv.stored{B m:Nat}{p:Nat→Nat}{C:Nat→Nat→Int×Int}(h:Cv w B m p C){b:Nat}(hb:w.heap[b]? =some (.cells #[.int .i64 0,.int .i64 0,.int .i64 0,.int .i64 0,.slice none 0 0,.slice none 0 0] 146))(e:ExtB b w w'):Cv w' B m p C:=by
 have hB:∀i,i<m→B≠b:=by
  rintro i hi rfl
  have:=h.ptr i hi
  rw[Z0 hb] at this
  match i,this with
  |0,this|1,this|2,this|3,this|4,this|5,this=>simp at this
  |i+6,this=>simp at this
 have hp:∀i,i<m→p i≠b:=by
  rintro i hi rfl
  have:=h.lo i 90 hi (by omega)
  rw[Z0 hb] at this
  simp at this
 exact⟨fun i hi=>e.cellS (hB i hi) (h.ptr i hi),fun i d hi hd=>e.cellS (hp i hi) (h.lo i d hi hd),fun i d hi hd=>e.cellS (hp i hi) (h.hi i d hi hd)⟩
theorem Askd.stored(h:Askd r0 r1 r2 r3 base n cap S rs k0 k1 k2 k3 b4 n4 c4 b5 n5 c5 w){b:Nat}(hb:w.heap[b]? =some (.cells #[.int .i64 0,.int .i64 0,.int .i64 0,.int .i64 0,.slice none 0 0,.slice none 0 0] 146))(e:ExtB b w w'):Askd r0 r1 r2 r3 base n cap S rs k0 k1 k2 k3 b4 n4 c4 b5 n5 c5 w':=fun h0=>by
 obtain⟨B,p,a0,a1,a2,a3,a4,a5,a6,a7,a8,a9,hC⟩:=h h0
 exact⟨B,p,a0,a1,a2,a3,a4,a5,a6,a7,a8,a9,hC.stored hb e⟩
end
theorem Z86(r0 r1 r2 r3:Int)(base:Option Addr)(n cap:Nat)(w:World)(at':Int)(S:List Rs)(hlen:S.length=n)(hS:RawS w base S)(hmo:Most w):
 Calls prog 45 #[.agg #[.int .i64 r0,.int .i64 r1,.int .i64 r2,.int .i64 r3,.slice base n cap],.int .i64 at'] w fun e w'=>e= .returned (.tuple #[.agg #[.int .i64 (Zw r0 r1 r2 r3 S at').1,.int .i64 (Zw r0 r1 r2 r3 S at').2],.int .i64 (ZA r0 r1 r2 r3 S at')])∧Ext w w':=by
 go_enter func45,ntmps45
 go_wp2
 have hE1:Ext w _:=((Ext.rfl' w).alloc (.cells #[.int .i64 r0,.int .i64 r1,.int .i64 r2,.int .i64 r3,.slice base n cap] 70)).alloc (.cells #[.int .i64 0,.int .i64 0] 48)
 have hb:((w.alloc (.cells #[.int .i64 r0,.int .i64 r1,.int .i64 r2,.int .i64 r3,.slice base n cap] 70)).alloc (.cells #[.int .i64 0,.int .i64 0] 48)).heap[w.heap.size]? =some (.cells #[.int .i64 r0,.int .i64 r1,.int .i64 r2,.int .i64 r3,.slice base n cap] 70):=by
  simp only[Z3,Z2];rw[if_neg (by omega),if_pos trivial]
 have hz:((w.alloc (.cells #[.int .i64 r0,.int .i64 r1,.int .i64 r2,.int .i64 r3,.slice base n cap] 70)).alloc (.cells #[.int .i64 0,.int .i64 0] 48)).heap[w.heap.size+1]? =some (.cells #[.int .i64 0,.int .i64 0] 48):=by
  simp only[Z3,Z2];rw[if_pos trivial]
 generalize World.alloc _ _=w1 at hE1 hb hz⊢
 have hX:=Ext.rfl' w1
 have q0:=Z0 hb 0;have q1:=Z0 hb 1;have q2:=Z0 hb 2;have q3:=Z0 hb 3;have q4:=Z0 hb 4
 simp only[List.getElem?_toArray,List.getElem?_cons_zero,List.getElem?_cons_succ] at q0 q1 q2 q3 q4
 have g0:=Zet q0;have g1:=Zet q1;have g2:=Zet q2;have g3:=Zet q3;have g4:=Zet q4
 refine Zfn 9 8 6 [0,1,2,3,4,5,6] (.cells #[.int .i64 0,.int .i64 0,.int .i64 0,.int .i64 0,.slice none 0 0,.slice none 0 0] 146) (by kernel_rfl) rfl (by kernel_rfl) rfl rfl (fun a W=>by simp[go_sem,execOp,Act.eval]) ?_
 refine Zfj [0,1] (by kernel_rfl) rfl rfl (by kernel_rfl) ?_
 simp only[ZeD,List.getElem?_cons_succ,List.getElem?_cons_zero,List.cons_append,List.nil_append]
 repeat (go_big_quiet_step (fail))
 refine wpQuiet_nil ?_
 refine Zfk 2 rfl (by kernel_rfl) rfl (fun W hW=>Zfo (f:=104) (args:= #[.int .i64 at']) (by simp[go_sem,execOp,Act.eval]) ?_)
 refine(Z9v at' W).mono ?_
 rintro e V0 ⟨p0,rfl,hF,hp0⟩
 refine⟨.func (.func 151) #[] #[.pointer (some ⟨p0,0,none⟩)],rfl,hF,?_⟩
 replace hX:=hX.trans (hW.trans hF)
 clear hF hW
 go_simp
 refine Zfk 3 rfl (by kernel_rfl) rfl (fun W hW=>Zf3 ⟨.slice (some ⟨W.heap.size,0,none⟩) 1 1,W.alloc (.cells #[.func (.func 151) #[] #[.pointer (some ⟨p0,0,none⟩)]] 127),by simp[go_sem,execOp,Act.eval],(Ext.rfl' W).alloc _,?_⟩)
 have hck:=Z30 W #[.func (.func 151) #[] #[.pointer (some ⟨p0,0,none⟩)]] [(151,#[],#[.pointer (some ⟨p0,0,none⟩)])] W.heap.size rfl rfl
 have hF:=(hW.alloc (.cells #[.func (.func 151) #[] #[.pointer (some ⟨p0,0,none⟩)]] 127))
 replace hX:=hX.trans hF
 replace hp0:=hF.cellS hp0
 clear hF hW
 generalize W.heap.size=B2 at hck⊢
 generalize World.alloc W _=V9 at*
 go_simp
 refine Zfk 4 rfl (by kernel_rfl) rfl (fun W hW=>Zfo (f:=103) (args:= #[.agg #[.int .i64 r0,.int .i64 r1,.int .i64 r2,.int .i64 r3,.slice base n cap],.slice (some ⟨B2,0,none⟩) 1 1]) (by simp[go_sem,execOp,Act.eval]) ?_)
 refine(Z4K r0 r1 r2 r3 base n cap W 1 B2 (by omega) [(151,#[],#[.pointer (some ⟨p0,0,none⟩)])] [Zv at'] rfl rfl (fun j x hj=>hW.cellS (hck j x hj)) (by intro x hx args w';simp only[List.mem_cons,List.not_mem_nil,or_false] at hx;rcases hx with rfl<;>simp[go_sem]) (by
       intro j x r hj hr w' hw'
       match j,hj,hr with
       |0,hj,hr=>
        obtain rfl:=Option.some.inj hj
        obtain rfl:=Option.some.inj hr
        exact Z3x p0 at' w' ((hW.trans hw').cellS hp0)) S hlen (hS.ext (hE1.trans (hX.trans hW))) (hmo.ext (hE1.trans (hX.trans hW)))).mono ?_
 rintro e V10 ⟨k0,k1,k2,k3,b4,n4,c4,b5,n5,c5,rfl,hF,hask0⟩
 refine⟨.tuple #[.agg #[.int .i64 k0,.int .i64 k1,.int .i64 k2,.int .i64 k3,.slice b4 n4 c4,.slice b5 n5 c5],.int .i64 (firstV (Zy r0 r1 r2 r3 S [Zv at']))],rfl,hF,?_⟩
 replace hX:=hX.trans (hW.trans hF)
 have hask:Askd r0 r1 r2 r3 base n cap S [Zv at'] k0 k1 k2 k3 b4 n4 c4 b5 n5 c5 V10:=fun h=>by obtain⟨B,p,h0,h1,h2,h3,h4,h5,h6,h7,h8,h9,hC,_⟩:=hask0 h;exact⟨B,p,h0,h1,h2,h3,h4,h5,h6,h7,h8,h9,hC⟩
 clear hF hW hask0 hck hp0
 go_simp
 refine Zfj [5,6,7] (by kernel_rfl) rfl rfl (by kernel_rfl) ?_
 simp only[ZeD,List.getElem?_cons_succ,List.getElem?_cons_zero,List.cons_append,List.nil_append]
 repeat (go_big_quiet_step (fail))
 refine wpQuiet_nil ?_
 refine Zfq (by kernel_rfl) (fun W hW b hA hbl hbo=> ?_)
 replace hX:=hX.trans hW
 replace hask:=hask.ext hW
 clear hW
 go_simp
 refine Zfp 2 (by kernel_rfl) (fun W hW=> ?_)
 simp only[List.drop_succ_cons,List.drop_zero]
 replace hX:=hX.trans hW
 replace hask:=hask.ext hW
 replace hbo:=hW.get hbo
 have hzW:=hX.get hz
 have hbw:w.heap.size≤b:=by have h1:=hA.1.1.1;have h2:=hE1.size;omega
 have hbn:b≠w.heap.size+1:=by have h1:=hA.1.1.1;have h2:=Z5 hz;omega
 have hEW:=hE1.trans hX
 clear hA hbl hW hX hE1 hb hz q0 q1 q2 q3 q4 g0 g1 g2 g3 g4
 have x0:=Z8 hbo 0;have x1:=Z8 hbo 1;have x2:=Z8 hbo 2;have x3:=Z8 hbo 3;have x4:=Z8 hbo 4;have x5:=Z8 hbo 5
 have y0:=Z0 hbo 0;have y1:=Z0 hbo 1;have y2:=Z0 hbo 2;have y3:=Z0 hbo 3;have y4:=Z0 hbo 4;have y5:=Z0 hbo 5
 simp only[List.getElem?_toArray,List.getElem?_cons_zero,List.getElem?_cons_succ] at y0 y1 y2 y3 y4 y5
 have hst:=Z0K hbo (.int .i64 k0) (.int .i64 k1) (.int .i64 k2) (.int .i64 k3) (.slice b4 n4 c4) (.slice b5 n5 c5)
 obtain⟨hX,hEX⟩:=hst
 replace hask:=hask.stored hbo hEX
 replace hEW:=hEX.before hEW hbw
 replace hzW:=hEX.get hbn.symm hzW
 go_wp2_with fail
 generalize ((((((W.setCell ⟨b,0,none⟩ (.int .i64 k0)).setCell ⟨b,1,none⟩ (.int .i64 k1)).setCell ⟨b,2,none⟩ (.int .i64 k2)).setCell ⟨b,3,none⟩ (.int .i64 k3)).setCell ⟨b,4,none⟩ (.slice b4 n4 c4)).setCell ⟨b,5,none⟩ (.slice b5 n5 c5))=X at hX hask hEW hzW hEX⊢
 clear hEX hbo hbw x0 x1 x2 x3 x4 x5 y0 y1 y2 y3 y4 y5
 refine Zfm ?_
 have u0:=Z0 hzW 0;have u1:=Z0 hzW 1;have v0:=Z8 hzW 0;have v1:=Z8 hzW 1
 simp only[List.getElem?_toArray,List.getElem?_cons_zero,List.getElem?_cons_succ] at u0 u1
 go_wp2_with fail
 ·have hne:(firstV (Zy r0 r1 r2 r3 S [Zv at']) !=0)=true:=by assumption
  have hm0:¬(ZA r0 r1 r2 r3 S at'=0):=by simpa[ZA] using hne
  refine bodyPost_ret (v:= .tuple #[.agg #[.int .i64 (Zw r0 r1 r2 r3 S at').1,.int .i64 (Zw r0 r1 r2 r3 S at').2],.int .i64 (ZA r0 r1 r2 r3 S at')]) ((Z01 rfl _ _ _).trans ?_) rfl ⟨rfl,(hEW.setCell _ _ (by simp)).setCell _ _ (by simp)⟩
  have hq:=Zc (set_pair hzW (.int .i64 0) (.int .i64 0))
  simp[go_sem,hq.1,hq.2.1,Zw,if_neg hm0]
  rfl
 ·have heq:(firstV (Zy r0 r1 r2 r3 S [Zv at']) !=0)=false:=by assumption
  have hm0:firstV (Zy r0 r1 r2 r3 S [Zv at'])=0:=by simpa using heq
  obtain⟨hcf,hrs,hnil,hag⟩:=Z11 hm0
  obtain⟨_,h8,_⟩:=Z0i hcf
  have hfar:=Z0N (hrs _ (List.mem_singleton.2 rfl))
  obtain⟨d,rfl⟩:=Int.eq_ofNat_of_zero_le hfar.1
  have hd90:d≤90:=by omega
  obtain⟨B,p',e0,e1,e2,e3,e4,e5,e6,e7,e8,e9,hC⟩:=hask hm0
  subst k0 k1 k2 k3 b4 n4 c4 b5 n5 c5
  have hn8:n≤8:=by omega
  have hev:=fun v w'=>Z08 r0 r1 r2 r3 base n cap v hn8 w'
  have hat:=fun w' hm' hC'=>Z2Y r0 r1 r2 r3 (.slice base n cap) B n d (2 ^ n - 1) p' (cvS r0 r1 r2 r3 (S.map Ze)) hn8 hd90 (Z2Z hn8) w' hm' hC'
  have HV:Hid (Zw r0 r1 r2 r3 S d=atF (cvS r0 r1 r2 r3 (S.map Ze)) (2 ^ n - 1) d n):=by
   show _=_
   rw[Zw,if_pos (show ZA r0 r1 r2 r3 S d=0 from hm0),Z4L,Int.toNat_natCast,hlen]
  have hm1:Hid (ZA r0 r1 r2 r3 S d=0):=hm0
  have hmW:=hmo.ext hEW
  clear hask hcf hrs hnil hag heq hm0
  generalize (2:Int) ^ n - 1=st at hev hat HV
  generalize atF (cvS r0 r1 r2 r3 (S.map Ze)) st d n=V at hat HV
  obtain⟨va,vb⟩:=V
  have x0:=Z0 hX 0;have x1:=Z0 hX 1;have x2:=Z0 hX 2;have x3:=Z0 hX 3;have x4:=Z0 hX 4;have x5:=Z0 hX 5
  simp only[List.getElem?_toArray,List.getElem?_cons_zero,List.getElem?_cons_succ] at x0 x1 x2 x3 x4 x5
  have c0:=Zet x0;have c1:=Zet x1;have c2:=Zet x2;have c3:=Zet x3;have c4:=Zet x4;have c5:=Zet x5
  refine ZeG 5 (by kernel_rfl) ?_
  refine ZeB [0,1,3] (by kernel_rfl) (by kernel_rfl) ?_
  simp only[ZeD,List.getElem?_cons_succ,List.getElem?_cons_zero,List.cons_append,List.nil_append]
  repeat (go_big_quiet_step (fail))
  refine wpQuiet_nil ?_
  refine ZeX 2 (f:=106) (args:= #[.agg #[.int .i64 r0,.int .i64 r1,.int .i64 r2,.int .i64 r3,.slice base n cap,.slice (some ⟨B,0,none⟩) n n]]) (v:= .int .i64 st) (by kernel_rfl) rfl (by kernel_rfl) rfl (fun W=>by simp[go_sem,execOp,Act.eval]) (fun W _=>hev _ W) ?_
  go_simp
  refine ZeX 4 (f:=105) (args:= #[.agg #[.int .i64 r0,.int .i64 r1,.int .i64 r2,.int .i64 r3,.slice base n cap,.slice (some ⟨B,0,none⟩) n n],.int .i64 st,.int .i64 d]) (v:= .agg #[.int .i64 va,.int .i64 vb]) (by kernel_rfl) rfl (by kernel_rfl) rfl (fun W=>by simp[go_sem,execOp,Act.eval]) (fun W hW=>hat W (hmW.ext hW) (hC.ext hW)) ?_
  go_simp
  refine Zfp 2 (by kernel_rfl) (fun W hW=> ?_)
  simp only[List.drop_succ_cons,List.drop_zero]
  replace hzW:=hW.get hzW
  have hEW2:=hEW.trans hW
  clear x0 x1 x2 x3 x4 x5 c0 c1 c2 c3 c4 c5 hX u0 u1 v0 v1 hC hmW hev hat hEW hW
  have u0:=Z0 hzW 0;have u1:=Z0 hzW 1;have v0:=Z8 hzW 0;have v1:=Z8 hzW 1
  simp only[List.getElem?_toArray,List.getElem?_cons_zero,List.getElem?_cons_succ] at u0 u1
  go_wp2_with fail
  refine Zfm ?_
  go_wp2_with fail
  refine bodyPost_ret (v:= .tuple #[.agg #[.int .i64 (Zw r0 r1 r2 r3 S d).1,.int .i64 (Zw r0 r1 r2 r3 S d).2],.int .i64 (ZA r0 r1 r2 r3 S d)]) ((Z01 rfl _ _ _).trans ?_) rfl ⟨rfl,(hEW2.setCell _ _ (by simp)).setCell _ _ (by simp)⟩
  have hq:=Zc (set_pair hzW (.int .i64 va) (.int .i64 vb))
  rw[HV.out,hm1.out]
  simp[go_sem,hq.1,hq.2.1]
end Go.Proofs.Tryq
namespace Go.Proofs.Tryq
open Go Go.Nk Go.RowKit
def Z87(m k:Int):Int:=if -99999≤m∧m≤99999∧0≤k∧k≤99999 then 0 else 1
theorem ZcY(b1 b2:Nat)(m k:Int)(w:World)(h1:w.cell? ⟨b1,0,none⟩=some (.int .i64 m))(h2:w.cell? ⟨b2,0,none⟩=some (.int .i64 k)):
 Calls prog 113 #[.pointer (some ⟨b1,0,none⟩),.pointer (some ⟨b2,0,none⟩)] w fun e w'=>e= .returned (.int .i64 (Z87 m k))∧Ext w w':=by
 go_enter func113,ntmps113
 go_wp2_with (first|(go_at_call 110;refine(Z09 _ _ _ _).mono ?_;rintro e w2 ⟨rfl,rfl⟩)|(go_at_call 109;refine(Z1a _ _ _).mono ?_;rintro e w2 ⟨rfl,rfl⟩))
 all_goals
  go_ret
  refine⟨Z10 ?_,Ext.rfl' _⟩
  simp only[Z87]
  simp_all
  try omega
def Z6v(a b:Int):Int:=if b<a then 7 else 0
theorem ZcZ(b1 b2:Nat)(m k:Int)(w:World)(h1:w.cell? ⟨b1,0,none⟩=some (.int .i64 m))(h2:w.cell? ⟨b2,0,none⟩=some (.int .i64 k)):
 Calls prog 112 #[.pointer (some ⟨b1,0,none⟩),.pointer (some ⟨b2,0,none⟩)] w fun e w'=>e= .returned (.int .i64 (Z6v m k))∧Ext w w':=by
 go_enter func112,ntmps112
 go_wp2_with (first|(go_at_call 109;refine(Z1a _ _ _).mono ?_;rintro e w2 ⟨rfl,rfl⟩))
 all_goals
  go_ret
  refine⟨Z10 ?_,Ext.rfl' _⟩
  simp only[Z6v]
  simp_all
  try omega
@[go_sem] theorem eq48 (a b c d:Int) (w:World):(Op.equalIn 10000 48 (.agg #[.int .i64 a,.int .i64 b]) (.agg #[.int .i64 c,.int .i64 d])).run prog w= .ok (a==c&&b==d) w:=by
  have u3:prog.underlying 3=some (.int .i64):=(underlying_eq 3).trans Tryz.underlying3
  have a3:=Tryz.isAgg3
  have z3:=Tryz.sizeOf3
  have hS:prog.underlying 48=some (.struct (prog.fieldsOf 48)):=by kernel_rfl
  have hp:prog.stoodInHeld 48=false:=by kernel_rfl
  rw[show(10000:Nat)=9999+1 from rfl,run_equalIn_agg w 9999 48 _ _ hS hp]
  simp only[Program.fieldsOf,underlying_eq,Tryz.underlying48]
  go_simp
  by_cases h1:a=c<;>by_cases h2:b=d<;>simp[h1,h2]
@[go_sem] theorem guard48 (op:BinOp) (p q:Operand) (xs ys:Array Value) (w:World):(eqGuard op 48 p q (.agg xs) (.agg ys)).run prog w= .ok () w:=run_eqGuard_agg w op 48 p q xs ys (by kernel_rfl)
def bl(x:Nat):List Nat:=(List.range 8).filter fun i=>x.testBit i
def e1(x:Int):Int:=IntKind.u64.wrap (bits .and .u64 (x / 2) 6148914691236517205+bits .and .u64 x 6148914691236517205)
def e2(x:Int):Int:=IntKind.u64.wrap (bits .and .u64 (x / 4) 3689348814741910323+bits .and .u64 x 3689348814741910323)
def e3(x:Int):Int:=bits .and .u64 (IntKind.u64.wrap (x / 16+x)) 1085102592571150095
def e4(d x:Int):Int:=IntKind.u64.wrap (x+x / d)
def e7(x:Int):Int:=bits .and .i64 (wrap64 x) 127
def Zd0(x:Int):Int:=e7 (e4 4294967296 (e4 65536 (e4 256 (e3 (e2 (e1 x))))))
theorem onesE_all:(List.range 256).all (fun k=>Zd0 (k:Int)==((bl k).length:Int))=true:=by kernel_rfl
theorem Zbj{k:Nat}(hk:k<256):Zd0 (k:Int)=((bl k).length:Int):=by
 have:=List.all_eq_true.1 onesE_all k (List.mem_range.2 hk)
 simpa using this
theorem Z88(k:Nat)(hk:k<256)(w:World):Calls prog 167 #[.int .u64 k] w fun e w'=>e= .returned (.int .i64 (bl k).length)∧w'=w:=by
 have hx0:(0:Int)≤(k:Int):=by omega
 have hE:=Zbj hk
 generalize (bl k).length=m at hE⊢
 generalize (k:Int)=x at hx0 hE⊢
 have H:Hid (Zd0 x=m):=hE
 clear hE
 go_enter func167,ntmps167
 go_wp2
 go_ret
 exact⟨Z10 H,rfl⟩
def dbP:Nat→Nat
 |0=>0
 |1=>1
 |2=>3
 |3=>7
 |4=>15
 |5=>31
 |6=>63
 |_=>62
def Deb(w:World):Prop:=∀i,i<8→w.cell? ⟨3,dbP i,none⟩=some (.int .u8 i)
theorem Deb.ext{w w':World}(h:Deb w)(e:Ext w w'):Deb w':=fun i hi=>e.cellS (h i hi)
def tz(k:Nat):Nat:=(bl k).headD 0
theorem tz_all:(List.range 256).all (fun k=>k==0||(decide (tz k<8)&&IntKind.u64.wrap (bits .and .u64 (k:Int) (IntKind.u64.wrap (-(k:Int)))*285870213051353865) / 288230376151711744==(dbP (tz k):Int)))=true:=by kernel_rfl
theorem tz_ok{k:Nat}(hk:k<256)(h0:0<k):tz k<8∧IntKind.u64.wrap (bits .and .u64 (k:Int) (IntKind.u64.wrap (-(k:Int)))*285870213051353865) / 288230376151711744=(dbP (tz k):Int):=by
 have:=List.all_eq_true.1 tz_all k (List.mem_range.2 hk)
 simp only[Bool.or_eq_true,Bool.and_eq_true,beq_iff_eq,decide_eq_true_eq] at this
 rcases this with h|h
 ·omega
 ·exact h
theorem dbP_lt:∀i,i<8→dbP i<64:=by decide
theorem ZdY(x q t:Int)(w:World)(hx:0≤x)(h5:(x==0)=false)(h3:w.cell? ⟨3,q.toNat,none⟩=some (.int .u8 t))(ht0:0≤t)(ht1:t<8)
 (h2:IntKind.u64.wrap (bits .and .u64 x (IntKind.u64.wrap (-x))*285870213051353865) / 288230376151711744=q)(hq0:0≤q)(hq1:q<64):Calls prog 189 #[.int .u64 x] w fun e w'=>e= .returned (.int .i64 t)∧w'=w:=by
 go_enter func189,ntmps189
 go_wp2
 go_ret
 exact⟨rfl,rfl⟩
theorem Zbk(k:Nat)(hk:k<256)(h0:0<k)(w:World)(hg:Deb w):Calls prog 189 #[.int .u64 k] w fun e w'=>e= .returned (.int .i64 (tz k))∧w'=w:=by
 obtain⟨h1,h2⟩:=tz_ok hk h0
 have h3:=hg _ h1
 have h4:=dbP_lt _ h1
 generalize dbP (tz k)=q at h2 h3 h4
 generalize tz k=t at h1 h3⊢
 exact ZdY k q t w (by omega) (by simp;omega) h3 (by omega) (by omega) h2 (by omega) (by omega)
theorem Z7k(k:Nat)(hk:k<256)(w:World):Calls prog 156 #[.int .u64 k] w fun e w'=>e= .returned (.int .i64 (bl k).length)∧w'=w:=by
 go_enter func156,ntmps156
 go_wp2_with (first|(go_at_call 167;refine(Z88 k hk _).mono ?_;rintro e w2 ⟨rfl,rfl⟩))
 go_ret
 exact⟨rfl,rfl⟩
theorem ZdZ(k:Nat)(hk:k<256)(h0:0<k)(w:World)(hg:Deb w):Calls prog 168 #[.int .u64 k] w fun e w'=>e= .returned (.int .i64 (tz k))∧w'=w:=by
 go_enter func168,ntmps168
 go_wp2_with (first|(go_at_call 189;refine(Zbk k hk h0 _ hg).mono ?_;rintro e w2 ⟨rfl,rfl⟩))
 go_ret
 exact⟨rfl,rfl⟩
def Z1g(x y:Int):Bool:=(bits .xor .i64 x y !=0)&&(bits .and .i64 x (bits .and .i64 (bits .xor .i64 x y) (wrap64 (-bits .xor .i64 x y))) !=0)
theorem Z89(x y:Int)(hx:0≤x∧x<256)(hy:0≤y∧y<256)(w:World):Calls prog 157 #[.int .i64 x,.int .i64 y] w fun e w'=>e= .returned (.bool (Z1g x y))∧w'=w:=by
 go_enter func157,ntmps157
 go_wp2
 all_goals go_ret
 all_goals
  refine⟨?_,rfl⟩
  rename_i h
  rw[show∀x y:Value,Ending.returned x=Ending.returned y↔x=y from fun x y=>by simp]
  simp[Z1g,h]
end Go.Proofs.Tryq
namespace Go.Proofs.Tryq
set_option maxRecDepth 100000
set_option maxHeartbeats 2000000
open Go Go.Nk Go.RowKit
def Meas(w:World):Prop:=∀i,i<6→w.cell? ⟨0,i,none⟩=some (.func (.func (211+i)) #[] #[])
theorem Meas.ext{w w':World}(h:Meas w)(e:Ext w w'):Meas w':=fun i hi=>e.cellS (h i hi)
theorem Z7l(w:World):(Instr.index 170 (.agg #[.func (.func 211) #[] #[],.func (.func 212) #[] #[],.func (.func 213) #[] #[],.func (.func 214) #[] #[],.func (.func 215) #[] #[],.func (.func 216) #[] #[]]) (.int .i64 0)).run prog w= .ok (.agg #[.func (.func 211) #[] #[],.func (.func 212) #[] #[]]) w:=by
 unfold Instr.index Go.part
 simp[go_sem,run_asAgg,asIntOf]
theorem Z7m(w:World):(Instr.index 170 (.agg #[.func (.func 211) #[] #[],.func (.func 212) #[] #[],.func (.func 213) #[] #[],.func (.func 214) #[] #[],.func (.func 215) #[] #[],.func (.func 216) #[] #[]]) (.int .i64 1)).run prog w= .ok (.agg #[.func (.func 213) #[] #[],.func (.func 214) #[] #[]]) w:=by
 unfold Instr.index Go.part
 simp[go_sem,run_asAgg,asIntOf]
theorem Z7n(w:World):(Instr.index 170 (.agg #[.func (.func 211) #[] #[],.func (.func 212) #[] #[],.func (.func 213) #[] #[],.func (.func 214) #[] #[],.func (.func 215) #[] #[],.func (.func 216) #[] #[]]) (.int .i64 2)).run prog w= .ok (.agg #[.func (.func 215) #[] #[],.func (.func 216) #[] #[]]) w:=by
 unfold Instr.index Go.part
 simp[go_sem,run_asAgg,asIntOf]
theorem Z7o(b off:Nat)(w:World):Calls prog 211 #[.pointer (some ⟨b,off,none⟩)] w fun e w'=>e= .returned (.pointer (some ⟨b,off+1,none⟩))∧w'=w:=by
 go_enter func211,ntmps211
 go_wp2
 go_ret
 exact⟨rfl,rfl⟩
theorem Z7p(b off:Nat)(w:World):Calls prog 213 #[.pointer (some ⟨b,off,none⟩)] w fun e w'=>e= .returned (.pointer (some ⟨b,off+3,none⟩))∧w'=w:=by
 go_enter func213,ntmps213
 go_wp2
 go_ret
 exact⟨rfl,rfl⟩
theorem Z7q(b off:Nat)(w:World):Calls prog 215 #[.pointer (some ⟨b,off,none⟩)] w fun e w'=>e= .returned (.pointer (some ⟨b,off+5,none⟩))∧w'=w:=by
 go_enter func215,ntmps215
 go_wp2
 go_ret
 exact⟨rfl,rfl⟩
theorem Z7r(a b c m:Int)(w:World):Calls prog 212 #[.agg #[.int .i64 a,.int .i64 b,.int .i64 c,.int .i64 m]] w fun e w'=>e= .returned (.int .i64 a)∧Ext w w':=by
 go_enter func212,ntmps212
 go_wp2
 go_ret
 exact⟨rfl,(Ext.rfl' w).alloc _⟩
theorem Z7s(a b c m:Int)(w:World):Calls prog 214 #[.agg #[.int .i64 a,.int .i64 b,.int .i64 c,.int .i64 m]] w fun e w'=>e= .returned (.int .i64 b)∧Ext w w':=by
 go_enter func214,ntmps214
 go_wp2
 go_ret
 exact⟨rfl,(Ext.rfl' w).alloc _⟩
theorem Z7t(a b c m:Int)(w:World):Calls prog 216 #[.agg #[.int .i64 a,.int .i64 b,.int .i64 c,.int .i64 m]] w fun e w'=>e= .returned (.int .i64 c)∧Ext w w':=by
 go_enter func216,ntmps216
 go_wp2
 go_ret
 exact⟨rfl,(Ext.rfl' w).alloc _⟩
def okA(n hi:Int):Bool:=decide (0≤n∧n≤hi)
def Z2J(a b c m:Int):Int:=if okA a 9999&&okA b 9999&&okA c 9999&&decide (2≤m∧m≤4) then 0 else 1
def alw(a b c:Int):Nat→Int
 |0=>a
 |1=>b
 |_=>c
theorem ZK{a b:Int}(h:a=b):Ending.returned (.int .i64 a)=Ending.returned (.int .i64 b):=by rw[h]
theorem Z9w(a b c m:Int)(base:Option Addr)(n cap:Nat)(w:World)(hM:Meas w):Calls prog 91 #[.agg #[.int .i64 a,.int .i64 b,.int .i64 c,.int .i64 m,.slice base n cap]] w fun e w'=>e= .returned (.int .i64 (Z2J a b c m))∧Ext w w':=by
 have g0:=hM 0 (by omega);have g1:=hM 1 (by omega);have g2:=hM 2 (by omega);have g3:=hM 3 (by omega);have g4:=hM 4 (by omega);have g5:=hM 5 (by omega)
 simp only[Nat.reduceAdd] at g0 g1 g2 g3 g4 g5
 have hl:0<w.heap.size:=by
  unfold World.cell? at g0
  split at g0
  ·rename_i hh;exact Z5 hh
  ·cases g0
 go_enter func91,ntmps91
 go_wp2
 go_loopw [6] (fun v wr=>∃i:Nat,i≤3∧v= .int .i64 i∧wr.heap[w.heap.size]? =some (.cells #[.int .i64 a,.int .i64 b,.int .i64 c,.int .i64 m,.slice base n cap] 120)∧Ext w wr∧∀j,j<i→okA (alw a b c j) 9999=true) (fun v _=>3 - (intOf v).toNat)
 case atStart=>exact⟨0,Nat.zero_le _,rfl,by rw[Z3,if_pos rfl],(Ext.rfl' w).alloc _,fun j hj=>by omega⟩
 case round=>
  obtain⟨i,hi,rfl,hr,hE,hz⟩:=hrel
  clear g0 g1 g2 g3 g4 g5 hM
  have q0:=Z0 hr 0;have q1:=Z0 hr 1;have q2:=Z0 hr 2;have q3:=Z0 hr 3;have q4:=Z0 hr 4
  simp only[List.getElem?_toArray,List.getElem?_cons_zero,List.getElem?_cons_succ] at q0 q1 q2 q3 q4
  by_cases hin:i=3
  ·subst hin
   have h0:=hz 0 (by omega)
   have h1:=hz 1 (by omega)
   have h2:=hz 2 (by omega)
   clear hz
   simp only[alw] at h0 h1 h2
   have H:Hid (Z2J a b c m=if decide (2≤m∧m≤4) then 0 else 1):=by show Z2J a b c m=_;simp only[Z2J,h0,h1,h2,Bool.true_and]
   clear h0 h1 h2
   go_wp2_with (first|(go_at_call 110;refine(Z09 _ _ _ _).mono ?_;rintro e w2 ⟨rfl,rfl⟩)|(go_at_call 109;refine(Z1a _ _ _).mono ?_;rintro e w2 ⟨rfl,rfl⟩))
   all_goals
    go_ret
    refine⟨?_,hE⟩
    rw[H]
    simp
    try omega
  ·have hlt:i<3:=by omega
   have hl2:w.heap.size<wr.heap.size:=Z5 hr
   obtain rfl|rfl|rfl:i=0∨i=1∨i=2:=by omega
   all_goals
    have hi0:=Z7l;have hi1:=Z7m;have hi2:=Z7n
    go_wp2_with (first
     |(go_at_call 212;refine(Z7r _ _ _ _ _).mono ?_;rintro e w2 ⟨rfl,hE2⟩)
     |(go_at_call 214;refine(Z7s _ _ _ _ _).mono ?_;rintro e w2 ⟨rfl,hE2⟩)
     |(go_at_call 216;refine(Z7t _ _ _ _ _).mono ?_;rintro e w2 ⟨rfl,hE2⟩)
     |(go_at_call 110;refine(Z09 _ _ _ _).mono ?_;rintro e w2 ⟨rfl,rfl⟩))
    all_goals have hE3:=(hE.alloc _).trans hE2
    all_goals have hr3:=hE2.get (((Ext.rfl' wr).alloc _).get hr)
    ·rename_i hb
     go_ret
     refine⟨ZK (a:=1) ?_,hE3⟩
     simp at hb
     rw[Z2J,if_neg]
     simp[okA]
     omega
    ·rename_i hb
     simp at hb
     have step:∀k:Nat,(∀j,j<k→okA (alw a b c j) 9999=true)→okA (alw a b c k) 9999=true→∀j,j<k+1→okA (alw a b c j) 9999=true:=by
      intro k h1 h2 j hj
      rcases Nat.lt_succ_iff_lt_or_eq.1 hj with h|rfl
      ·exact h1 j h
      ·exact h2
     first
      |exact⟨⟨1,by omega,rfl,hr3,hE3,step 0 hz (by simp only[okA,alw];simp;omega)⟩,by simp[intOf]⟩
      |exact⟨⟨2,by omega,rfl,hr3,hE3,step 1 hz (by simp only[okA,alw];simp;omega)⟩,by simp[intOf]⟩
      |exact⟨⟨3,by omega,rfl,hr3,hE3,step 2 hz (by simp only[okA,alw];simp;omega)⟩,by simp[intOf]⟩
end Go.Proofs.Tryq
namespace Go.Proofs.Tryq
set_option maxRecDepth 100000
set_option maxHeartbeats 1000000
open Go Go.Nk Go.RowKit
def Z8N(c:Int):Bool:=decide (97≤c∧c≤122)
def Ze0(c:Int):Bool:=decide (48≤c∧c≤57)
def ZM(c:UInt8):Bool:= !Z8N (c.toNat:Int)&& !Ze0 (c.toNat:Int)
theorem Z7u(c:UInt8)(w:World):Calls prog 160 #[.int .u8 c.toNat] w fun e w'=>e= .returned (.bool (ZM c))∧w'=w:=by
 have h0:(0:Int)≤(c.toNat:Int):=by omega
 have h1:(c.toNat:Int)<256:=by have:=c.toNat_lt;omega
 unfold ZM Z8N Ze0
 generalize (c.toNat:Int)=x at h0 h1⊢
 by_cases hl:97≤x∧x≤122
 ·have hd:decide (97≤x∧x≤122)=true:=decide_eq_true hl
  rw[hd]
  go_enter func160,ntmps160
  go_wp2_with (first|(go_at_call 110;refine(Z09 _ _ _ _).mono ?_;rintro e w2 ⟨rfl,rfl⟩))
  go_ret
  exact⟨rfl,rfl⟩
 ·have hd:decide (97≤x∧x≤122)=false:=decide_eq_false hl
  rw[hd]
  go_enter func160,ntmps160
  go_wp2_with (first|(go_at_call 110;refine(Z09 _ _ _ _).mono ?_;rintro e w2 ⟨rfl,rfl⟩))
  go_ret
  exact⟨by simp,rfl⟩
def ZdH(l:List UInt8):Int:=match l.findIdx? ZM with
 |some i=>(i:Int)
 |none=> -1
theorem Zd1(b n cap:Nat)(l:List UInt8)(w:World)(hlen:l.length=n)(hn:n≤12)(hc:∀i x,l[i]? =some x→w.cell? ⟨b,i,none⟩=some (.int .u8 x.toNat)):
 Calls prog 169 #[.slice (some ⟨b,0,none⟩) n cap,.func (.func 160) #[] #[]] w fun e w'=>e= .returned (.int .i64 (ZdH l))∧w'=w:=by
 go_enter func169,ntmps169
 go_wp2
 go_loop [8] (fun v=>∃i:Nat,i≤n∧v= .int .i64 i∧∀j x,j<i→l[j]? =some x→ZM x=false) (fun v=>n - (intOf v).toNat)
 case atStart=>exact⟨0,Nat.zero_le _,rfl,fun j x hj=>by omega⟩
 case round=>
  obtain⟨i,hi,rfl,hz⟩:=hrel
  by_cases hin:i=n
  ·subst hin
   go_wp2
   go_ret
   refine⟨ZK ?_,rfl⟩
   have:l.findIdx? ZM=none:=by
    rw[List.findIdx?_eq_none_iff]
    intro x hx
    obtain⟨j,hj,he⟩:=List.mem_iff_getElem.1 hx
    exact hz j x (by omega) (by rw[←he];exact List.getElem?_eq_getElem hj)
   rw[ZdH,this]
  ·obtain⟨x,hx⟩:∃x,l[i]? =some x:=⟨_,List.getElem?_eq_getElem (by omega)⟩
   have hci:=hc i x hx
   have hlt:(i:Int)<(n:Int):=by omega
   have H:Hid (l[i]? =some x):=hx
   clear hx hc
   cases hb:ZM x
   ·have h160:=fun w=>Z7u x w
    rw[hb] at h160
    go_wp2_with (first|(go_at_call 160;refine(h160 _).mono ?_;rintro e w2 ⟨rfl,rfl⟩))
    go_round
    case rel=>
     refine⟨i+1,by omega,by push_cast;rfl,fun j y hj hy=> ?_⟩
     rcases Nat.lt_succ_iff_lt_or_eq.1 hj with h|rfl
     ·exact hz j y h hy
     ·have:=H.out.symm.trans hy
      simp at this
      rw[←this];exact hb
    case measure=>simp[intOf];omega
   ·have h160:=fun w=>Z7u x w
    rw[hb] at h160
    go_wp2_with (first|(go_at_call 160;refine(h160 _).mono ?_;rintro e w2 ⟨rfl,rfl⟩))
    go_ret
    refine⟨ZK ?_,rfl⟩
    have:l.findIdx? ZM=some i:=by
     rw[List.findIdx?_eq_some_iff_getElem]
     obtain⟨hlt2,he⟩:=List.getElem?_eq_some_iff.1 H.out
     refine⟨hlt2,by rw[he];exact hb,fun j hj=> ?_⟩
     rw[hz j l[j] hj (List.getElem?_eq_getElem _)]
     simp
    rw[ZdH,this]
theorem Zbl(b n cap:Nat)(l:List UInt8)(w:World)(hlen:l.length=n)(hn:n≤12)(hc:∀i x,l[i]? =some x→w.cell? ⟨b,i,none⟩=some (.int .u8 x.toNat)):
 Calls prog 159 #[.slice (some ⟨b,0,none⟩) n cap,.func (.func 160) #[] #[]] w fun e w'=>e= .returned (.bool (l.any ZM))∧w'=w:=by
 have h1:=Zd1 b n cap l w hlen hn hc
 have h2:l.any ZM=decide (0≤ZdH l):=by
  unfold ZdH
  cases h:l.findIdx? ZM with
  |none=>
   rw[List.findIdx?_eq_none_iff] at h
   simp
   exact h
  |some i=>
   rw[List.findIdx?_eq_some_iff_getElem] at h
   obtain⟨h1,h2,_⟩:=h
   simp
   exact⟨_,List.getElem_mem h1,h2⟩
 rw[h2]
 generalize ZdH l=y at h1⊢
 go_enter func159,ntmps159
 go_wp2_with (first|(go_at_call 169;refine h1.mono ?_;rintro e w2 ⟨rfl,rfl⟩))
 go_ret
 exact⟨rfl,rfl⟩
def Z2d(s:ByteArray):Bool:=decide (1≤s.size∧s.size≤12)&&(match s.data.toList with|[]=>false|c::_=>Z8N (c.toNat:Int))&& !s.data.toList.any ZM
theorem Z5A(s:ByteArray)(h:0<s.size):(match s.data.toList with|[]=>false|c::_=>Z8N (c.toNat:Int))=Z8N ((s[0]).toNat:Int):=by
 have e:s.data.toList[0]? =some s[0]:=by
  rw[Array.getElem?_toList]
  exact Array.getElem?_eq_getElem h
 cases hl:s.data.toList with
 |nil=>rw[hl] at e;cases e
 |cons c t=>rw[hl] at e;simp at e;rw[e]
theorem u9:prog.underlying 9=some .string:=(underlying_eq 9).trans Tryz.underlying9
theorem u195:prog.underlying 195=some (.slice 5):=(underlying_eq 195).trans Tryz.underlying195
theorem u5:prog.underlying 5=some (.int .u8):=(underlying_eq 5).trans Tryz.underlying5
theorem Z9x(w:World)(e:TypeId)(s:ByteArray):Ext w (Lib.bytesWorld w e s):=
 ⟨by rw[Lib.bytesWorld_size];omega,fun b hb=>Lib.bytesWorld_at_old w e s b hb,by simp[Lib.bytesWorld,World.freeze,World.alloc,World.drew,-World.alloc_eq,-World.drew_eq],by simp[Lib.bytesWorld,World.freeze,World.alloc,World.drew,-World.alloc_eq,-World.drew_eq],by simp[Lib.bytesWorld,World.freeze,World.alloc,World.drew,-World.alloc_eq,-World.drew_eq]⟩
theorem Z8a(s:ByteArray)(w:World)(hs:s.size≤maxLen):Calls prog 138 #[.string s] w fun e w'=>e= .returned (.bool (Z2d s))∧Ext w w':=by
 unfold maxLen at hs
 by_cases hsz:1≤s.size∧s.size≤12
 ·have hpos:0<s.size:=by omega
  have hN:Z2d s=(Z8N (s[0].toNat:Int)&& !s.data.toList.any ZM):=by
   rw[Z2d,Z5A s hpos,decide_eq_true hsz,Bool.true_and]
  rw[hN]
  clear hN
  have hb0:(0:Int)≤(s[0].toNat:Int):=by omega
  have hb1:(s[0].toNat:Int)<256:=by have:=s[0].toNat_lt;omega
  have hs1:(1:Int)≤(s.size:Int):=by omega
  have hs2:(s.size:Int)≤12:=by omega
  have hcv:=fun w=>Lib.run_convert_string_bytes (P:=prog) w 9 195 5 s u9 u195 u5
  have hct:=fun(w:World) cap=>Zbl w.heap.size s.size cap s.data.toList (Lib.bytesWorld w 5 s) (by rw[Array.length_toList];rfl) hsz.2 (by
   intro i x hx
   have hi:=(List.getElem?_eq_some_iff.1 hx).1
   rw[Array.length_toList] at hi
   rw[Lib.bytesWorld_cell w 5 s i hi,List.getD_eq_getElem?_getD,hx]
   rfl)
  clear hsz
  generalize s.data.toList.any ZM=q at hct⊢
  have hbs:=fun w=>Z09 (s.size:Int) 1 12 w
  rw[decide_eq_true (show(1:Int)≤s.size∧(s.size:Int)≤12 from⟨hs1,hs2⟩)] at hbs
  have hbl:=fun w=>Z09 (s[0].toNat:Int) 97 122 w
  unfold Z8N
  cases hl:decide ((97:Int)≤(s[0].toNat:Int)∧(s[0].toNat:Int)≤122)
  all_goals
   rw[hl] at hbl
   clear hl hs1 hs2
   go_enter func138,ntmps138
   go_wp2_with (first
    |(go_at_call 110;(with_reducible refine(hbs _).mono ?_);rintro e w ⟨rfl,rfl⟩)
    |(go_at_call 110;(with_reducible refine(hbl _).mono ?_);rintro e w ⟨rfl,rfl⟩)
    |(go_at_call 159;refine(hct _ _).mono ?_;rintro e w2 ⟨rfl,rfl⟩))
   go_ret
   first
    |exact⟨rfl,Ext.rfl' _⟩
    |exact⟨by simp,Z9x _ _ _⟩
 ·have hN:Z2d s=false:=by rw[Z2d,decide_eq_false hsz];rfl
  rw[hN]
  have hd:decide (1≤(s.size:Int)∧(s.size:Int)≤12)=false:=decide_eq_false (by omega)
  have hbt:=fun w=>Z09 (s.size:Int) 1 12 w
  rw[hd] at hbt
  clear hN hd
  go_enter func138,ntmps138
  go_wp2_with (first
   |(go_at_call 110;refine(hbt _).mono ?_;rintro e w ⟨rfl,rfl⟩))
  go_ret
  exact⟨rfl,Ext.rfl' _⟩
end Go.Proofs.Tryq
section
namespace Go.Nk
open Go Go.MapKept
open Go.Maps (Keyed)
open Go.ChangeMaps (setBlock)
def MapAt(P:Program)(k:TypeId)(w:World)(b:Nat)(G:Value→Option Value):Prop:=
 ∃es clock,w.heap[b]? =some (.map es clock)∧(∀e∈es.toList,∃l,keyOf P k e.key=some l)∧es.toList.Pairwise (fun x y=>x.key≠y.key)∧(∀key v,G key=some v→∃e∈es.toList,e.key=key∧e.val=v)∧∀e∈es.toList,G e.key=some e.val
variable {P:Program} {k t e:TypeId} {w:World} {b:Nat} {G:Value→Option Value}
theorem MapAt.made(P:Program)(k:TypeId)(w:World):MapAt P k (w.alloc (.map #[] 0)) w.heap.size (fun _=>none):=
 ⟨#[],0,by have e:(w.alloc (.map #[] 0)).heap=w.heap.push (.map #[] 0):=rfl
           rw[e];simp,by simp,by simp,by simp,by simp⟩
theorem MapAt.lookup(h:MapAt P k w b G)(K:Keyed P k)(ht:P.underlying t=some (.map k e)){z:Value}(hz:(zeroValue e).run P w= .ok z w){key:Value}{kl:Lit}(hkey:keyOf P k key=some kl)(c:Bool):
 (Instr.lookup t (.map (some b)) key c).run P w= .ok (if c then .tuple #[(G key).getD z,.bool (G key).isSome] else(G key).getD z) w:=by
 obtain⟨es,clock,hb,hk,_,h1,h2⟩:=h
 rcases K.find w hkey es.toList hk with⟨hf,hne⟩|⟨j,e0,hf,hj,he⟩
 ·have hG:G key=none:=by
   cases hg:G key with
   |none=>rfl
   |some v=>
    obtain⟨x,hx,hxk,_⟩:=h1 key v hg
    exact absurd hxk (hne x hx)
  rw[hG]
  simp[Instr.lookup,run_underlying ht,MapKept.run_getObj_map hb,K.check w _ hkey,hf,hz,Result.andThen]
 ·have hG:G key=some e0.val:=by rw[←he];exact h2 e0 (List.mem_of_getElem? hj)
  rw[hG]
  simp[Instr.lookup,run_underlying ht,MapKept.run_getObj_map hb,K.check w _ hkey,hf,Result.andThen]
open Classical in
theorem MapAt.update(h:MapAt P k w b G)(K:Keyed P k)(ht:P.underlying t=some (.map k e)){key:Value}{kl:Lit}(hkey:keyOf P k key=some kl)(val:Value):
 ∃o,(Instr.mapUpdate t (.map (some b)) key val).run P w= .ok () (setBlock w b o)∧MapAt P k (setBlock w b o) b (fun x=>if x=key then some val else G x):=by
 obtain⟨es,clock,hb,hk,hp,h1,h2⟩:=h
 have hlt:b<w.heap.size:=(Array.getElem?_eq_some_iff.1 hb).1
 have hset:∀o:Obj,(setBlock w b o).heap[b]? =some o:=fun o=>by simp[setBlock,Array.getElem?_setIfInBounds,hlt]
 rcases K.find w hkey es.toList hk with⟨hf,hne⟩|⟨j,e0,hf,hj,he⟩
 ·refine⟨.map (es.push ⟨key,val,clock⟩) (clock+1),?_,es.push ⟨key,val,clock⟩,clock+1,hset _,?_,?_,?_,?_⟩
  ·simp[Instr.mapUpdate,run_underlying ht,MapKept.run_getObj_map hb,K.check w false hkey,hf,MapKept.run_setObj_map _ hb,Result.andThen,setBlock]
  ·intro x hx
   simp only[Array.toList_push,List.mem_append,List.mem_singleton] at hx
   rcases hx with hx|rfl
   ·exact hk x hx
   ·exact⟨_,hkey⟩
  ·rw[Array.toList_push,List.pairwise_append]
   exact⟨hp,by simp,fun x hx y hy=>by simp at hy;subst hy;exact hne x hx⟩
  ·intro key' v hg
   dsimp only at hg
   split at hg
   ·rename_i hk'
    cases hg
    exact⟨⟨key,val,clock⟩,by simp,hk'.symm,rfl⟩
   ·obtain⟨x,hx,hx1,hx2⟩:=h1 key' v hg
    exact⟨x,by simp;exact .inl (by simpa using hx),hx1,hx2⟩
  ·intro x hx
   simp only[Array.toList_push,List.mem_append,List.mem_singleton] at hx
   rcases hx with hx|rfl
   ·dsimp only;rw[if_neg (hne x hx)];exact h2 x hx
   ·dsimp only;rw[if_pos rfl]
 ·have hj':es[j]? =some e0:=by rw[←Array.getElem?_toList];exact hj
  have hjl:j<es.size:=(Array.getElem?_eq_some_iff.1 hj').1
  have hl:(es.modify j fun x=>{x with key:=key,val:=val}).toList=es.toList.set j {e0 with key:=key,val:=val}:=by
   apply List.ext_getElem?
   intro i
   rw[Array.getElem?_toList,Array.getElem?_modify,List.getElem?_set]
   by_cases hij:j=i
   ·subst hij
    rw[if_pos rfl,if_pos rfl,hj',if_pos (by simpa using hjl)]
    rfl
   ·rw[if_neg hij,if_neg hij,Array.getElem?_toList]
  have hmem:∀x∈es.toList.set j {e0 with key:=key,val:=val},x={e0 with key:=key,val:=val}∨(x∈es.toList∧x.key≠key):=by
   intro x hx
   obtain⟨i,hi,hxi⟩:=List.mem_iff_getElem.1 hx
   rw[List.getElem_set] at hxi
   split at hxi
   ·exact .inl hxi.symm
   ·rename_i hij
    simp only[List.length_set] at hi
    refine .inr ⟨by rw[←hxi];exact List.getElem_mem _,fun hk'=> ?_⟩
    have hjl':j<es.toList.length:=by simpa using hjl
    have hej:es.toList[j]=e0:=by
     have:=List.getElem?_eq_getElem hjl'
     rw[hj] at this
     exact(Option.some.inj this).symm
    rcases Nat.lt_or_ge i j with hlt'|hge
    ·exact(List.pairwise_iff_getElem.1 hp i j hi hjl' hlt') (by rw[hxi,hk',hej,he])
    ·exact(List.pairwise_iff_getElem.1 hp j i hjl' hi (by omega)) (by rw[hxi,hk',hej,he])
  refine⟨.map (es.modify j fun x=>{x with key:=key,val:=val}) clock,?_,_,clock,hset _,?_,?_,?_,?_⟩
  ·simp[Instr.mapUpdate,run_underlying ht,MapKept.run_getObj_map hb,K.check w false hkey,hf,MapKept.run_setObj_map _ hb,Result.andThen,setBlock,hj',he,K.stays w hkey]
  ·rw[hl]
   intro x hx
   rcases hmem x hx with rfl|⟨hx,_⟩
   ·exact⟨_,hkey⟩
   ·exact hk x hx
  ·rw[hl,List.pairwise_iff_getElem]
   intro i1 i2 hi1 hi2 hlt'
   simp only[List.length_set] at hi1 hi2
   have hjl':j<es.toList.length:=by simpa using hjl
   have hej:es.toList[j]=e0:=by
    have:=List.getElem?_eq_getElem hjl'
    rw[hj] at this
    exact(Option.some.inj this).symm
   rw[List.getElem_set,List.getElem_set]
   have hpp:=List.pairwise_iff_getElem.1 hp i1 i2 hi1 hi2 hlt'
   split
   ·rename_i h1'
    subst h1'
    rw[if_neg (by omega)]
    rw[hej,he] at hpp
    exact hpp
   ·split
    ·rename_i h2'
     subst h2'
     rw[hej,he] at hpp
     exact hpp
    ·exact hpp
  ·rw[hl]
   intro key' v hg
   dsimp only at hg
   split at hg
   ·rename_i hk'
    cases hg
    exact⟨{e0 with key:=key,val:=val},List.mem_iff_getElem?.2 ⟨j,by rw[List.getElem?_set];simp[hjl]⟩,hk'.symm,rfl⟩
   ·rename_i hk'
    obtain⟨x,hx,hx1,hx2⟩:=h1 key' v hg
    obtain⟨i,hi⟩:=List.mem_iff_getElem?.1 hx
    refine⟨x,List.mem_iff_getElem?.2 ⟨i,?_⟩,hx1,hx2⟩
    rw[List.getElem?_set,if_neg ?_]
    ·exact hi
    ·rintro rfl
     rw[hj] at hi
     cases hi
     exact hk' (hx1.symm.trans he)
  ·rw[hl]
   intro x hx
   rcases hmem x hx with rfl|⟨hx,hne⟩
   ·dsimp only;rw[if_pos rfl]
   ·dsimp only;rw[if_neg hne];exact h2 x hx
theorem MapAt.keep{w':World}(h:MapAt P k w b G)(e:w'.heap[b]? =w.heap[b]?):MapAt P k w' b G:=by
 obtain⟨es,clock,hb,h⟩:=h
 exact⟨es,clock,e.trans hb,h⟩
theorem MapAt.lt(h:MapAt P k w b G):b<w.heap.size:=by
 obtain⟨es,clock,hb,_⟩:=h
 exact(Array.getElem?_eq_some_iff.1 hb).1
end Go.Nk
namespace Go.Proofs.Tryq
open Go Go.Nk
theorem Ext.setBlock{w w':World}(h:Ext w w')(b:Nat)(o:Obj)(hb:w.heap.size≤b):Ext w (Go.ChangeMaps.setBlock w' b o):=
 ⟨by simp[Go.ChangeMaps.setBlock];exact h.size,fun c hc=>by simp only[Go.ChangeMaps.setBlock];rw[Array.getElem?_setIfInBounds_ne (by omega)];exact h.old c hc,h.tape,h.os,h.output⟩
theorem Z0O{w:World}{b c:Nat}(h:c≠b)(o:Obj):(Go.ChangeMaps.setBlock w b o).heap[c]? =w.heap[c]? :=by
 simp only[Go.ChangeMaps.setBlock];exact Array.getElem?_setIfInBounds_ne (fun e=>h e.symm)
theorem Z2s(w:World)(b:Nat)(o:Obj):(Go.ChangeMaps.setBlock w b o).heap.size=w.heap.size:=by simp[Go.ChangeMaps.setBlock]
theorem Z4M{w:World}{b:Nat}{a:Addr}(h:a.block≠b)(o:Obj):(Go.ChangeMaps.setBlock w b o).cell? a=w.cell? a:=by
 simp only[World.cell?,Z0O h]
end Go.Proofs.Tryq
end
