import Derived.Test.YtedkbdkbbnemlaaGreatDoorNk26
import Derived.LaidOnce
import Derived.SevenTiedAt
import Derived.Test.YtedkbdkbbnemlaaGreatDoorCards
import Derived.Test.YtedkbdkbbnemlaaGreatDoorTie
set_option linter.all false
namespace Go.Proofs.Tryq
set_option maxRecDepth 100000
open Go Go.Nk Go.RowKit Go.ChangeShapes Go.WideShapes Go.ChangeAt Go.Conc
attribute [local instance] theBan
theorem own:ownKnob Tryz.prog.godebug=none:=by kernel_rfl
theorem laidOut:laidOutB Tryz.prog=true:=by kernel_rfl
theorem Z7C(os:Os)(args:Array Value):laidMetH Tryz.prog laidL ((World.doorLaid Tryz.prog 400 os).forCall (fun _ _=>0) ⟨#[],args,[]⟩).memory:=
 laidMetH_of_parts3 (fuel:=8) (laidMet_of_run' 8 (by kernel_rfl) (by kernel_rfl)) (by kernel_rfl) (by kernel_rfl)
theorem Z3F(os:Os)(args:Array Value):((World.doorLaid Tryz.prog 400 os).forCall (fun _ _=>0) ⟨#[],args,[]⟩).Shaped Tryz.prog:=World.shaped_of_RefB (by kernel_rfl) (by kernel_rfl)
theorem rows4:((List.range 4).all fun g=>(((begin Tryz.prog (fun _ _=>0) default).world.heap[g]?).bind Obj.row?).isSome)=true:=by kernel_rfl
theorem Z8v{W:World}(h:W.ShapedOpen Tryz.prog):∀g,g<4→Z1s W g=true:=by
 intro g hg
 have h1:=List.all_eq_true.1 rows4 g (List.mem_range.2 hg)
 obtain⟨⟨zero,t⟩,hz⟩:=Option.isSome_iff_exists.1 h1
 obtain⟨cs,hc,_⟩:=h.1 g zero t (by rw[globals4];exact hg) hz
 exact Z9A.2 ⟨_,_,_,hc⟩
theorem Z4e{H:Type}{enc:TypeId×Value→H}{os:Os}{f:FuncId}{fn:Func}{tr:Tmp}{s:ChangeSpec}{ts:List TypeId}{n:Nat}(started:os.Started)(hk:f∈keptList)(hfn:Tryz.prog.funcs[f]? =some fn)(hsame:fs[f]? =Tryz.prog.funcs[f]?)(hent:Zej f=true)(hr:fn.results= #[.tmp tr])(hi:Tryz.prog.inits.idxOf? f=none)
 (hts:fn.params.toList=ts)(hn:ts.length=n)(hv:s.vars=[])(hrt:fn.resultTypes= #[4])(hs:∀ds:List (DataW H),ds.length=n→s.fn H ds={results:=[.lit (.bool true)],args:=ds})
 (hread:(ts.all fun t=>Tryz.prog.readableRec t&&decide (t<Tryz.prog.types.size))=true)
 (witness:∃(w:World)(tape:Tape)(i:Input),w.os=os∧(w.forCall tape i).Shaped Tryz.prog∧i.vars=[]∧Input.okWide Tryz.prog (w.forCall tape i) .any w.heap.size f i∧
   ((s.pre enc Tryz.prog fn [] false (w.forCall tape i).memory i.args∧laidMetH Tryz.prog laidL (w.forCall tape i).memory)∧sizedMet enc Tryz.prog fn (OpenSpec.ofChange s) false (w.forCall tape i).memory i.args)∧({}:Assume).holds Tryz.prog (lone (Frame.enter Tryz.prog f i.args .normal) [] (w.forCall tape i)))
 (walk:∀(W:World)(base:Nat)(args:Array Value)(ds:List (DataW H))(p:List MemPlace),(∀(j:Nat) t v,fn.params[j]? =some t→args[j]? =some v→Value.okWide Tryz.prog W .any base t v)→DataW.TrodAll enc Tryz.prog W 0 (fun _=>true) true ts args.toList ds p→
   Meas (Zx W)→Most (Zx W)→Deb (Zx W)→AR id (Nk.Live (Zx W)) args args∧∀t,Calls prog f args (retape t (Zx W)) fun e _=>e= .returned (.bool true)):
 ReturnsInLeavingWide {} Tryz.checked os f .any (fun w args=>(s.pre enc Tryz.prog fn [] false w args∧laidMetH Tryz.prog laidL w)∧sizedMet enc Tryz.prog fn (OpenSpec.ofChange s) false w args) (s.post enc Tryz.prog fn false true false false):=by
 refine Z3E (C:=Tryz.checked) own started hfn witness ?_
 intro W base args ds gs before hsh hval hW hL
 have hW':=hW
 obtain⟨p,q,hA0,hV,rfl,_,_⟩:=hW
 rw[hv] at hV
 obtain⟨rfl,rfl⟩:=trodVars_none hV
 have hA:DataW.TrodAll enc Tryz.prog W 0 (fun _=>true) true ts args.toList ds p:=by rw[←hts];exact hA0
 obtain⟨har,hcalls⟩:=walk W base args ds p hval hA (Za5 (Z5D hL)) (Za6 (Z5C hL)) (ZbN (Z6y hL))
 have hrow:=Z8v hsh
 have h4:4≤W.heap.size:=by
  obtain⟨_,_,_,h⟩:=Z9A.1 (hrow 3 (by omega))
  exact(Array.getElem?_eq_some_iff.1 h).1
 obtain⟨M,last,o,w',t',h1,h2,h3,h5⟩:=ZbO hk hfn hsame hent hr hi hrow h4 har hcalls
 refine⟨M,last,o,w',t',h1,h2,h3,h5.mono fun v hp=> ?_⟩
 obtain⟨rfl,hb⟩:=hp
 have hlt:∀x∈p++[],x.block<W.heap.size:=fun x hx=>hW'.lt x hx
 simp only[List.append_nil] at hlt
 have hdl:ds.length=n:=by
  rw[←hn]
  have key:∀{ts:List TypeId}{vs:List Value}{ds:List (DataW H)}{p:List MemPlace},DataW.TrodAll enc Tryz.prog W 0 (fun _=>true) true ts vs ds p→ds.length=ts.length:=by
   intro ts
   induction ts with
   |nil=>intro vs ds p h;cases vs<;>cases ds<;>first|rfl|exact h.elim
   |cons t ts ih=>
    intro vs ds p h
    cases vs<;>cases ds<;>first|exact h.elim|skip
    obtain⟨_,_,_,h2,_⟩:=h
    simp[ih h2]
  exact key hA
 refine⟨ds,[],p++[],[],p,[],hW',?_,?_,?_,hb.frame _,fun h=>by cases h⟩
 ·rw[List.append_nil,hs ds hdl,hrt]
  exact trodAll_mk1 (shut_bool under4 true)
 ·rw[List.append_nil,hs ds hdl]
  have:=Z4X laidOut hb hread hA hlt
  rw[←hts] at this
  exact this
 ·rw[List.append_nil,hs ds hdl,hv]
  rfl
theorem Zac(Lk:Looks){p:Pinned}{s:OpenSpec}{c:OpenClaim}(kinds:List LaidKind)(tests:Bool)(har:Bool×String)(lk:Bool)
 (hc:c.holds p s)(hw:c.wfByText s=true)(htie:c.laidByTextAt Lk p kinds tests)
 (hst:c.start= .entering)(hnb:c.noBlocks=false∧c.again=false)(hm:p.checked.prog.mainIs=some (har.1,har.2.toList))(hn:(!har.1&&har.2.isEmpty&& !lk)=false)
 (hl:∀f fn,p.checked.prog.funcNamed c.func=some f→p.checked.prog.funcs[f]? =some fn→lk=p.checked.prog.looks []∧∀(j:Nat) t,fn.params[j]? =some t→p.checked.prog.wantsStandIn t=false)
 (hg:true=c.goesBy p.checked.prog):
 Claim7.holds p (.plain s) {stood:={row:=c,standIns:=[],harness:=har,looks:=lk},kinds:=[],alts:=[],goes:=true,laidByText:=true,laidKinds:=kinds,laidTests:=tests,laidLooks:=Lk}:=by
 have h6:∀r:OpenClaim,Claim7.isSixth {stood:={row:=r,standIns:=[],harness:=har,looks:=lk},kinds:=[]}=false:=fun r=>by simpa[Claim7.isSixth] using hn
 exact⟨Claim7.tied_new_at Lk kinds tests (Claim7.new_of_sixth hc har lk hst hnb hm (h6 c) hl) hw,(fun D hD=>by cases hD),htie,(fun h=>by cases h),hg⟩
end Go.Proofs.Tryq
namespace Go.Proofs.Tryq
set_option maxRecDepth 100000
set_option maxHeartbeats 2000000
open Go Go.Nk Go.RowKit
theorem Z70(s:ByteArray)(w:World)(hs:s.size≤maxLen):Calls prog 94 #[.string s] w fun e w'=>e= .returned (.bool (Z2d s))∧w'=w:=by
 unfold maxLen at hs
 by_cases hsz:1≤s.size∧s.size≤12
 ·have hpos:0<s.size:=by omega
  have hN:Z2d s=(Z8N (s[0].toNat:Int)&& !s.data.toList.any ZM):=by
   rw[Z2d,Z5A s hpos,decide_eq_true hsz,Bool.true_and]
  rw[hN]
  clear hN
  have hb0:(0:Int)≤(s[0].toNat:Int):=by omega
  have hb1:(s[0].toNat:Int)<256:=by have:=s[0].toNat_lt;omega
  have hs1:(1:Int)≤(s.size:Int):=by omega
  have hs2:(s.size:Int)≤12:=by omega
  clear hsz
  have hbs:=fun w=>Z4r (s.size:Int) 1 12 w
  rw[decide_eq_true (show(1:Int)≤s.size∧(s.size:Int)≤12 from⟨hs1,hs2⟩)] at hbs
  have hbl:=fun w=>Z4s s[0] w
  cases hl:Z8N (s[0].toNat:Int) with
  |false=>
   rw[hl] at hbl
   clear hl hs1 hs2
   go_enter func94,ntmps94
   go_wp2_with (first
    |(go_at_call 93;(with_reducible refine(hbs _).mono ?_);rintro e w ⟨rfl,rfl⟩)
    |(go_at_call 139;(with_reducible refine(hbl _).mono ?_);rintro e w ⟨rfl,rfl⟩))
   go_ret
   exact⟨rfl,rfl⟩
  |true=>
   rw[hl] at hbl
   rw[Bool.true_and]
   clear hl
   have H:Hid ((s.data.toList.drop 0).any ZM=s.data.toList.any ZM):=rfl
   go_enter func94,ntmps94
   go_wp2_with (first
    |(go_at_call 93;(with_reducible refine(hbs _).mono ?_);rintro e w ⟨rfl,rfl⟩)
    |(go_at_call 139;(with_reducible refine(hbl _).mono ?_);rintro e w ⟨rfl,rfl⟩))
   go_loopw [3] (fun v wr=>∃i:Nat,i≤s.size∧v= .int .i64 i∧wr=w∧Hid ((s.data.toList.drop i).any ZM=s.data.toList.any ZM)) (fun v _=>s.size - (intOf v).toNat)
   case atStart=>exact⟨0,Nat.zero_le _,rfl,rfl,H⟩
   case round=>
    obtain⟨i,hi,rfl,rfl,hH⟩:=hrel
    clear H hbl hbs
    by_cases hin:i=s.size
    ·have hz:s.data.toList.any ZM=false:=by
      rw[←hH.out,List.drop_of_length_le (by rw[Array.length_toList];exact Nat.le_of_eq hin.symm)];rfl
     clear hH
     have hin2:(i:Int)=(s.size:Int):=by omega
     go_wp2
     go_ret
     exact⟨ZP (a:=true) (by rw[hz];rfl),rfl⟩
    ·have hlt:i<s.size:=by omega
     have hx:s.data.toList[i]? =some s[i]:=by rw[Array.getElem?_toList];exact Array.getElem?_eq_getElem hlt
     have hst:Hid (s.data.toList.any ZM=(ZM s[i]||(s.data.toList.drop (i+1)).any ZM)):=by show _=_;rw[←hH.out,Z0b hx,List.any_cons]
     clear hH
     have hbl:=fun w=>Z4s s[i] w
     have hbd:=fun w=>ZaO s[i] w
     have hi0:(0:Int)≤(i:Int):=by omega
     have hiL:(i:Int)<(s.size:Int):=by omega
     have go_on:∀{v:Nat→Nat},ZM s[i]=false→Hid ((s.data.toList.drop (i+1)).any ZM=s.data.toList.any ZM):=fun hb=>by show _=_;rw[hst.out,hb,Bool.false_or]
     have hbad:ZM s[i]=(!Z8N (s[i].toNat:Int)&& !Ze0 (s[i].toNat:Int)):=rfl
     cases h1:Z8N (s[i].toNat:Int) with
     |true=>
      rw[h1] at hbl hbad
      have hg:=go_on (v:=id) hbad
      clear h1 go_on hbad hst
      go_wp2_with (first
       |(go_at_call 139;(with_reducible refine(hbl _).mono ?_);rintro e w ⟨rfl,rfl⟩))
      exact⟨⟨i+1,by omega,by push_cast;rfl,trivial,hg⟩,by simp[intOf];omega⟩
     |false=>
      rw[h1] at hbl hbad
      cases h2:Ze0 (s[i].toNat:Int) with
      |true=>
       rw[h2] at hbd hbad
       have hg:=go_on (v:=id) hbad
       clear h1 h2 go_on hbad hst
       go_wp2_with (first
        |(go_at_call 139;(with_reducible refine(hbl _).mono ?_);rintro e w ⟨rfl,rfl⟩)
        |(go_at_call 140;(with_reducible refine(hbd _).mono ?_);rintro e w ⟨rfl,rfl⟩))
       exact⟨⟨i+1,by omega,by push_cast;rfl,trivial,hg⟩,by simp[intOf];omega⟩
      |false=>
       rw[h2] at hbd hbad
       have hz:s.data.toList.any ZM=true:=by rw[hst.out,hbad];rfl
       clear h1 h2 go_on hbad hst
       go_wp2_with (first
        |(go_at_call 139;(with_reducible refine(hbl _).mono ?_);rintro e w ⟨rfl,rfl⟩)
        |(go_at_call 140;(with_reducible refine(hbd _).mono ?_);rintro e w ⟨rfl,rfl⟩))
       go_ret
       exact⟨ZP (a:=false) (by rw[hz];rfl),rfl⟩
 ·have hN:Z2d s=false:=by rw[Z2d,decide_eq_false hsz];rfl
  rw[hN]
  have hd:decide (1≤(s.size:Int)∧(s.size:Int)≤12)=false:=decide_eq_false (by omega)
  have hbt:=fun w=>Z4r (s.size:Int) 1 12 w
  rw[hd] at hbt
  clear hN hd
  go_enter func94,ntmps94
  go_wp2_with (first
   |(go_at_call 93;refine(hbt _).mono ?_;rintro e w ⟨rfl,rfl⟩))
  go_ret
  exact⟨rfl,rfl⟩
theorem Z5a(n:Nat)(bl:Option Addr)(k cl:Nat)(l:List Int)(w:World)(hn:n≤1000000)(hk:l.length=k)(hk2:k≤1000000)(hl:RawI w bl l):
 Calls prog 40 #[.slice bl k cl,.int .i64 n] w fun e w'=>e= .returned (.int .i64 (Zq n l))∧Ext w w':=by
 have hn1:wrap64 ((n:Int) - 1)=(n:Int) - 1:=by unfold wrap64;omega
 have H:Hid (Zq n l=Z1k n (Z12 l 0) (l.drop 0)):=rfl
 go_enter func40,ntmps40
 go_wp2
 go_loopw [5] (fun v wr=>∃i:Nat,i≤k∧v= .int .i64 i∧Ext w wr∧Hid (Zq n l=Z1k n (Z12 l i) (l.drop i))) (fun v _=>k - (intOf v).toNat)
 case atStart=>exact⟨0,Nat.zero_le _,rfl,Ext.rfl' w,H⟩
 case round=>
  obtain⟨i,hi,rfl,hE,hH⟩:=hrel
  clear H
  by_cases hin:i=k
  ·subst hin
   have hz:Hid (Zq n l=0):=by show Zq n l=0;rw[hH.out,←hk,List.drop_length];rfl
   go_wp2
   go_ret
   exact⟨ZK (a:=0) hz.out.symm,hE⟩
  ·have hlt:i<k:=by omega
   obtain⟨x,hx⟩:∃x,l[i]? =some x:=⟨_,List.getElem?_eq_getElem (by omega)⟩
   have hst:Hid (Zq n l=if¬(0≤x∧x≤(n:Int) - 1) then 6 else if(match Z12 l i with|some y=>decide (x≤y)|none=>false) then 7 else Z1k n (Z12 l (i+1)) (l.drop (i+1))):=by
    show Zq n l=_
    rw[hH.out,Z0b hx]
    have e1:Z12 l (i+1)=some x:=hx
    rw[e1]
    conv=>lhs;unfold Z1k
    rfl
   have hl2:=hl.ext hE
   obtain⟨b',off,rfl,hb,hc⟩:=hl2 i x hx
   have hbt:=fun w=>Z4r x 0 ((n:Int) - 1) w
   cases hbx:decide (0≤x∧x≤(n:Int) - 1)
   ·rw[hbx] at hbt
    have hres:Hid (Zq n l=6):=by show Zq n l=6;rw[hst.out,if_pos (of_decide_eq_false hbx)]
    clear hst hH hx hbx
    go_wp2_with (first|(go_at_call 93;refine(hbt _).mono ?_;rintro e wr ⟨rfl,rfl⟩))
    go_ret
    exact⟨ZK (a:=6) hres.out.symm,hE⟩
   ·rw[hbx] at hbt
    have hres:Hid (Zq n l=if(match Z12 l i with|some y=>decide (x≤y)|none=>false) then 7 else Z1k n (Z12 l (i+1)) (l.drop (i+1))):=by show Zq n l=_;rw[hst.out,if_neg (by simpa using of_decide_eq_true hbx)]
    clear hst hH hbx
    cases i with
    |zero=>
     have hres2:Hid (Zq n l=Z1k n (Z12 l (0+1)) (l.drop (0+1))):=by show Zq n l=_;rw[hres.out];simp[Z12]
     clear hx hres
     replace hc:wr.cell? ⟨b',off,none⟩=some (.int .i64 x):=hc
     go_wp2_with (first|(go_at_call 93;refine(hbt _).mono ?_;rintro e wr ⟨rfl,rfl⟩))
     refine Z03 (by kernel_rfl) (by kernel_rfl) (RI 34 [some 20,some 21,some 22,some 23,some 24,some 25,some 26,some 27,some 28,some 29,some 30,some 31,some 32,some 33] [some (.int .i64 0),some (.bool false),some (.bool false),none,none,none,none,none,none,none,none,none,none,some (.bool false)] _ (Sxs wr [])) (RI.start rfl rfl (Sxs.start wr _ _)) (AllIx.arr ⟨?_,?_,?_,?_,?_,?_,?_,?_,?_,?_,?_,?_,?_,?_,trivial⟩) ?_
     ·intro ℓ aq W hl hp h
      have e5:aq.tmps.getD 5 undef= .int .i64 0:=h.at_out 5 rfl
      exact h.dg (hg:=Z4 rfl) (r:=by simp[go_sem,execOp,Act.eval,e5]) (m:=h.mem.k)
     ·intro ℓ aq W hl hp h
      have e20:=h.v hp 0 20
      exact h.dg (hg:=Z4 rfl) (r:=by simp[go_sem,execOp,Act.eval,e20]) (m:=h.mem.k)
     ·intro ℓ aq W hl hp h
      have e21:=h.v hp 1 21
      exact h.dg (hg:=Z4 rfl) (r:=by simp[go_sem,execOp,Act.eval,e21]) (m:=h.mem.k)
     ·intro ℓ aq W hl hp h
      have e0:aq.tmps.getD 0 undef= .slice (some ⟨b',off,none⟩) k cl:=h.at_out 0 rfl
      exact h.skipG rfl (Z0t rfl rfl rfl h.size (by decide) (h.v hp 2 22)) rfl (by decide) rfl (by decide) (fun v' hv=>by simp at hv) (h.mem.keep (Ext.rfl' _) rfl)
     ·intro ℓ aq W hl hp h
      have e5:aq.tmps.getD 5 undef= .int .i64 0:=h.at_out 5 rfl
      exact h.skipG rfl (Z0t rfl rfl rfl h.size (by decide) (h.v hp 2 22)) rfl (by decide) rfl (by decide) (fun v' hv=>by simp at hv) (h.mem.keep (Ext.rfl' _) rfl)
     ·intro ℓ aq W hl hp h
      exact h.skipG rfl (Z0t rfl rfl rfl h.size (by decide) (h.v hp 2 22)) rfl (by decide) rfl (by decide) (fun v' hv=>by simp at hv) (h.mem.keep (Ext.rfl' _) rfl)
     ·intro ℓ aq W hl hp h
      exact h.skipG rfl (Z0t rfl rfl rfl h.size (by decide) (h.v hp 2 22)) rfl (by decide) rfl (by decide) (fun v' hv=>by simp at hv) (h.mem.keep (Ext.rfl' _) rfl)
     ·intro ℓ aq W hl hp h
      have e0:aq.tmps.getD 0 undef= .slice (some ⟨b',off,none⟩) k cl:=h.at_out 0 rfl
      exact h.skipG rfl (Z0t rfl rfl rfl h.size (by decide) (h.v hp 2 22)) rfl (by decide) rfl (by decide) (fun v' hv=>by simp at hv) (h.mem.keep (Ext.rfl' _) rfl)
     ·intro ℓ aq W hl hp h
      have e5:aq.tmps.getD 5 undef= .int .i64 0:=h.at_out 5 rfl
      exact h.skipG rfl (Z0t rfl rfl rfl h.size (by decide) (h.v hp 2 22)) rfl (by decide) rfl (by decide) (fun v' hv=>by simp at hv) (h.mem.keep (Ext.rfl' _) rfl)
     ·intro ℓ aq W hl hp h
      exact h.skipG rfl (Z0t rfl rfl rfl h.size (by decide) (h.v hp 2 22)) rfl (by decide) rfl (by decide) (fun v' hv=>by simp at hv) (h.mem.keep (Ext.rfl' _) rfl)
     ·intro ℓ aq W hl hp h
      exact h.skipG rfl (Z0t rfl rfl rfl h.size (by decide) (h.v hp 2 22)) rfl (by decide) rfl (by decide) (fun v' hv=>by simp at hv) (h.mem.keep (Ext.rfl' _) rfl)
     ·intro ℓ aq W hl hp h
      exact h.skipG rfl (Z0t rfl rfl rfl h.size (by decide) (h.v hp 2 22)) rfl (by decide) rfl (by decide) (fun v' hv=>by simp at hv) (h.mem.keep (Ext.rfl' _) rfl)
     ·intro ℓ aq W hl hp h
      exact h.skipG rfl (Z0t rfl rfl rfl h.size (by decide) (h.v hp 2 22)) rfl (by decide) rfl (by decide) (fun v' hv=>by simp at hv) (h.mem.keep (Ext.rfl' _) rfl)
     ·intro ℓ aq W hl hp h
      have e22:=h.v hp 2 22
      exact h.dg (hg:=Z4 rfl) (r:=by simp[go_sem,execOp,Act.eval,e22]) (m:=h.mem.k)
     ·intro ℓ aq W hall h
      have hEW:=h.mem.1
      have ea:=Z1z h.defers h.size
      simp only[List.range,List.range.loop,List.map] at ea
      rw[ea]
      clear ea
      rw[(show aq.tmps.getD 0 undef= .slice (some ⟨b',off,none⟩) k cl from h.at_out 0 rfl),(show aq.tmps.getD 1 undef= .int .i64 n from h.at_out 1 rfl),(show aq.tmps.getD 2 undef=undef from h.at_out 2 rfl),(show aq.tmps.getD 3 undef=undef from h.at_out 3 rfl),(show aq.tmps.getD 5 undef= .int .i64 0 from h.at_out 5 rfl),(show aq.tmps.getD 33 undef= .bool false from h.vals 13 33 _ rfl rfl (hall 13 (by decide)))]
      iterate 28 generalize aq.tmps.getD _ undef=ux
      clear h hall
      have hE2:=hE.trans hEW
      go_wp2
      go_roundw
      case rel=>exact⟨1,by omega,rfl,hE2,hres2⟩
      case measure=>simp[intOf];omega
    |succ j=>
     obtain⟨y,hy⟩:∃y,l[j]? =some y:=⟨_,List.getElem?_eq_getElem (by omega)⟩
     obtain⟨b2,off2,he2,hb2,hc2⟩:=hl2 j y hy
     simp only[Option.some.injEq,Addr.mk.injEq,and_true] at he2
     obtain⟨rfl,rfl⟩:=he2
     have hres3:Hid (Zq n l=if decide (x≤y) then 7 else Z1k n (Z12 l (j+1+1)) (l.drop (j+1+1))):=by show Zq n l=_;rw[hres.out];simp only[Z12,hy]
     clear hres hx hy
     have hj0:(0:Int)<(j:Int)+1:=by omega
     have hjw:wrap64 ((j:Int)+1 - 1)=j:=by unfold wrap64;omega
     have hjn:¬((j:Int)+1<0):=by omega
     have hjw2:IntKind.i64.wrap (j:Int)=j:=by rw[IntKind.wrap_i64];omega
     have hjk:¬((k:Int)≤(j:Int)+1):=by omega
     have hjk2:¬(k≤j):=by omega
     have hj1:((j:Int)+1).toNat=j+1:=by omega
     go_wp2_with (first|(go_at_call 93;refine(hbt _).mono ?_;rintro e wr ⟨rfl,rfl⟩))
     refine Z03 (by kernel_rfl) (by kernel_rfl) (RI 34 [some 20,some 21,some 22,some 23,some 24,some 25,some 26,some 27,some 28,some 29,some 30,some 31,some 32,some 33] [some (.int .i64 ((j:Int)+1)),some (.bool true),some (.bool true),some (.slice (some ⟨b',off,none⟩) k cl),some (.int .i64 ((j:Int)+1)),some (.pointer (some ⟨b',off+(j+1),none⟩)),some (.int .i64 x),some (.slice (some ⟨b',off,none⟩) k cl),some (.int .i64 ((j:Int)+1)),some (.int .i64 j),some (.pointer (some ⟨b',off+j,none⟩)),some (.int .i64 y),some (.bool (decide (x≤y))),some (.bool (decide (x≤y)))] _ (Sxs wr [])) (RI.start rfl rfl (Sxs.start wr _ _)) (AllIx.arr ⟨?_,?_,?_,?_,?_,?_,?_,?_,?_,?_,?_,?_,?_,?_,trivial⟩) ?_
     ·intro ℓ aq W hl hp h
      have e5:aq.tmps.getD 5 undef= .int .i64 ((j:Int)+1):=h.at_out 5 rfl
      exact h.dg (hg:=Z4 rfl) (r:=by simp[go_sem,execOp,Act.eval,e5]) (m:=h.mem.k)
     ·intro ℓ aq W hl hp h
      have e20:=h.v hp 0 20
      exact h.dg (hg:=Z4 rfl) (r:=by simp[go_sem,execOp,Act.eval,e20,hj0]) (m:=h.mem.k)
     ·intro ℓ aq W hl hp h
      have e21:=h.v hp 1 21
      exact h.dg (hg:=Z4 rfl) (r:=by simp[go_sem,execOp,Act.eval,e21]) (m:=h.mem.k)
     ·intro ℓ aq W hl hp h
      have e0:aq.tmps.getD 0 undef= .slice (some ⟨b',off,none⟩) k cl:=h.at_out 0 rfl
      exact h.dg (hg:=Z9 rfl rfl rfl h.size (by decide) (h.v hp 2 22)) (r:=by simp[go_sem,execOp,Act.eval,e0]) (m:=h.mem.k)
     ·intro ℓ aq W hl hp h
      have e5:aq.tmps.getD 5 undef= .int .i64 ((j:Int)+1):=h.at_out 5 rfl
      exact h.dg (hg:=Z9 rfl rfl rfl h.size (by decide) (h.v hp 2 22)) (r:=by simp[go_sem,execOp,Act.eval,e5]) (m:=h.mem.k)
     ·intro ℓ aq W hl hp h
      have e23:=h.v hp 3 23
      have e24:=h.v hp 4 24
      exact h.dg (hg:=Z9 rfl rfl rfl h.size (by decide) (h.v hp 2 22)) (r:=by simp[go_sem,execOp,Act.eval,e23,e24,hjk,hj1,hjn]) (m:=h.mem.k)
     ·intro ℓ aq W hl hp h
      have e25:=h.v hp 5 25
      have c0:=h.mem.1.cellS hc
      exact h.dg (hg:=Z9 rfl rfl rfl h.size (by decide) (h.v hp 2 22)) (r:=by simp[go_sem,execOp,Act.eval,e25,c0]) (m:=h.mem.k)
     ·intro ℓ aq W hl hp h
      have e0:aq.tmps.getD 0 undef= .slice (some ⟨b',off,none⟩) k cl:=h.at_out 0 rfl
      exact h.dg (hg:=Z9 rfl rfl rfl h.size (by decide) (h.v hp 2 22)) (r:=by simp[go_sem,execOp,Act.eval,e0]) (m:=h.mem.k)
     ·intro ℓ aq W hl hp h
      have e5:aq.tmps.getD 5 undef= .int .i64 ((j:Int)+1):=h.at_out 5 rfl
      exact h.dg (hg:=Z9 rfl rfl rfl h.size (by decide) (h.v hp 2 22)) (r:=by simp[go_sem,execOp,Act.eval,e5]) (m:=h.mem.k)
     ·intro ℓ aq W hl hp h
      have e28:=h.v hp 8 28
      exact h.dg (hg:=Z9 rfl rfl rfl h.size (by decide) (h.v hp 2 22)) (r:=by simp[go_sem,execOp,Act.eval,e28,hjw,hjw2]) (m:=h.mem.k)
     ·intro ℓ aq W hl hp h
      have e27:=h.v hp 7 27
      have e29:=h.v hp 9 29
      exact h.dg (hg:=Z9 rfl rfl rfl h.size (by decide) (h.v hp 2 22)) (r:=by simp[go_sem,execOp,Act.eval,e27,e29,hjk2]) (m:=h.mem.k)
     ·intro ℓ aq W hl hp h
      have e30:=h.v hp 10 30
      have c0:=h.mem.1.cellS hc2
      exact h.dg (hg:=Z9 rfl rfl rfl h.size (by decide) (h.v hp 2 22)) (r:=by simp[go_sem,execOp,Act.eval,e30,c0]) (m:=h.mem.k)
     ·intro ℓ aq W hl hp h
      have e26:=h.v hp 6 26
      have e31:=h.v hp 11 31
      exact h.dg (hg:=Z9 rfl rfl rfl h.size (by decide) (h.v hp 2 22)) (r:=by simp[go_sem,execOp,Act.eval,e26,e31]) (m:=h.mem.k)
     ·intro ℓ aq W hl hp h
      have e22:=h.v hp 2 22
      have e32:=h.v hp 12 32
      exact h.dg (hg:=Z4 rfl) (r:=by simp[go_sem,execOp,Act.eval,e22,e32]) (m:=h.mem.k)
     ·intro ℓ aq W hall h
      have hEW:=h.mem.1
      have ea:=Z1z h.defers h.size
      simp only[List.range,List.range.loop,List.map] at ea
      rw[ea]
      clear ea
      rw[(show aq.tmps.getD 0 undef= .slice (some ⟨b',off,none⟩) k cl from h.at_out 0 rfl),(show aq.tmps.getD 1 undef= .int .i64 n from h.at_out 1 rfl),(show aq.tmps.getD 2 undef=undef from h.at_out 2 rfl),(show aq.tmps.getD 3 undef=undef from h.at_out 3 rfl),(show aq.tmps.getD 5 undef= .int .i64 ((j:Int)+1) from h.at_out 5 rfl),(show aq.tmps.getD 33 undef= .bool (decide (x≤y)) from h.vals 13 33 _ rfl rfl (hall 13 (by decide)))]
      iterate 28 generalize aq.tmps.getD _ undef=ux
      clear h hall
      have hE2:=hE.trans hEW
      by_cases hxy:x≤y
      ·have hres4:Hid (Zq n l=7):=by show Zq n l=7;rw[hres3.out,if_pos (decide_eq_true hxy)]
       clear hres3
       go_wp2
       go_ret
       exact⟨ZK (a:=7) hres4.out.symm,hE2⟩
      ·have hres4:Hid (Zq n l=Z1k n (Z12 l (j+1+1)) (l.drop (j+1+1))):=by show Zq n l=_;rw[hres3.out,if_neg (by simpa using hxy)]
       clear hres3
       go_wp2
       go_roundw
       case rel=>exact⟨j+1+1,by omega,by push_cast;rfl,hE2,hres4⟩
       case measure=>simp[intOf];omega
end Go.Proofs.Tryq
namespace Go.Proofs.Tryq
set_option maxRecDepth 100000
set_option maxHeartbeats 4000000
open Go Go.Nk Go.RowKit
theorem ZdG{x y:Sf}(h:nmL x=nmL y):x.nm=y.nm:=by
 have h2:x.nm.data=y.nm.data:=Array.toList_inj.1 h
 cases hx:x.nm;cases hy:y.nm
 rw[hx,hy] at h2
 simp at h2
 rw[h2]
theorem Z71{s t:ByteArray}(h:s.toList=t.toList):s=t:=by
 rw[ByteArray.toList_eq,ByteArray.toList_eq] at h
 cases s;cases t
 simp at h
 rw[h]
theorem Z1P(a b c m:Int)(base:Option Addr)(n cap:Nat)(L:List Sf)(w:World)(hlen:L.length=n)(hn20:n≤1000000)(hS:RawA w base L):
 Calls prog 26 #[.agg #[.int .i64 a,.int .i64 b,.int .i64 c,.int .i64 m,.slice base n cap]] w fun e w'=>e= .returned (.int .i64 (Zp a b c m L))∧Ext w w':=by
 have hr:∀n hi w,Calls prog 93 #[.int .i64 n,.int .i64 0,.int .i64 hi] w fun e w'=>e= .returned (.bool (okA n hi))∧w'=w:=fun n hi w=>Z4r n 0 hi w
 have hr1:=fun w=>hr a 9999 w;have hr2:=fun w=>hr b 9999 w;have hr3:=fun w=>hr c 9999 w;have hr4:=fun w=>Z4r m 2 4 w
 clear hr
 by_cases hR:Z2J a b c m=0
 ·have hRt:okA a 9999=true∧okA b 9999=true∧okA c 9999=true∧decide (2≤m∧m≤4)=true:=by
   unfold Z2J at hR
   split at hR
   ·rename_i h;simp only[Bool.and_eq_true] at h;exact⟨h.1.1.1,h.1.1.2,h.1.2,h.2⟩
   ·cases hR
  simp only[hRt.1] at hr1;simp only[hRt.2.1] at hr2;simp only[hRt.2.2.1] at hr3;simp only[hRt.2.2.2] at hr4
  have hF:Hid (Zp a b c m L=Zj L):=by
   show _=_
   rw[Zp,firstV,if_pos hR]
   simp only[firstV]
   split
   ·rename_i h;exact h.symm
   ·rfl
  clear hR hRt
  by_cases h9:9<L.length
  ·have H:Hid (Zp a b c m L=2):=by show _=_;rw[hF.out,Zj,if_pos h9]
   have hn9:(9:Int)<(n:Int):=by omega
   clear h9 hF
   go_enter func26,ntmps26
   go_wp2_with (first
    |(go_at_call 93;(with_reducible refine(hr1 _).mono ?_);rintro e w2 ⟨rfl,rfl⟩)
    |(go_at_call 93;(with_reducible refine(hr2 _).mono ?_);rintro e w2 ⟨rfl,rfl⟩)
    |(go_at_call 93;(with_reducible refine(hr3 _).mono ?_);rintro e w2 ⟨rfl,rfl⟩)
    |(go_at_call 93;(with_reducible refine(hr4 _).mono ?_);rintro e w2 ⟨rfl,rfl⟩))
   go_ret
   exact⟨ZK (a:=2) H.out.symm,((Ext.rfl' w).alloc _).alloc _⟩
  ·have H:Hid (Zp a b c m L=shA ((L.take 0).map nmL) (L.drop 0)):=by show _=_;rw[hF.out,Zj,if_neg h9];rfl
   have hn9:(n:Int)≤9:=by omega
   clear h9 hF
   go_enter func26,ntmps26
   go_wp2_with (first
    |(go_at_call 93;(with_reducible refine(hr1 _).mono ?_);rintro e w2 ⟨rfl,rfl⟩)
    |(go_at_call 93;(with_reducible refine(hr2 _).mono ?_);rintro e w2 ⟨rfl,rfl⟩)
    |(go_at_call 93;(with_reducible refine(hr3 _).mono ?_);rintro e w2 ⟨rfl,rfl⟩)
    |(go_at_call 93;(with_reducible refine(hr4 _).mono ?_);rintro e w2 ⟨rfl,rfl⟩))
   clear hr1 hr2 hr3 hr4
   have hE0:=((Ext.rfl' w).alloc (.cells #[.int .i64 a,.int .i64 b,.int .i64 c,.int .i64 m,.slice base n cap] 26)).alloc (.cells #[.int .i64 a,.int .i64 b,.int .i64 c,.int .i64 m] 23)
   go_loopw [4] (fun v wr=>∃i:Nat,i≤n∧v= .int .i64 i∧wr.heap[w.heap.size]? =some (.cells #[.int .i64 a,.int .i64 b,.int .i64 c,.int .i64 m,.slice base n cap] 26)∧Ext w wr∧Hid (Zp a b c m L=shA ((L.take i).map nmL) (L.drop i))) (fun v _=>n - (intOf v).toNat)
   case atStart=>exact⟨0,Nat.zero_le _,rfl,by simp only[Z3,Z2];rw[if_neg (by omega),if_pos trivial],hE0,H⟩
   case round=>
    obtain⟨i,hi,rfl,hr,hE,hH⟩:=hrel
    clear hE0 H
    have q4:=Z0 hr 4
    simp only[List.getElem?_toArray,List.getElem?_cons_zero,List.getElem?_cons_succ] at q4
    have hlr:=Z5 hr
    by_cases hin:i=n
    ·subst hin
     have hz:Hid (Zp a b c m L=0):=by show _=_;rw[hH.out,←hlen,List.drop_length];rfl
     clear hH
     go_wp2
     go_ret
     exact⟨ZK (a:=0) hz.out.symm,hE⟩
    ·have hlt:i<n:=by omega
     obtain⟨x,hx⟩:∃x,L[i]? =some x:=⟨_,List.getElem?_eq_getElem (by omega)⟩
     have hst:Hid (Zp a b c m L=if Z2d x.nm=false then 4 else if nmL x∈(L.take i).map nmL then 5 else if Z8b x=false then 1 else shA ((L.take (i+1)).map nmL) (L.drop (i+1))):=by
      show _=_
      rw[hH.out,Z0b hx,shA,Z0G hx,List.map_append]
      rfl
     have hS2:=hS.ext hE
     obtain⟨b',off,rfl,hb,⟨k0,k1,k2,k3,k4,k5,k6⟩,hnm⟩:=hS2 i x hx
     have hnc:=fun w=>Z70 x.nm w hnm
     have hi0:(0:Int)≤(i:Int):=by omega
     cases hnb:Z2d x.nm
     ·have hres:Hid (Zp a b c m L=4):=by show _=_;rw[hst.out,if_pos hnb]
      rw[hnb] at hnc
      clear hnb hst hH hx
      go_wp2_with (first
       |(go_at_call 94;refine(hnc _).mono ?_;rintro e w2 ⟨rfl,rfl⟩))
      go_ret
      exact⟨ZK (a:=4) hres.out.symm,hE.alloc _⟩
     ·rw[hnb] at hnc
      have hst2:Hid (Zp a b c m L=if nmL x∈(L.take i).map nmL then 5 else if Z8b x=false then 1 else shA ((L.take (i+1)).map nmL) (L.drop (i+1))):=by show _=_;rw[hst.out,if_neg (by rw[hnb];simp)]
      clear hst hH hnb
      go_wp2_with (first
       |(go_at_call 94;refine(hnc _).mono ?_;rintro e w2 ⟨rfl,hw2⟩;subst hw2))
      have hE5:=hE.alloc (.cells #[.string x.nm,.int .i64 x.a0,.int .i64 x.a1,.int .i64 x.b0,.int .i64 x.b1,.int .i64 x.c0,.int .i64 x.c1] 51)
      have hB5:(wr.alloc (.cells #[.string x.nm,.int .i64 x.a0,.int .i64 x.a1,.int .i64 x.b0,.int .i64 x.b1,.int .i64 x.c0,.int .i64 x.c1] 51)).heap[wr.heap.size]? =some (.cells #[.string x.nm,.int .i64 x.a0,.int .i64 x.a1,.int .i64 x.b0,.int .i64 x.b1,.int .i64 x.c0,.int .i64 x.c1] 51):=by rw[Z3,if_pos rfl]
      have hr5:=((Ext.rfl' wr).alloc (.cells #[.string x.nm,.int .i64 x.a0,.int .i64 x.a1,.int .i64 x.b0,.int .i64 x.b1,.int .i64 x.c0,.int .i64 x.c1] 51)).get hr
      have HN:Hid (nmL x∈(L.take i).map nmL↔nmL x∈((L.take i).drop 0).map nmL):=Iff.rfl
      clear hnc k0 k1 k2 k3 k4 k5 k6 hr q4
      have hS3:=hS2.ext ((Ext.rfl' wr).alloc (.cells #[.string x.nm,.int .i64 x.a0,.int .i64 x.a1,.int .i64 x.b0,.int .i64 x.b1,.int .i64 x.c0,.int .i64 x.c1] 51))
      generalize World.alloc wr _=V at hS3 hE5 hB5 hr5⊢
      obtain⟨wo,rfl⟩:∃wo:World,wo=wr:=⟨_,rfl⟩
      go_loopw [6] (fun v wi=>∃k:Nat,k≤i∧v= .int .i64 k∧Ext V wi∧Hid (nmL x∈(L.take i).map nmL↔nmL x∈((L.take i).drop k).map nmL)) (fun v _=>i - (intOf v).toNat)
      case atStart=>exact⟨0,Nat.zero_le _,rfl,Ext.rfl' V,HN⟩
      case round=>
       obtain⟨k,hk,rfl,hEk,hHk⟩:=hrel
       clear HN
       have hrk:=hEk.get hr5
       have hBk:=hEk.get hB5
       have q4:=Z0 hrk 4
       simp only[List.getElem?_toArray,List.getElem?_cons_zero,List.getElem?_cons_succ] at q4
       by_cases hki:k=i
       ·subst hki
        have hnot:¬nmL x∈(L.take k).map nmL:=by rw[hHk.out,List.drop_of_length_le (by rw[List.length_take];omega)];simp
        have hst3:Hid (Zp a b c m L=if Z8b x=false then 1 else shA ((L.take (k+1)).map nmL) (L.drop (k+1))):=by show _=_;rw[hst2.out,if_neg hnot]
        have y1:=Z0 hBk 1;have y2:=Z0 hBk 2;have y3:=Z0 hBk 3;have y4:=Z0 hBk 4;have y5:=Z0 hBk 5;have y6:=Z0 hBk 6
        simp only[List.getElem?_toArray,List.getElem?_cons_zero,List.getElem?_cons_succ] at y1 y2 y3 y4 y5 y6
        have hi1:∀w,Calls prog 95 #[.agg #[.int .i64 x.a0,.int .i64 x.a1],.int .i64 0,.int .i64 9999] w fun e w'=>e= .returned (.bool (ZF (spA x 0)))∧Ext w w':=fun w=>Z2e x.a0 x.a1 0 9999 w
        have hi2:∀w,Calls prog 95 #[.agg #[.int .i64 x.b0,.int .i64 x.b1],.int .i64 0,.int .i64 9999] w fun e w'=>e= .returned (.bool (ZF (spA x 1)))∧Ext w w':=fun w=>Z2e x.b0 x.b1 0 9999 w
        have hi3:∀w,Calls prog 95 #[.agg #[.int .i64 x.c0,.int .i64 x.c1],.int .i64 0,.int .i64 9999] w fun e w'=>e= .returned (.bool (ZF (spA x 2)))∧Ext w w':=fun w=>Z2e x.c0 x.c1 0 9999 w
        have hok:Z8b x=(ZF (spA x 0)&&ZF (spA x 1)&&ZF (spA x 2)):=rfl
        have hEo:=hE5.trans hEk
        have hB0:=hBk
        have hR0:=hrk
        clear hst2 hHk hnot hx hB5 hEk
        cases h1:ZF (spA x 0) with
        |false=>
         simp only[h1] at hi1
         have hres:Hid (Zp a b c m L=1):=by show _=_;rw[hst3.out,if_pos (by rw[hok,h1];simp)]
         clear hst3 hok
         go_wp2_with (first
          |(go_at_call 95;(with_reducible refine(hi1 _).mono ?_);rintro e w2 ⟨rfl,hE2⟩;replace hEo:=hEo.trans hE2;replace hB0:=hE2.get hB0;replace hR0:=hE2.get hR0;clear hE2 y1 y2 y3 y4 y5 y6;have y1:=Z0 hB0 1;have y2:=Z0 hB0 2;have y3:=Z0 hB0 3;have y4:=Z0 hB0 4;have y5:=Z0 hB0 5;have y6:=Z0 hB0 6;simp only[List.getElem?_toArray,List.getElem?_cons_zero,List.getElem?_cons_succ] at y1 y2 y3 y4 y5 y6)
          |(go_at_call 95;(with_reducible refine(hi2 _).mono ?_);rintro e w2 ⟨rfl,hE2⟩;replace hEo:=hEo.trans hE2;replace hB0:=hE2.get hB0;replace hR0:=hE2.get hR0;clear hE2 y1 y2 y3 y4 y5 y6;have y1:=Z0 hB0 1;have y2:=Z0 hB0 2;have y3:=Z0 hB0 3;have y4:=Z0 hB0 4;have y5:=Z0 hB0 5;have y6:=Z0 hB0 6;simp only[List.getElem?_toArray,List.getElem?_cons_zero,List.getElem?_cons_succ] at y1 y2 y3 y4 y5 y6)
          |(go_at_call 95;(with_reducible refine(hi3 _).mono ?_);rintro e w2 ⟨rfl,hE2⟩;replace hEo:=hEo.trans hE2;replace hB0:=hE2.get hB0;replace hR0:=hE2.get hR0;clear hE2 y1 y2 y3 y4 y5 y6;have y1:=Z0 hB0 1;have y2:=Z0 hB0 2;have y3:=Z0 hB0 3;have y4:=Z0 hB0 4;have y5:=Z0 hB0 5;have y6:=Z0 hB0 6;simp only[List.getElem?_toArray,List.getElem?_cons_zero,List.getElem?_cons_succ] at y1 y2 y3 y4 y5 y6))
         go_ret
         exact⟨ZK (a:=1) hres.out.symm,hEo⟩
        |true=>
         simp only[h1] at hi1
         cases h2:ZF (spA x 1) with
         |false=>
          simp only[h2] at hi2
          have hres:Hid (Zp a b c m L=1):=by show _=_;rw[hst3.out,if_pos (by rw[hok,h1,h2];simp)]
          clear hst3 hok
          go_wp2_with (first
           |(go_at_call 95;(with_reducible refine(hi1 _).mono ?_);rintro e w2 ⟨rfl,hE2⟩;replace hEo:=hEo.trans hE2;replace hB0:=hE2.get hB0;replace hR0:=hE2.get hR0;clear hE2 y1 y2 y3 y4 y5 y6;have y1:=Z0 hB0 1;have y2:=Z0 hB0 2;have y3:=Z0 hB0 3;have y4:=Z0 hB0 4;have y5:=Z0 hB0 5;have y6:=Z0 hB0 6;simp only[List.getElem?_toArray,List.getElem?_cons_zero,List.getElem?_cons_succ] at y1 y2 y3 y4 y5 y6)
           |(go_at_call 95;(with_reducible refine(hi2 _).mono ?_);rintro e w2 ⟨rfl,hE2⟩;replace hEo:=hEo.trans hE2;replace hB0:=hE2.get hB0;replace hR0:=hE2.get hR0;clear hE2 y1 y2 y3 y4 y5 y6;have y1:=Z0 hB0 1;have y2:=Z0 hB0 2;have y3:=Z0 hB0 3;have y4:=Z0 hB0 4;have y5:=Z0 hB0 5;have y6:=Z0 hB0 6;simp only[List.getElem?_toArray,List.getElem?_cons_zero,List.getElem?_cons_succ] at y1 y2 y3 y4 y5 y6)
           |(go_at_call 95;(with_reducible refine(hi3 _).mono ?_);rintro e w2 ⟨rfl,hE2⟩;replace hEo:=hEo.trans hE2;replace hB0:=hE2.get hB0;replace hR0:=hE2.get hR0;clear hE2 y1 y2 y3 y4 y5 y6;have y1:=Z0 hB0 1;have y2:=Z0 hB0 2;have y3:=Z0 hB0 3;have y4:=Z0 hB0 4;have y5:=Z0 hB0 5;have y6:=Z0 hB0 6;simp only[List.getElem?_toArray,List.getElem?_cons_zero,List.getElem?_cons_succ] at y1 y2 y3 y4 y5 y6))
          go_ret
          exact⟨ZK (a:=1) hres.out.symm,hEo⟩
         |true=>
          simp only[h2] at hi2
          cases h3:ZF (spA x 2) with
          |false=>
           simp only[h3] at hi3
           have hres:Hid (Zp a b c m L=1):=by show _=_;rw[hst3.out,if_pos (by rw[hok,h1,h2,h3];simp)]
           clear hst3 hok
           go_wp2_with (first
            |(go_at_call 95;(with_reducible refine(hi1 _).mono ?_);rintro e w2 ⟨rfl,hE2⟩;replace hEo:=hEo.trans hE2;replace hB0:=hE2.get hB0;replace hR0:=hE2.get hR0;clear hE2 y1 y2 y3 y4 y5 y6;have y1:=Z0 hB0 1;have y2:=Z0 hB0 2;have y3:=Z0 hB0 3;have y4:=Z0 hB0 4;have y5:=Z0 hB0 5;have y6:=Z0 hB0 6;simp only[List.getElem?_toArray,List.getElem?_cons_zero,List.getElem?_cons_succ] at y1 y2 y3 y4 y5 y6)
            |(go_at_call 95;(with_reducible refine(hi2 _).mono ?_);rintro e w2 ⟨rfl,hE2⟩;replace hEo:=hEo.trans hE2;replace hB0:=hE2.get hB0;replace hR0:=hE2.get hR0;clear hE2 y1 y2 y3 y4 y5 y6;have y1:=Z0 hB0 1;have y2:=Z0 hB0 2;have y3:=Z0 hB0 3;have y4:=Z0 hB0 4;have y5:=Z0 hB0 5;have y6:=Z0 hB0 6;simp only[List.getElem?_toArray,List.getElem?_cons_zero,List.getElem?_cons_succ] at y1 y2 y3 y4 y5 y6)
            |(go_at_call 95;(with_reducible refine(hi3 _).mono ?_);rintro e w2 ⟨rfl,hE2⟩;replace hEo:=hEo.trans hE2;replace hB0:=hE2.get hB0;replace hR0:=hE2.get hR0;clear hE2 y1 y2 y3 y4 y5 y6;have y1:=Z0 hB0 1;have y2:=Z0 hB0 2;have y3:=Z0 hB0 3;have y4:=Z0 hB0 4;have y5:=Z0 hB0 5;have y6:=Z0 hB0 6;simp only[List.getElem?_toArray,List.getElem?_cons_zero,List.getElem?_cons_succ] at y1 y2 y3 y4 y5 y6))
           go_ret
           exact⟨ZK (a:=1) hres.out.symm,hEo⟩
          |true=>
           simp only[h3] at hi3
           have hres:Hid (Zp a b c m L=shA ((L.take (k+1)).map nmL) (L.drop (k+1))):=by show _=_;rw[hst3.out,if_neg (by rw[hok,h1,h2,h3];simp)]
           clear hst3 hok
           go_wp2_with (first
            |(go_at_call 95;(with_reducible refine(hi1 _).mono ?_);rintro e w2 ⟨rfl,hE2⟩;replace hEo:=hEo.trans hE2;replace hB0:=hE2.get hB0;replace hR0:=hE2.get hR0;clear hE2 y1 y2 y3 y4 y5 y6;have y1:=Z0 hB0 1;have y2:=Z0 hB0 2;have y3:=Z0 hB0 3;have y4:=Z0 hB0 4;have y5:=Z0 hB0 5;have y6:=Z0 hB0 6;simp only[List.getElem?_toArray,List.getElem?_cons_zero,List.getElem?_cons_succ] at y1 y2 y3 y4 y5 y6)
            |(go_at_call 95;(with_reducible refine(hi2 _).mono ?_);rintro e w2 ⟨rfl,hE2⟩;replace hEo:=hEo.trans hE2;replace hB0:=hE2.get hB0;replace hR0:=hE2.get hR0;clear hE2 y1 y2 y3 y4 y5 y6;have y1:=Z0 hB0 1;have y2:=Z0 hB0 2;have y3:=Z0 hB0 3;have y4:=Z0 hB0 4;have y5:=Z0 hB0 5;have y6:=Z0 hB0 6;simp only[List.getElem?_toArray,List.getElem?_cons_zero,List.getElem?_cons_succ] at y1 y2 y3 y4 y5 y6)
            |(go_at_call 95;(with_reducible refine(hi3 _).mono ?_);rintro e w2 ⟨rfl,hE2⟩;replace hEo:=hEo.trans hE2;replace hB0:=hE2.get hB0;replace hR0:=hE2.get hR0;clear hE2 y1 y2 y3 y4 y5 y6;have y1:=Z0 hB0 1;have y2:=Z0 hB0 2;have y3:=Z0 hB0 3;have y4:=Z0 hB0 4;have y5:=Z0 hB0 5;have y6:=Z0 hB0 6;simp only[List.getElem?_toArray,List.getElem?_cons_zero,List.getElem?_cons_succ] at y1 y2 y3 y4 y5 y6))
           exact⟨⟨k+1,by omega,by push_cast;rfl,hR0,hEo,hres⟩,by simp[intOf];omega⟩
       ·have hklt:k<i:=by omega
        obtain⟨y,hy⟩:∃y,L[k]? =some y:=⟨_,List.getElem?_eq_getElem (by omega)⟩
        obtain⟨b2,off2,he2,hb2,hky,hnmy⟩:=(hS3.ext hEk) k y hy
        obtain⟨rfl,rfl⟩:b'=b2∧off=off2:=by simpa using he2
        have hy0:=hky.1
        have hx0:=Z0 hBk 0
        simp only[List.getElem?_toArray,List.getElem?_cons_zero] at hx0
        have hkn:¬n≤k:=by omega
        have hin2:nmL x∈((L.take i).drop k).map nmL↔nmL x=nmL y∨nmL x∈((L.take i).drop (k+1)).map nmL:=by
         have hty:(L.take i)[k]? =some y:=by rw[List.getElem?_take,if_pos hklt];exact hy
         rw[Z0b hty,List.map_cons,List.mem_cons]
        go_wp2_with fail
        refine Z03 (by kernel_rfl) (by kernel_rfl) (RI 81 [some 56,some 57,some 58,some 59,some 60,some 61,some 62,some 63,some 64] [some (.pointer (some ⟨w.heap.size,4,none⟩)),some (.slice (some ⟨b',off,none⟩) n cap),some (.int .i64 k),some (.pointer (some ⟨b',off+k*7,none⟩)),some (.pointer (some ⟨b',off+k*7,none⟩)),some (.string y.nm),some (.pointer (some {block:=wo.heap.size,off:=0})),some (.string x.nm),some (.bool (y.nm.toList==x.nm.toList))] _ (Sxs wr [])) (RI.start rfl rfl (Sxs.start wr _ _)) (AllIx.arr ⟨?_,?_,?_,?_,?_,?_,?_,?_,?_,trivial⟩) ?_
        ·intro ℓ aq W hl hp h
         have e1:aq.tmps.getD 1 undef=Value.pointer (some {block:=w.heap.size,off:=0}):=h.at_out 1 rfl
         exact h.dg (hg:=Z4 rfl) (r:=by simp[go_sem,execOp,Act.eval,e1]) (m:=h.mem.k)
        ·intro ℓ aq W hl hp h
         have e56:=h.v hp 0 56
         have c0:=h.mem.1.cellS q4
         exact h.dg (hg:=Z4 rfl) (r:=by simp[go_sem,execOp,Act.eval,e56,c0]) (m:=h.mem.k)
        ·intro ℓ aq W hl hp h
         have e6:aq.tmps.getD 6 undef=Value.int IntKind.i64 (k:Int):=h.at_out 6 rfl
         exact h.dg (hg:=Z4 rfl) (r:=by simp[go_sem,execOp,Act.eval,e6]) (m:=h.mem.k)
        ·intro ℓ aq W hl hp h
         have e57:=h.v hp 1 57
         have e58:=h.v hp 2 58
         exact h.dg (hg:=Z4 rfl) (r:=by simp[go_sem,execOp,Act.eval,e57,e58,hkn]) (m:=h.mem.k)
        ·intro ℓ aq W hl hp h
         have e59:=h.v hp 3 59
         exact h.dg (hg:=Z4 rfl) (r:=by simp[go_sem,execOp,Act.eval,e59]) (m:=h.mem.k)
        ·intro ℓ aq W hl hp h
         have e60:=h.v hp 4 60
         have c0:=h.mem.1.cellS hy0
         exact h.dg (hg:=Z4 rfl) (r:=by simp[go_sem,execOp,Act.eval,e60,c0]) (m:=h.mem.k)
        ·intro ℓ aq W hl hp h
         have e5:aq.tmps.getD 5 undef=Value.pointer (some {block:=wo.heap.size,off:=0}):=h.at_out 5 rfl
         exact h.dg (hg:=Z4 rfl) (r:=by simp[go_sem,execOp,Act.eval,e5]) (m:=h.mem.k)
        ·intro ℓ aq W hl hp h
         have e62:=h.v hp 6 62
         have c0:=h.mem.1.cellS hx0
         exact h.dg (hg:=Z4 rfl) (r:=by simp[go_sem,execOp,Act.eval,e62,c0]) (m:=h.mem.k)
        ·intro ℓ aq W hl hp h
         have e61:=h.v hp 5 61
         have e63:=h.v hp 7 63
         exact h.dg (hg:=Z4 rfl) (r:=by simp[go_sem,execOp,Act.eval,e61,e63]) (m:=h.mem.k)
        ·intro ℓ aq W hall h
         have hEW:=h.mem.1
         have ea:=Z1z h.defers h.size
         simp only[List.range,List.range.loop,List.map] at ea
         rw[ea]
         clear ea
         rw[(show aq.tmps.getD 0 undef=Value.agg #[Value.int IntKind.i64 a,Value.int IntKind.i64 b,Value.int IntKind.i64 c,Value.int IntKind.i64 m,Value.slice (some {block:=b',off:=off}) n cap] from h.at_out 0 rfl),(show aq.tmps.getD 1 undef=Value.pointer (some {block:=w.heap.size,off:=0}) from h.at_out 1 rfl),(show aq.tmps.getD 2 undef=u2 from h.at_out 2 rfl),(show aq.tmps.getD 3 undef=Value.pointer (some {block:=w.heap.size+1,off:=0}) from h.at_out 3 rfl),(show aq.tmps.getD 4 undef=Value.int IntKind.i64 (i:Int) from h.at_out 4 rfl),(show aq.tmps.getD 5 undef=Value.pointer (some {block:=wo.heap.size,off:=0}) from h.at_out 5 rfl),(show aq.tmps.getD 6 undef=Value.int IntKind.i64 (k:Int) from h.at_out 6 rfl),(show aq.tmps.getD 7 undef=Value.pointer (some {block:=w.heap.size,off:=0}) from h.at_out 7 rfl),(show aq.tmps.getD 8 undef=Value.agg #[Value.int IntKind.i64 a,Value.int IntKind.i64 b,Value.int IntKind.i64 c,Value.int IntKind.i64 m] from h.at_out 8 rfl),(show aq.tmps.getD 9 undef=Value.pointer (some {block:=w.heap.size+1,off:=0}) from h.at_out 9 rfl),(show aq.tmps.getD 10 undef=Value.int IntKind.i64 a from h.at_out 10 rfl),(show aq.tmps.getD 11 undef=Value.bool true from h.at_out 11 rfl),(show aq.tmps.getD 12 undef=Value.bool false from h.at_out 12 rfl),(show aq.tmps.getD 13 undef=Value.bool false from h.at_out 13 rfl),(show aq.tmps.getD 14 undef=Value.pointer (some {block:=w.heap.size+1,off:=1}) from h.at_out 14 rfl),(show aq.tmps.getD 15 undef=Value.int IntKind.i64 b from h.at_out 15 rfl),(show aq.tmps.getD 16 undef=Value.bool true from h.at_out 16 rfl),(show aq.tmps.getD 17 undef=Value.bool false from h.at_out 17 rfl),(show aq.tmps.getD 18 undef=Value.bool false from h.at_out 18 rfl),(show aq.tmps.getD 19 undef=Value.bool false from h.at_out 19 rfl),(show aq.tmps.getD 20 undef=Value.pointer (some {block:=w.heap.size+1,off:=2}) from h.at_out 20 rfl),(show aq.tmps.getD 21 undef=Value.int IntKind.i64 c from h.at_out 21 rfl),(show aq.tmps.getD 22 undef=Value.bool true from h.at_out 22 rfl),(show aq.tmps.getD 23 undef=Value.bool false from h.at_out 23 rfl),(show aq.tmps.getD 24 undef=Value.bool false from h.at_out 24 rfl),(show aq.tmps.getD 25 undef=Value.bool false from h.at_out 25 rfl),(show aq.tmps.getD 26 undef=Value.pointer (some {block:=w.heap.size+1,off:=3}) from h.at_out 26 rfl),(show aq.tmps.getD 27 undef=Value.int IntKind.i64 m from h.at_out 27 rfl),(show aq.tmps.getD 28 undef=Value.bool true from h.at_out 28 rfl),(show aq.tmps.getD 29 undef=Value.bool false from h.at_out 29 rfl),(show aq.tmps.getD 30 undef=Value.bool false from h.at_out 30 rfl),(show aq.tmps.getD 31 undef=Value.pointer (some {block:=w.heap.size,off:=4}) from h.at_out 31 rfl),(show aq.tmps.getD 32 undef=Value.slice (some {block:=b',off:=off}) n cap from h.at_out 32 rfl),(show aq.tmps.getD 33 undef=Value.int IntKind.i64 (n:Int) from h.at_out 33 rfl),(show aq.tmps.getD 34 undef=Value.bool (decide (9<(n:Int))) from h.at_out 34 rfl),(show aq.tmps.getD 35 undef=Value.int IntKind.i64 (i:Int) from h.at_out 35 rfl),(show aq.tmps.getD 36 undef=Value.pointer (some {block:=w.heap.size,off:=4}) from h.at_out 36 rfl),(show aq.tmps.getD 37 undef=Value.slice (some {block:=b',off:=off}) n cap from h.at_out 37 rfl),(show aq.tmps.getD 38 undef=Value.int IntKind.i64 (n:Int) from h.at_out 38 rfl),(show aq.tmps.getD 39 undef=Value.bool true from h.at_out 39 rfl),(show aq.tmps.getD 40 undef=u40 from h.at_out 40 rfl),(show aq.tmps.getD 41 undef=u41 from h.at_out 41 rfl),(show aq.tmps.getD 42 undef=Value.pointer (some {block:=w.heap.size,off:=4}) from h.at_out 42 rfl),(show aq.tmps.getD 43 undef=Value.slice (some {block:=b',off:=off}) n cap from h.at_out 43 rfl),(show aq.tmps.getD 44 undef=Value.int IntKind.i64 (i:Int) from h.at_out 44 rfl),(show aq.tmps.getD 45 undef=Value.pointer (some {block:=b',off:=off+i*7}) from h.at_out 45 rfl),(show aq.tmps.getD 46 undef=Value.agg #[Value.string x.nm,Value.int IntKind.i64 x.a0,Value.int IntKind.i64 x.a1,Value.int IntKind.i64 x.b0,Value.int IntKind.i64 x.b1,Value.int IntKind.i64 x.c0,Value.int IntKind.i64 x.c1] from h.at_out 46 rfl),(show aq.tmps.getD 47 undef=Value.pointer (some {block:=wo.heap.size,off:=0}) from h.at_out 47 rfl),(show aq.tmps.getD 48 undef=Value.string x.nm from h.at_out 48 rfl),(show aq.tmps.getD 49 undef=Value.bool true from h.at_out 49 rfl),(show aq.tmps.getD 50 undef=Value.bool false from h.at_out 50 rfl),(show aq.tmps.getD 51 undef=Value.int IntKind.i64 (k:Int) from h.at_out 51 rfl),(show aq.tmps.getD 52 undef=Value.int IntKind.i64 (i:Int) from h.at_out 52 rfl),(show aq.tmps.getD 53 undef=Value.bool true from h.at_out 53 rfl),(show aq.tmps.getD 54 undef=u54 from h.at_out 54 rfl),(show aq.tmps.getD 55 undef=u55 from h.at_out 55 rfl),(show aq.tmps.getD 64 undef= .bool (y.nm.toList==x.nm.toList) from h.vals 8 64 _ rfl rfl (hall 8 (by decide))),(show aq.tmps.getD 65 undef=u65 from h.at_out 65 rfl),(show aq.tmps.getD 66 undef=u66 from h.at_out 66 rfl),(show aq.tmps.getD 67 undef=u67 from h.at_out 67 rfl),(show aq.tmps.getD 68 undef=u68 from h.at_out 68 rfl),(show aq.tmps.getD 69 undef=u69 from h.at_out 69 rfl),(show aq.tmps.getD 70 undef=u70 from h.at_out 70 rfl),(show aq.tmps.getD 71 undef=u71 from h.at_out 71 rfl),(show aq.tmps.getD 72 undef=u72 from h.at_out 72 rfl),(show aq.tmps.getD 73 undef=u73 from h.at_out 73 rfl),(show aq.tmps.getD 74 undef=u74 from h.at_out 74 rfl),(show aq.tmps.getD 75 undef=u75 from h.at_out 75 rfl),(show aq.tmps.getD 76 undef=u76 from h.at_out 76 rfl),(show aq.tmps.getD 77 undef=u77 from h.at_out 77 rfl),(show aq.tmps.getD 78 undef=u78 from h.at_out 78 rfl),(show aq.tmps.getD 79 undef=u79 from h.at_out 79 rfl),(show aq.tmps.getD 80 undef=u80 from h.at_out 80 rfl)]
         iterate 8 generalize aq.tmps.getD _ undef=ux
         clear h hall
         have hEk2:=hEk.trans hEW
         by_cases hxy:nmL x=nmL y
         ·have he:(y.nm.toList==x.nm.toList)=true:=by simp[ZdG hxy]
          have hres:Hid (Zp a b c m L=5):=by show _=_;rw[hst2.out,if_pos (hHk.out.2 (hin2.2 (.inl hxy)))]
          rw[he]
          clear he hst2 hHk hin2
          go_wp2
          go_ret
          exact⟨ZK (a:=5) hres.out.symm,hE5.trans hEk2⟩
         ·have he:(y.nm.toList==x.nm.toList)=false:=by
           rw[beq_eq_false_iff_ne]
           intro h
           exact hxy (by rw[nmL,nmL,(Z71 h).symm])
          have hH3:Hid (nmL x∈(L.take i).map nmL↔nmL x∈((L.take i).drop (k+1)).map nmL):=by show _↔_;rw[hHk.out,hin2];simp[hxy]
          rw[he]
          clear he hHk hin2
          go_wp2
          go_roundw
          case rel=>exact⟨k+1,by omega,by push_cast;rfl,hEk2,hH3⟩
          case measure=>simp[intOf];omega
 ·have hR1:Z2J a b c m=1:=by
   unfold Z2J at hR⊢
   split at hR
   ·exact absurd rfl hR
   ·rw[if_neg (by assumption)]
  have hF:Hid (Zp a b c m L=1):=by show _=_;rw[Zp,firstV,if_neg hR,hR1]
  have hRt:(okA a 9999&&okA b 9999&&okA c 9999&&decide (2≤m∧m≤4))=false:=by
   unfold Z2J at hR
   split at hR
   ·exact absurd rfl hR
   ·rename_i h;simpa using h
  clear hR hR1
  cases h1:okA a 9999 with
  |false=>
   simp only[h1] at hr1
   clear hRt h1
   go_enter func26,ntmps26
   go_wp2_with (first
    |(go_at_call 93;(with_reducible refine(hr1 _).mono ?_);rintro e w2 ⟨rfl,rfl⟩)
    |(go_at_call 93;(with_reducible refine(hr2 _).mono ?_);rintro e w2 ⟨rfl,rfl⟩)
    |(go_at_call 93;(with_reducible refine(hr3 _).mono ?_);rintro e w2 ⟨rfl,rfl⟩)
    |(go_at_call 93;(with_reducible refine(hr4 _).mono ?_);rintro e w2 ⟨rfl,rfl⟩))
   go_ret
   exact⟨ZK (a:=1) hF.out.symm,((Ext.rfl' w).alloc _).alloc _⟩
  |true=>
   simp only[h1] at hr1
   cases h2:okA b 9999 with
   |false=>
    simp only[h2] at hr2
    clear hRt h1 h2
    go_enter func26,ntmps26
    go_wp2_with (first
     |(go_at_call 93;(with_reducible refine(hr1 _).mono ?_);rintro e w2 ⟨rfl,rfl⟩)
     |(go_at_call 93;(with_reducible refine(hr2 _).mono ?_);rintro e w2 ⟨rfl,rfl⟩)
     |(go_at_call 93;(with_reducible refine(hr3 _).mono ?_);rintro e w2 ⟨rfl,rfl⟩)
     |(go_at_call 93;(with_reducible refine(hr4 _).mono ?_);rintro e w2 ⟨rfl,rfl⟩))
    go_ret
    exact⟨ZK (a:=1) hF.out.symm,((Ext.rfl' w).alloc _).alloc _⟩
   |true=>
    simp only[h2] at hr2
    cases h3:okA c 9999 with
    |false=>
     simp only[h3] at hr3
     clear hRt h1 h2 h3
     go_enter func26,ntmps26
     go_wp2_with (first
      |(go_at_call 93;(with_reducible refine(hr1 _).mono ?_);rintro e w2 ⟨rfl,rfl⟩)
      |(go_at_call 93;(with_reducible refine(hr2 _).mono ?_);rintro e w2 ⟨rfl,rfl⟩)
      |(go_at_call 93;(with_reducible refine(hr3 _).mono ?_);rintro e w2 ⟨rfl,rfl⟩)
      |(go_at_call 93;(with_reducible refine(hr4 _).mono ?_);rintro e w2 ⟨rfl,rfl⟩))
     go_ret
     exact⟨ZK (a:=1) hF.out.symm,((Ext.rfl' w).alloc _).alloc _⟩
    |true=>
     simp only[h3] at hr3
     have h4:decide (2≤m∧m≤4)=false:=by rw[h1,h2,h3] at hRt;simpa using hRt
     simp only[h4] at hr4
     clear hRt h1 h2 h3 h4
     go_enter func26,ntmps26
     go_wp2_with (first
      |(go_at_call 93;(with_reducible refine(hr1 _).mono ?_);rintro e w2 ⟨rfl,rfl⟩)
      |(go_at_call 93;(with_reducible refine(hr2 _).mono ?_);rintro e w2 ⟨rfl,rfl⟩)
      |(go_at_call 93;(with_reducible refine(hr3 _).mono ?_);rintro e w2 ⟨rfl,rfl⟩)
      |(go_at_call 93;(with_reducible refine(hr4 _).mono ?_);rintro e w2 ⟨rfl,rfl⟩))
     go_ret
     exact⟨ZK (a:=1) hF.out.symm,((Ext.rfl' w).alloc _).alloc _⟩
end Go.Proofs.Tryq
namespace Go.Proofs.Tryq
open Go Go.Nk Go.RowKit
end Go.Proofs.Tryq
namespace Go.Nk
open Go Go.Region
open Go.Proofs.Tryq (Ext Z3 Z2)
variable {i0 i1 t1 i2 t2 i3 t3 len:Nat} {w0:World} {C:Array Value} {ty:TypeId} {A:Value→World→Prop} {ℓ:Nat→Bool} {x:Tmp→Value} {w:World}
end Go.Nk
namespace Go.Proofs.Tryq
open Go Go.Nk Go.RowKit
end Go.Proofs.Tryq
namespace Go.Proofs.Tryq
set_option maxRecDepth 100000
set_option maxHeartbeats 2000000
open Go Go.Nk Go.RowKit
@[go_sem] theorem eq46 (a b c d a' b' c' d':Int) (w:World):(Op.equalIn 10000 46 (.agg #[.int .i64 a,.int .i64 b,.int .i64 c,.int .i64 d]) (.agg #[.int .i64 a',.int .i64 b',.int .i64 c',.int .i64 d'])).run prog w= .ok (a==a'&&b==b'&&c==c'&&d==d') w:=by
  have u3:prog.underlying 3=some (.int .i64):=(underlying_eq 3).trans Tryz.underlying3
  have u44:prog.underlying 44=some (.int .i64):=(underlying_eq 44).trans Tryz.underlying44
  have u30:prog.underlying 30=some (.int .i64):=(underlying_eq 30).trans Tryz.underlying30
  have a3:=Tryz.isAgg3
  have z3:=Tryz.sizeOf3
  have hS:prog.underlying 46=some (.struct (prog.fieldsOf 46)):=by kernel_rfl
  have hp:prog.stoodInHeld 46=false:=by kernel_rfl
  rw[show(10000:Nat)=9999+1 from rfl,run_equalIn_agg w 9999 46 _ _ hS hp]
  simp only[Program.fieldsOf,underlying_eq,Tryz.underlying46]
  go_simp
  by_cases h1:a=a'<;>by_cases h2:b=b'<;>by_cases h3:c=c'<;>by_cases h4:d=d'<;>simp[h1,h2,h3,h4]
@[go_sem] theorem guard46 (op:BinOp) (p q:Operand) (xs ys:Array Value) (w:World):(eqGuard op 46 p q (.agg xs) (.agg ys)).run prog w= .ok () w:=run_eqGuard_agg w op 46 p q xs ys (by kernel_rfl)
def apB(x y:Ap):Bool:=x.p==y.p&&x.q==y.q&&(x.k:Int)==(y.k:Int)&&x.s==y.s
def apsB:List Ap→List Ap→Bool
 |[],[]=>true
 |x::l,y::k=>apB x y&&apsB l k
 |_,_=>false
theorem Z67{l k:List Ap}{i:Nat}{x y:Ap}(hx:l[i]? =some x)(hy:k[i]? =some y):apsB (l.drop i) (k.drop i)=(apB x y&&apsB (l.drop (i+1)) (k.drop (i+1))):=by rw[Z0b hx,Z0b hy];rfl
theorem apsB_len:∀{l k:List Ap},l.length≠k.length→apsB l k=false
 |[],[],h=>absurd rfl h
 |[],_::_,_=>rfl
 |_::_,[],_=>rfl
 |x::l,y::k,h=>by rw[apsB,apsB_len (l:=l) (k:=k) (by simpa using h),Bool.and_false]
def RawAp(w:World)(base:Option Addr)(A:List Ap):Prop:=∀(i:Nat)(x:Ap),A[i]? =some x→∃b off,base=some ⟨b,off,none⟩∧b<w.heap.size∧(w.cell? ⟨b,off+i*4,none⟩=some (.int .i64 x.p)∧w.cell? ⟨b,off+i*4+1,none⟩=some (.int .i64 x.q)∧w.cell? ⟨b,off+i*4+2,none⟩=some (.int .i64 x.k)∧w.cell? ⟨b,off+i*4+3,none⟩=some (.int .i64 x.s))
theorem RawAp.ext{w w':World}{base:Option Addr}{A:List Ap}(h:RawAp w base A)(e:Ext w w'):RawAp w' base A:=by
 intro i x hi
 obtain⟨b,off,h1,h2,h3,h4,h5,h6⟩:=h i x hi
 exact⟨b,off,h1,e.lt h2,e.cellS h3,e.cellS h4,e.cellS h5,e.cellS h6⟩
theorem Z25(a1:Option Addr)(n1 c1:Nat)(l:List Ap)(a2:Option Addr)(n2 c2:Nat)(k:List Ap)(w:World)(h1:l.length=n1)(h2:k.length=n2)(hb:n1≤1000000∧n2≤1000000)(hl:RawAp w a1 l)(hk:RawAp w a2 k):
 Calls prog 29 #[.slice a1 n1 c1,.slice a2 n2 c2] w fun e w'=>e= .returned (.bool (apsB l k))∧Ext w w':=by
 by_cases hn:n1=n2
 ·have H:Hid (apsB l k=apsB (l.drop 0) (k.drop 0)):=rfl
  subst hn
  obtain⟨n,hn⟩:∃n,n=n1:=⟨_,rfl⟩
  subst hn
  go_enter func29,ntmps29
  go_wp2
  go_loopw [5] (fun v wr=>∃i:Nat,i≤n∧v= .int .i64 i∧Ext w wr∧Hid (apsB l k=apsB (l.drop i) (k.drop i))) (fun v _=>n - (intOf v).toNat)
  case atStart=>exact⟨0,Nat.zero_le _,rfl,Ext.rfl' w,H⟩
  case round=>
   obtain⟨i,hi,rfl,hE,hH⟩:=hrel
   clear H
   by_cases hin:i=n
   ·subst hin
    have hz:apsB l k=true:=by rw[hH.out,Z1Z h1,Z1Z h2];rfl
    go_wp2
    go_ret
    exact⟨ZP (a:=true) hz.symm,hE⟩
   ·have hlt:i<n:=by omega
    obtain⟨x,hx⟩:∃x,l[i]? =some x:=⟨_,List.getElem?_eq_getElem (by omega)⟩
    obtain⟨y,hy⟩:∃y,k[i]? =some y:=⟨_,List.getElem?_eq_getElem (by omega)⟩
    obtain⟨ba,oa,rfl,hba,hxa⟩:=(hl.ext hE) i x hx
    obtain⟨bb,ob,rfl,hbb,hyb⟩:=(hk.ext hE) i y hy
    have eqAp:(!(x.p==y.p&&x.q==y.q&&(x.k:Int)==(y.k:Int)&&x.s==y.s))= !apB x y:=rfl
    go_wp2_with fail
    refine Z03 (by kernel_rfl) (by kernel_rfl) (RI 26 [some 17,some 18,some 19,some 20,some 21,some 22,some 23,some 24,some 25] [some (.slice (some ⟨ba,oa,none⟩) n c1),some (.int .i64 i),some (.pointer (some ⟨ba,oa+i*4,none⟩)),some (.agg #[.int .i64 x.p,.int .i64 x.q,.int .i64 x.k,.int .i64 x.s]),some (.slice (some ⟨bb,ob,none⟩) n c2),some (.int .i64 i),some (.pointer (some ⟨bb,ob+i*4,none⟩)),some (.agg #[.int .i64 y.p,.int .i64 y.q,.int .i64 y.k,.int .i64 y.s]),some (.bool (!apB x y))] _ (Bxs wr [])) (RI.start rfl rfl (Bxs.start wr _ _)) (AllIx.arr ⟨?_,?_,?_,?_,?_,?_,?_,?_,?_,trivial⟩) ?_
    ·intro ℓ aq W hl hp h
     have e0:aq.tmps.getD 0 undef= .slice (some ⟨ba,oa,none⟩) n c1:=h.at_out 0 rfl
     exact h.dt (r:=by simp[go_sem,execOp,Act.eval,e0]) (m:=h.mem.k)
    ·intro ℓ aq W hl hp h
     have e5:aq.tmps.getD 5 undef= .int .i64 i:=h.at_out 5 rfl
     exact h.dt (r:=by simp[go_sem,execOp,Act.eval,e5]) (m:=h.mem.k)
    ·intro ℓ aq W hl hp h
     have e17:=h.v hp 0 17
     have e18:=h.v hp 1 18
     exact h.dt (r:=by simp[go_sem,execOp,Act.eval,e17,e18,Nat.not_le.2 hlt]) (m:=h.mem.k)
    ·intro ℓ aq W hl hp h
     have e19:=h.v hp 2 19
     have c0:=h.mem.1.cellS hxa.1
     have c1:=h.mem.1.cellS hxa.2.1
     have c2:=h.mem.1.cellS hxa.2.2.1
     have c3:=h.mem.1.cellS hxa.2.2.2
     exact h.dt (r:=by simp[go_sem,execOp,Act.eval,e19,c0,c1,c2,c3]) (m:=h.mem.k)
    ·intro ℓ aq W hl hp h
     have e1:aq.tmps.getD 1 undef= .slice (some ⟨bb,ob,none⟩) n c2:=h.at_out 1 rfl
     exact h.dt (r:=by simp[go_sem,execOp,Act.eval,e1]) (m:=h.mem.k)
    ·intro ℓ aq W hl hp h
     have e5:aq.tmps.getD 5 undef= .int .i64 i:=h.at_out 5 rfl
     exact h.dt (r:=by simp[go_sem,execOp,Act.eval,e5]) (m:=h.mem.k)
    ·intro ℓ aq W hl hp h
     have e21:=h.v hp 4 21
     have e22:=h.v hp 5 22
     exact h.dt (r:=by simp[go_sem,execOp,Act.eval,e21,e22,Nat.not_le.2 hlt]) (m:=h.mem.k)
    ·intro ℓ aq W hl hp h
     have e23:=h.v hp 6 23
     have c0:=h.mem.1.cellS hyb.1
     have c1:=h.mem.1.cellS hyb.2.1
     have c2:=h.mem.1.cellS hyb.2.2.1
     have c3:=h.mem.1.cellS hyb.2.2.2
     exact h.dt (r:=by simp[go_sem,execOp,Act.eval,e23,c0,c1,c2,c3]) (m:=h.mem.k)
    ·intro ℓ aq W hl hp h
     have e20:=h.v hp 3 20
     have e24:=h.v hp 7 24
     exact h.dt (r:=by simp[go_sem,execOp,Act.eval,e20,e24,eqAp]) (m:=h.mem.k)
    ·intro ℓ aq W hall h
     have hEW:=h.mem.1
     have ea:=Z1z h.defers h.size
     simp only[List.range,List.range.loop,List.map] at ea
     rw[ea]
     clear ea
     rw[(show aq.tmps.getD 0 undef= .slice (some ⟨ba,oa,none⟩) n c1 from h.at_out 0 rfl),(show aq.tmps.getD 1 undef= .slice (some ⟨bb,ob,none⟩) n c2 from h.at_out 1 rfl),(show aq.tmps.getD 2 undef=undef from h.at_out 2 rfl),(show aq.tmps.getD 3 undef=undef from h.at_out 3 rfl),(show aq.tmps.getD 5 undef= .int .i64 i from h.at_out 5 rfl),(show aq.tmps.getD 6 undef= .slice (some ⟨ba,oa,none⟩) n c1 from h.at_out 6 rfl),(show aq.tmps.getD 7 undef= .int .i64 n from h.at_out 7 rfl),(show aq.tmps.getD 8 undef= .slice (some ⟨bb,ob,none⟩) n c2 from h.at_out 8 rfl),(show aq.tmps.getD 9 undef= .int .i64 n from h.at_out 9 rfl),(show aq.tmps.getD 10 undef= .bool false from h.at_out 10 rfl),(show aq.tmps.getD 25 undef= .bool (!apB x y) from h.vals 8 25 _ rfl rfl (hall 8 (by decide)))]
     iterate 15 generalize aq.tmps.getD _ undef=ux
     clear h hall
     have hEW2:=hE.trans hEW
     by_cases hxy:apB x y=true
     ·have hb:(!apB x y)=false:=by simp[hxy]
      have hH2:Hid (apsB l k=apsB (l.drop (i+1)) (k.drop (i+1))):=by show _=_;rw[hH.out,Z67 hx hy,hxy,Bool.true_and]
      rw[hb]
      clear hb
      go_wp2
      go_roundw
      case rel=>exact⟨i+1,by omega,by push_cast;rfl,hEW2,hH2⟩
      case measure=>simp[intOf];omega
     ·have hb:(!apB x y)=true:=by simpa using hxy
      have hH2:apsB l k=false:=by rw[hH.out,Z67 hx hy,(by simpa using hxy:apB x y=false),Bool.false_and]
      rw[hb]
      clear hb
      go_wp2
      go_ret
      exact⟨ZP (a:=false) hH2.symm,hEW2⟩
 ·have hz:apsB l k=false:=apsB_len (by omega)
  have hnn:¬(n1:Int)=(n2:Int):=by omega
  go_enter func29,ntmps29
  go_wp2
  go_ret
  exact⟨ZP (a:=false) hz.symm,Ext.rfl' w⟩
end Go.Proofs.Tryq
