import Derived.Test.YtedkbdkbbnemlaaGreatDoorNk29
import Derived.Deep.AppendLies
import Derived.JoinedOf
import Derived.KernelRfl
import Derived.Test.YtedkbdkbbnemlaaGreatDoorRows
set_option linter.all false
namespace Go.Proofs.Tryq
set_option maxRecDepth 100000
set_option maxHeartbeats 8000000
open Go Go.Nk Go.RowKit
set_option linter.all false
def Zjy(v:Int)(i:Nat):Bool:=bits BinOp.and IntKind.u8 (v / 2 ^ i) 1==1
def Zjg(v:Int)(n:Nat):List Int:=((List.range n).filter (Zjy v)).map fun(i:Nat)=>(i:Int)
theorem Zjo(v:Int)(i:Nat):Zjg v (i+1)=Zjg v i++(if Zjy v i then[(i:Int)] else[]):=by
 unfold Zjg
 rw[List.range_succ,List.filter_append,List.map_append]
 congr 1
 cases h:Zjy v i<;>simp[h]
theorem Zjs(v:Int)(i:Nat):(Zjg v i).length≤i:=by
 have:=List.length_filter_le (Zjy v) (List.range i)
 simpa[Zjg] using this
theorem Zj0{w:World}{base b:Nat}(h:w.heap[b]? =some (.cells #[] 3))(hb:base≤b):OwnI base w (.slice (some ⟨b,0,none⟩) 0 0) []:=
 ⟨rfl,.inr ⟨b,0,#[],rfl,hb,h,Nat.le_refl _,by simp[maxLen],rfl,rfl⟩⟩
abbrev FF(F:List Int→Bool):List Int→Int:=fun l=>if F l then 1 else 0
theorem Zj6{n i:Nat}(h:i<n):(upL n)[i]? =some (i:Int):=by simp[upL,h]
theorem Zje(r0 r1 r2 r3 u:Int)(base:Option Addr)(n cap:Nat)(fa:Bool)(F:List Int→Bool)(C T:List Int)(cn tn:Nat)(w:World)(hn8:n≤8)(hu:0≤u∧u<256)(hcn:Hid (C.length=cn))(htn:Hid (T.length=tn))(htn8:tn≤n)(htn1:Hid (∀i:Nat,i<n→(i:Int)∉T→tn+1≤8))
 (e1:((cn:Int)==0)=fa)(e2:((tn:Int)==(n:Int))=fa)(e3:fa=false→cn=2)(hTin:Hid (∀j∈T,0≤j∧j<(n:Int)))
 (hp1:Hid (∀i k:Nat,i<k→k<n→F [(i:Int),(k:Int)]=false→fa=false∧lessL [(i:Int),(k:Int)] C=false))(hp2_:Hid (∀i k:Nat,F [(i:Int),(k:Int)]=true→C≠[(i:Int),(k:Int)]))
 (hall:Hid (AllT (FF F) (upL n) n 0↔fa=true))(hFT:F T=true)(hTB:Hid (∀i:Nat,i<n→(i:Int)∉T→fa=false))(hmore:Hid (∀i:Nat,i<n→(i:Int)∉T→F (T++[(i:Int)])=false))(hmost:F (Zjg u n)=false∨(Zjg u n).length<tn∨((Zjg u n).length=tn∧lessL (Zjg u n) T=false))
 (hfa:∀W,Ext w W→Calls prog 42 #[.agg #[.int .i64 r0,.int .i64 r1,.int .i64 r2,.int .i64 r3,.slice base n cap]] W fun e w'=>e= .returned (.bool true)∧Ext W w')
 (hfi:∀W,Ext w W→Calls prog 64 #[.agg #[.int .i64 r0,.int .i64 r1,.int .i64 r2,.int .i64 r3,.slice base n cap]] W fun e w'=>e= .returned (.tuple #[.bool fa,.int .i64 0])∧Ext W w')
 (hcl:∀W,Ext w W→Calls prog 66 #[.agg #[.int .i64 r0,.int .i64 r1,.int .i64 r2,.int .i64 r3,.slice base n cap]] W fun e w'=>∃bl cl,e= .returned (.tuple #[.slice bl cn cl,.int .i64 0])∧RawI w' bl C∧Ext W w')
 (htr:∀W,Ext w W→Calls prog 68 #[.agg #[.int .i64 r0,.int .i64 r1,.int .i64 r2,.int .i64 r3,.slice base n cap]] W fun e w'=>∃bl cl,e= .returned (.tuple #[.slice bl tn cl,.int .i64 0])∧(bl=none→cl=0)∧RawI w' bl T∧Ext W w')
 (has1:∀bl cl W,RawI W bl C→Calls prog 40 #[.slice bl cn cl,.int .i64 n] W fun e w'=>e= .returned (.int .i64 0)∧Ext W w')
 (has2:∀bl cl W,RawI W bl T→Calls prog 40 #[.slice bl tn cl,.int .i64 n] W fun e w'=>e= .returned (.int .i64 0)∧Ext W w')
 (hso:∀(l:List Int)(k:Nat) bl cl W (_:l.length=k)(_:k≤8)(_:∀j∈l,0≤j∧j<(n:Int))(_:Ext w W)(_:RawI W bl l),Calls prog 72 #[.agg #[.int .i64 r0,.int .i64 r1,.int .i64 r2,.int .i64 r3,.slice base n cap],.slice bl k cl] W fun e w'=>∃ab cb,e= .returned (.agg #[.int .i64 r0,.int .i64 r1,.int .i64 r2,.int .i64 r3,.slice ab k cb])∧Ext W w'∧
   ∀W',Ext w' W'→Calls prog 64 #[.agg #[.int .i64 r0,.int .i64 r1,.int .i64 r2,.int .i64 r3,.slice ab k cb]] W' fun e w''=>e= .returned (.tuple #[.bool (F l),.int .i64 0])∧Ext W' w'')
 (hsh:∀W,Ext w W→Calls prog 22 #[] W fun e w'=>e= .returned (.bool true)∧Ext W w'):
 Calls prog 15 #[.agg #[.int .i64 r0,.int .i64 r1,.int .i64 r2,.int .i64 r3,.slice base n cap],.int .u8 u] w fun e w'=>e= .returned (.bool true):=by
 have hallB:Hid (∀b:Bool,(b=true↔AllT (FF F) (upL n) n 0)→b=fa):=fun b h=>Bool.eq_iff_iff.2 (h.trans hall.out)
 clear hall
 cases fa
 all_goals
  first
   |obtain rfl:cn=2:=e3 rfl
   |obtain rfl:cn=0:=by simpa using e1
  clear e1 e3
  go_enter func15,ntmps15
  go_wp2_with (first
   |(go_at_call 42;refine(hfa _ ((Ext.rfl' w).alloc _)).mono ?_;rintro e w2 ⟨rfl,hE2⟩
     have hE:=((Ext.rfl' w).alloc _).trans hE2
     have hr:=hE2.get (b:=w.heap.size) (o:= .cells #[.int .i64 r0,.int .i64 r1,.int .i64 r2,.int .i64 r3,.slice base n cap] 70) ((Z3 _ _ _).trans (if_pos rfl))
     obtain⟨q0,q1,q2,q3,q4⟩:=ZgE hr)
   |(go_at_call 64;refine(hfi _ hE).mono ?_;rintro e w3 ⟨rfl,hF⟩
     replace hr:=hF.get hr;replace hE:=hE.trans hF;clear q0 q1 q2 q3 q4
     obtain⟨q0,q1,q2,q3,q4⟩:=ZgE hr)
   |(go_at_call 66;refine(hcl _ hE).mono ?_;rintro e w3 ⟨bC,cC,rfl,hC,hF⟩
     replace hr:=hF.get hr;replace hE:=hE.trans hF;clear q0 q1 q2 q3 q4
     obtain⟨q0,q1,q2,q3,q4⟩:=ZgE hr)
   |(go_at_call 68;refine(htr _ hE).mono ?_;rintro e w4 ⟨bT,cT,rfl,hnil,hT,hF⟩
     replace hr:=hF.get hr;replace hE:=hE.trans hF;clear q0 q1 q2 q3 q4;replace hC:=hC.ext hF
     obtain⟨q0,q1,q2,q3,q4⟩:=ZgE hr)
   |(go_at_call 40;(with_reducible refine(has1 _ _ _ hC).mono ?_);rintro e w5 ⟨rfl,hF⟩
     replace hr:=hF.get hr;replace hE:=hE.trans hF;clear q0 q1 q2 q3 q4;replace hC:=hC.ext hF;replace hT:=hT.ext hF
     obtain⟨q0,q1,q2,q3,q4⟩:=ZgE hr)
   |(go_at_call 40;(with_reducible refine(has2 _ _ _ hT).mono ?_);rintro e w6 ⟨rfl,hF⟩
     replace hr:=hF.get hr;replace hE:=hE.trans hF;clear q0 q1 q2 q3 q4;replace hC:=hC.ext hF;replace hT:=hT.ext hF
     obtain⟨q0,q1,q2,q3,q4⟩:=ZgE hr))
  go_loopw [12,13] (fun v12 v13 wr=>∃(i:Nat)(pb:Bool),i≤n∧v12= .bool pb∧v13= .int .i64 i∧Ext w wr∧wr.heap[w.heap.size]? =some (.cells #[.int .i64 r0,.int .i64 r1,.int .i64 r2,.int .i64 r3,.slice base n cap] 70)∧RawI wr bC C∧RawI wr bT T∧Hid (pb=true↔AllT (FF F) (upL n) i 0)) (fun _ v13 _=>n - (intOf v13).toNat)
  case atStart=>exact⟨0,true,Nat.zero_le _,rfl,rfl,hE,hr,hC,hT,⟨fun _ p q x y ho=>(by omega),fun _=>rfl⟩⟩
  case round=>
   clear hE hr hC hT
   obtain⟨i,pb,hi,rfl,rfl,hE,hr,hC,hT,hpb⟩:=hrel
   obtain⟨q0,q1,q2,q3,q4⟩:=ZgE hr
   by_cases hin:i=n
   ·replace hin:=hin.symm
    subst hin
    obtain rfl:=hallB.out pb hpb.out
    clear hpb hallB
    have hso3:=fun bl cl W hW hI=>hso T tn bl cl W htn.out (by omega) hTin.out hW hI
    simp only[hFT] at hso3
    clear hp1 hp2_
    go_wp2_with (first
     |(go_at_call 72;refine(hso3 _ _ _ hE hT).mono ?_;rintro e w5 ⟨ab,cb,rfl,hF,hfit⟩;replace hE:=hE.trans hF;replace hr:=hF.get hr;replace hT:=hT.ext hF;clear q0 q1 q2 q3 q4 hF)
     |(go_at_call 64;refine(hfit _ (Ext.rfl' _)).mono ?_;rintro e w9 ⟨rfl,hF⟩;replace hE:=hE.trans hF;replace hr:=hF.get hr;replace hT:=hT.ext hF;clear hF hfit))
    clear hso3
    obtain⟨N,hN⟩:∃N,N=w9.heap.size:=⟨_,rfl⟩
    go_loopw [18,19] (fun v18 v19 wr=>∃i:Nat,i≤n∧v19= .int .i64 i∧OwnI N wr v18 (Zjg u i)∧Ext w9 wr) (fun _ v19 _=>n - (intOf v19).toNat)
    case atStart=>exact⟨0,Nat.zero_le _,rfl,World.ownsRow_nil _ _ _ _,Ext.rfl' _⟩
    case round=>
     obtain⟨i,hi,rfl,hown,hEr⟩:=hrel
     have hll:=Zjs u i
     by_cases hin:i=n
     ·have hrr:=hEr.get hr;have hTr:=hT.ext hEr;have hEw:=hE.trans hEr
      obtain⟨q0,q1,q2,q3,q4⟩:=ZgE hrr
      rw[hin] at hown hll
      have hOin:Hid (∀j∈Zjg u n,0≤j∧j<(n:Int)):=fun j hj=>by
       obtain⟨q,hq,rfl⟩:=List.mem_map.1 hj
       have:=List.mem_range.1 (List.mem_filter.1 hq).1
       omega
      replace hin:=hin.symm
      subst hin
      generalize Zjg u n=O at hown hll hOin hmost
      obtain⟨bo,co,rfl,hIo,hco⟩:=hown.rawI
      obtain⟨on,hon⟩:∃on,on=O.length:=⟨_,rfl⟩
      rw[←hon] at hll hmost hco;rw[←hon]
      have hso5:=fun bl cl W hW hI=>hso O on bl cl W hon.symm (by omega) hOin.out hW hI
      have hls:=fun W (hI:RawI W bo O)(hT:RawI W bT T)=>ZgX bo on co O bT tn cT T W hon.symm htn.out (by omega) hI hT
      replace hon:Hid (on=O.length):=hon
      clear hown hE hEr hr hT hOin htn1 hmore
      by_cases hFO:F O=true
      ·simp only[hFO] at hso5
       replace hmost:=hmost.resolve_left (by rw[hFO];decide)
       rcases hmost with hm|⟨hm,hm2⟩
       ·have hm3:(on:Int)<(tn:Int):=by omega
        go_wp2_with (first
         |(go_at_call 72;refine(hso5 _ _ _ hEw hIo).mono ?_;rintro e w5 ⟨ab,cb,rfl,hF,hfit⟩;replace hEw:=hEw.trans hF;replace hIo:=hIo.ext hF;replace hTr:=hTr.ext hF;clear q0 q1 q2 q3 q4 hF)
         |(go_at_call 64;refine(hfit _ (Ext.rfl' _)).mono ?_;rintro e w6 ⟨rfl,hF⟩;replace hEw:=hEw.trans hF;replace hIo:=hIo.ext hF;replace hTr:=hTr.ext hF;clear hF hfit)
         |(go_at_call 70;refine(hls _ hIo hTr).mono ?_;rintro e w7 ⟨rfl,hF⟩;replace hEw:=hEw.trans hF)
         |(go_at_call 22;refine(hsh _ hEw).mono ?_;rintro e w8 ⟨rfl,hF⟩))
        go_ret
        exact rfl
       ·simp only[hm2] at hls
        clear hm2
        subst hm
        go_wp2_with (first
         |(go_at_call 72;refine(hso5 _ _ _ hEw hIo).mono ?_;rintro e w5 ⟨ab,cb,rfl,hF,hfit⟩;replace hEw:=hEw.trans hF;replace hIo:=hIo.ext hF;replace hTr:=hTr.ext hF;clear q0 q1 q2 q3 q4 hF)
         |(go_at_call 64;refine(hfit _ (Ext.rfl' _)).mono ?_;rintro e w6 ⟨rfl,hF⟩;replace hEw:=hEw.trans hF;replace hIo:=hIo.ext hF;replace hTr:=hTr.ext hF;clear hF hfit)
         |(go_at_call 70;refine(hls _ hIo hTr).mono ?_;rintro e w7 ⟨rfl,hF⟩;replace hEw:=hEw.trans hF)
         |(go_at_call 22;refine(hsh _ hEw).mono ?_;rintro e w8 ⟨rfl,hF⟩))
        go_ret
        exact rfl
      ·have hFO2:F O=false:=by simpa using hFO
       simp only[hFO2] at hso5
       go_wp2_with (first
        |(go_at_call 72;refine(hso5 _ _ _ hEw hIo).mono ?_;rintro e w5 ⟨ab,cb,rfl,hF,hfit⟩;replace hEw:=hEw.trans hF;replace hIo:=hIo.ext hF;replace hTr:=hTr.ext hF;clear q0 q1 q2 q3 q4 hF)
        |(go_at_call 64;refine(hfit _ (Ext.rfl' _)).mono ?_;rintro e w6 ⟨rfl,hF⟩;replace hEw:=hEw.trans hF;replace hIo:=hIo.ext hF;replace hTr:=hTr.ext hF;clear hF hfit)
        |(go_at_call 70;refine(hls _ hIo hTr).mono ?_;rintro e w7 ⟨rfl,hF⟩;replace hEw:=hEw.trans hF)
        |(go_at_call 22;refine(hsh _ hEw).mono ?_;rintro e w8 ⟨rfl,hF⟩))
       go_ret
       exact rfl
     ·have hlt:i<n:=by omega
      have hlt2:(i:Int)<(n:Int):=by omega
      have hst:=Zjo u i
      have hso4:=fun(h:(i:Int)∉T) bl cl W hW hI=>hso (T++[(i:Int)]) (tn+1) bl cl W (by simp[htn.out]) (htn1.out i hlt h) (by intro j hj;rcases List.mem_append.1 hj with hj|hj;exact hTin.out j hj;rw[List.mem_singleton.1 hj];omega) hW hI
      have hmo:=fun h=>hmore.out i hlt h
      cases hb:Zjy u i
      all_goals
       have hb2:=hb
       unfold Zjy at hb2
       rw[hb] at hst
       simp only[Bool.false_eq_true,if_false,if_true,List.append_nil] at hst
       have HN:Hid _:=hst
       clear hst hb
       generalize Zjg u i=l at hown HN hll
       by_cases hTi:(i:Int)∈T
       ·clear hso4 hmo
        go_wp2_with (first
         |(at_builtin
           refine wpList_append_own _ rfl _ _ _ rfl N 3 Tryz.t3 (.int .i64 0) 1 8 Go.Proofs.Tryq.u27 Go.Proofs.Tryq.i3 t3z t3s t3b rfl (by omega) _ _ _ rfl (hown.alloc _) ⟨wr.heap.size,0,none⟩ 1 1 [.int .i64 i] rfl rfl (Z1N _ _ _) (by intro u hu;simp at hu;subst hu;rfl) (by(try simp[maxLen]);omega) (by(try simp);omega) (by(try simp only[Z2]);have:=hEr.size;omega) ?_
           intro v' w3' hown3 hgrow3 _
           replace hEr:=(hEr.alloc _).grown hgrow3 (fun k hk=>by have:=(hown.lt k hk).1;omega)
           replace hown:OwnI N w3' v' (l++[(i:Int)]):=by simpa[OwnI] using hown3)
         |(go_at_call 39;refine(Zhj bT tn cT T (i:Int) _ htn.out (by omega) (hT.ext hEr)).mono ?_;first|rw[decide_eq_true hTi]|rw[decide_eq_false hTi]
           rintro e w10 ⟨rfl,hF⟩;replace hEr:=hEr.trans hF;replace hown:=hown.ext hF;clear hF))
        exact⟨⟨i+1,by omega,by push_cast;rfl,by rw[HN.out];exact hown,hEr⟩,by simp[intOf];omega⟩
       ·first
         |exact absurd (hTB.out i hlt hTi) (by decide)
         |(replace hso4:=hso4 hTi
           simp only[hmo hTi] at hso4
           clear hmo
           go_wp2_with (first
            |(at_builtin
              refine wpList_append_own _ rfl _ _ _ rfl N 3 Tryz.t3 (.int .i64 0) 1 8 Go.Proofs.Tryq.u27 Go.Proofs.Tryq.i3 t3z t3s t3b rfl (by omega) _ _ _ rfl (hown.alloc _) ⟨wr.heap.size,0,none⟩ 1 1 [.int .i64 i] rfl rfl (Z1N _ _ _) (by intro u hu;simp at hu;subst hu;rfl) (by(try simp[maxLen]);omega) (by(try simp);omega) (by(try simp only[Z2]);have:=hEr.size;omega) ?_
              intro v' w3' hown3 hgrow3 _
              replace hEr:=(hEr.alloc _).grown hgrow3 (fun k hk=>by have:=(hown.lt k hk).1;omega)
              replace hown:OwnI N w3' v' (l++[(i:Int)]):=by simpa[OwnI] using hown3)
            |(go_at_call 39;refine(Zhj bT tn cT T (i:Int) _ htn.out (by omega) (hT.ext hEr)).mono ?_;first|rw[decide_eq_true hTi]|rw[decide_eq_false hTi]
              rintro e w10 ⟨rfl,hF⟩;replace hEr:=hEr.trans hF;replace hown:=hown.ext hF;clear hF))
           obtain⟨WX,rfl⟩:∃z,z=w10:=⟨_,rfl⟩
           have hrr:=hEr.get hr;have hTr:=hT.ext hEr;have hEw:=hE.trans hEr
           refine Zia (T:=Value×Value×Value×Value×Value) (fun x=>[(179,.tuple #[.bool false,.int .i64 0]),(180,.agg #[.int .i64 r0,.int .i64 r1,.int .i64 r2,.int .i64 r3,.slice base n cap]),(181,x.1),(182,.slice bT tn cT),(183,x.2.1),(184,.int .i64 i),(185,x.2.2.1),(186,x.2.2.2.1),(187,x.2.2.2.2),(188,.tuple #[.bool false,.int .i64 0]),(189,.bool false),(190,.int .i64 0),(20,.bool false),(21,.int .i64 0)]) (fun x W'=>Ext WX W') ?_ ?_
           ·refine Zhk (ExtX fun b=>WX.heap.size≤b) (by kernel_rfl) ?_
            have hD:=(Ext.rfl' WX).drew
            have hEd:=hEw.trans hD
            have hTd:=hTr.ext hD
            have hcN:¬(WX.heap.size≤w.heap.size):=by have:=Z5 hrr;omega
            obtain⟨_,q0,q1,q2,q3,q4⟩:=And.intro trivial (ZgE (hD.get hrr))
            have hMd:WX.heap.size≤WX.drew.heap.size:=hD.size
            generalize WX.drew=Wd at hD hEd hTd q0 q1 q2 q3 q4 hMd⊢
            have g0:=GrE.cell (X:=fun b=>WX.heap.size≤b) hcN q0;have g1:=GrE.cell (X:=fun b=>WX.heap.size≤b) hcN q1;have g2:=GrE.cell (X:=fun b=>WX.heap.size≤b) hcN q2;have g3:=GrE.cell (X:=fun b=>WX.heap.size≤b) hcN q3;have g4:=GrE.cell (X:=fun b=>WX.heap.size≤b) hcN q4
            refine Zh8 (ExtX.pre _) [0,2,4] (by kernel_rfl) (by kernel_rfl) ?_
            simp only[ZeD,List.getElem?_cons_succ,List.getElem?_cons_zero,List.cons_append,List.nil_append]
            repeat (go_big_quiet_step (fail))
            refine wpQuiet_nil ?_
            clear q0 q1 q2 q3 q4 g0 g1 g2 g3 g4
            have eb:=Ext.rfl' Wd
            refine Zir 1 5 rfl rfl (by kernel_rfl) rfl rfl ?_ ?_
            ·refine Zf3 ⟨.slice (some ⟨Wd.heap.size,0,none⟩) 0 0,Wd.alloc (.cells #[] 3),by simp[go_sem,execOp,Act.eval],Go.Nk.Ext.toX ((Ext.rfl' _).alloc _) _,?_⟩
             go_simp
             have hbz:(Wd.alloc (.cells #[] 3)).heap[Wd.heap.size]? =some (.cells #[] 3):=by rw[Z3,if_pos rfl]
             have eWa:=(Ext.rfl' Wd).alloc (.cells #[] 3)
             obtain⟨bz,zbz⟩:∃z,z=Wd.heap.size:=⟨_,rfl⟩
             rw[←zbz] at hbz;rw[←zbz]
             replace zbz:Wd.heap.size≤bz∧bz≤Wd.heap.size:=by omega
             generalize World.alloc Wd _=Wa at hbz eWa⊢
             have lbz:=Z5 hbz
             replace eb:=eb.trans eWa
             refine Zir 3 5 rfl rfl (by kernel_rfl) rfl rfl ?_ ?_
             ·refine Zhm _ _ rfl Wd.heap.size _ [] rfl (Zj0 hbz (by omega)) bT cT T (by rw[htn.out];rfl) hnil (hTd.ext eb) (by simp[htn.out];omega) eb.size (fun v183 Wb own3 hg3=>⟨Zhv hg3 (fun k hk=>by cases hk;show _≤bz;omega),?_⟩)
              rw[List.nil_append] at own3
              go_simp
              replace eb:=eb.grown hg3 (fun k hk=>by cases hk;show Wd.heap.size≤bz;omega)
              refine Zh4 5 rfl (by kernel_rfl) rfl ?_
              refine Zf3 ⟨.slice (some ⟨Wb.heap.size,0,none⟩) 1 1,Wb.alloc (.cells #[.int .i64 i] 3),by simp[go_sem,execOp,Act.eval],Go.Nk.Ext.toX ((Ext.rfl' _).alloc _) _,?_⟩
              go_simp
              have hb5:(Wb.alloc (.cells #[.int .i64 i] 3)).heap[Wb.heap.size]? =some (.cells #[.int .i64 i] 3):=by rw[Z3,if_pos rfl]
              have eWc:=(Ext.rfl' Wb).alloc (.cells #[.int .i64 i] 3)
              obtain⟨b5,zb5⟩:∃z,z=Wb.heap.size:=⟨_,rfl⟩
              rw[←zb5] at hb5;rw[←zb5]
              replace zb5:Wb.heap.size≤b5∧b5≤Wb.heap.size:=by omega
              generalize World.alloc Wb _=Wc at hb5 eWc⊢
              have lb5:=Z5 hb5
              replace eb:=eb.trans eWc
              replace own3:=own3.ext eWc
              refine Zh4 6 rfl (by kernel_rfl) rfl (Zhm _ _ rfl Wd.heap.size v183 T rfl own3 (some ⟨b5,0,none⟩) 1 [(i:Int)] rfl (by intro h;cases h) (Z0V hb5 rfl) (by simp[htn.out];omega) eb.size (fun v6 W6 own6 hg6=>⟨Zhv hg6 (fun k hk=>by have:=(own3.lt k hk).1;show _≤k;omega),?_⟩))
              replace eb:=eb.grown hg6 (fun k hk=>(own3.lt k hk).1)
              obtain⟨g6,c6,rfl,hI6,hc6⟩:=own6.rawI
              rw[show(T++[(i:Int)]).length=tn+1 by simp[htn.out]]
              go_simp
              refine Zh4 7 rfl (by kernel_rfl) rfl (Zfo (f:=72) (args:= #[.agg #[.int .i64 r0,.int .i64 r1,.int .i64 r2,.int .i64 r3,.slice base n cap],.slice g6 (tn+1) c6]) (by simp[go_sem,execOp,Act.eval]) ?_)
              refine(hso4 g6 c6 W6 (hEd.trans eb) hI6).mono ?_
              rintro e W7 ⟨ab,cb,rfl,hF7,hfit⟩
              refine⟨_,rfl,Go.Nk.Ext.toX hF7 _,?_⟩
              go_simp
              refine Zh4 8 rfl (by kernel_rfl) rfl (Zfo (f:=64) (args:= #[.agg #[.int .i64 r0,.int .i64 r1,.int .i64 r2,.int .i64 r3,.slice ab (tn+1) cb]]) (by simp[go_sem,execOp,Act.eval]) ?_)
              refine(hfit W7 (Ext.rfl' _)).mono ?_
              rintro e W8 ⟨rfl,hF8⟩
              refine⟨_,rfl,Go.Nk.Ext.toX hF8 _,?_⟩
              go_simp
              refine Zh8 (ExtX.pre _) [9,10,11,12,13] (by kernel_rfl) (by kernel_rfl) ?_
              simp only[ZeD,List.getElem?_cons_succ,List.getElem?_cons_zero,List.cons_append,List.nil_append]
              repeat (go_big_quiet_step (fail))
              refine wpQuiet_nil ?_
              refine ZhF (by kernel_rfl) ?_
              exact⟨rfl,⟨.slice (some ⟨bz,0,none⟩) 0 0,v183,.slice (some ⟨b5,0,none⟩) 1 1,.slice g6 (tn+1) c6,.agg #[.int .i64 r0,.int .i64 r1,.int .i64 r2,.int .i64 r3,.slice ab (tn+1) cb],(by simp only[Zip,Act.put];go_simp)⟩,((hD.trans eb).trans hF7).trans hF8⟩
             ·refine Zf3 ⟨.slice (some ⟨Wa.heap.size,0,none⟩) 1 1,Wa.alloc (.cells #[.int .i64 i] 3),by simp[go_sem,execOp,Act.eval],Go.Nk.Ext.toX ((Ext.rfl' _).alloc _) _,?_⟩
              go_simp
              have hb5:(Wa.alloc (.cells #[.int .i64 i] 3)).heap[Wa.heap.size]? =some (.cells #[.int .i64 i] 3):=by rw[Z3,if_pos rfl]
              have eWb:=(Ext.rfl' Wa).alloc (.cells #[.int .i64 i] 3)
              obtain⟨b5,zb5⟩:∃z,z=Wa.heap.size:=⟨_,rfl⟩
              rw[←zb5] at hb5;rw[←zb5]
              replace zb5:Wa.heap.size≤b5∧b5≤Wa.heap.size:=by omega
              generalize World.alloc Wa _=Wb at hb5 eWb⊢
              have lb5:=Z5 hb5
              replace eb:=eb.trans eWb
              replace hbz:=eWb.get hbz
              refine Zh4 3 rfl (by kernel_rfl) rfl ?_
              refine Zhm _ _ rfl Wd.heap.size _ [] rfl (Zj0 hbz (by omega)) bT cT T (by rw[htn.out];rfl) hnil (hTd.ext eb) (by simp[htn.out];omega) eb.size (fun v183 Wc own3 hg3=>⟨Zhv hg3 (fun k hk=>by cases hk;show _≤bz;omega),?_⟩)
              rw[List.nil_append] at own3
              go_simp
              replace hb5:=(hg3.block b5 (Z5 hb5) (by intro e;injection e with e;change b5=bz at e;omega)).trans hb5
              replace eb:=eb.grown hg3 (fun k hk=>by cases hk;show Wd.heap.size≤bz;omega)
              refine Zh4 6 rfl (by kernel_rfl) rfl (Zhm _ _ rfl Wd.heap.size v183 T rfl own3 (some ⟨b5,0,none⟩) 1 [(i:Int)] rfl (by intro h;cases h) (Z0V hb5 rfl) (by simp[htn.out];omega) eb.size (fun v6 W6 own6 hg6=>⟨Zhv hg6 (fun k hk=>by have:=(own3.lt k hk).1;show _≤k;omega),?_⟩))
              replace eb:=eb.grown hg6 (fun k hk=>(own3.lt k hk).1)
              obtain⟨g6,c6,rfl,hI6,hc6⟩:=own6.rawI
              rw[show(T++[(i:Int)]).length=tn+1 by simp[htn.out]]
              go_simp
              refine Zh4 7 rfl (by kernel_rfl) rfl (Zfo (f:=72) (args:= #[.agg #[.int .i64 r0,.int .i64 r1,.int .i64 r2,.int .i64 r3,.slice base n cap],.slice g6 (tn+1) c6]) (by simp[go_sem,execOp,Act.eval]) ?_)
              refine(hso4 g6 c6 W6 (hEd.trans eb) hI6).mono ?_
              rintro e W7 ⟨ab,cb,rfl,hF7,hfit⟩
              refine⟨_,rfl,Go.Nk.Ext.toX hF7 _,?_⟩
              go_simp
              refine Zh4 8 rfl (by kernel_rfl) rfl (Zfo (f:=64) (args:= #[.agg #[.int .i64 r0,.int .i64 r1,.int .i64 r2,.int .i64 r3,.slice ab (tn+1) cb]]) (by simp[go_sem,execOp,Act.eval]) ?_)
              refine(hfit W7 (Ext.rfl' _)).mono ?_
              rintro e W8 ⟨rfl,hF8⟩
              refine⟨_,rfl,Go.Nk.Ext.toX hF8 _,?_⟩
              go_simp
              refine Zh8 (ExtX.pre _) [9,10,11,12,13] (by kernel_rfl) (by kernel_rfl) ?_
              simp only[ZeD,List.getElem?_cons_succ,List.getElem?_cons_zero,List.cons_append,List.nil_append]
              repeat (go_big_quiet_step (fail))
              refine wpQuiet_nil ?_
              refine ZhF (by kernel_rfl) ?_
              exact⟨rfl,⟨.slice (some ⟨bz,0,none⟩) 0 0,v183,.slice (some ⟨b5,0,none⟩) 1 1,.slice g6 (tn+1) c6,.agg #[.int .i64 r0,.int .i64 r1,.int .i64 r2,.int .i64 r3,.slice ab (tn+1) cb],(by simp only[Zip,Act.put];go_simp)⟩,((hD.trans eb).trans hF7).trans hF8⟩
            ·refine Zf3 ⟨.slice (some ⟨Wd.heap.size,0,none⟩) 1 1,Wd.alloc (.cells #[.int .i64 i] 3),by simp[go_sem,execOp,Act.eval],Go.Nk.Ext.toX ((Ext.rfl' _).alloc _) _,?_⟩
             go_simp
             have hb5:(Wd.alloc (.cells #[.int .i64 i] 3)).heap[Wd.heap.size]? =some (.cells #[.int .i64 i] 3):=by rw[Z3,if_pos rfl]
             have eWa:=(Ext.rfl' Wd).alloc (.cells #[.int .i64 i] 3)
             obtain⟨b5,zb5⟩:∃z,z=Wd.heap.size:=⟨_,rfl⟩
             rw[←zb5] at hb5;rw[←zb5]
             replace zb5:Wd.heap.size≤b5∧b5≤Wd.heap.size:=by omega
             generalize World.alloc Wd _=Wa at hb5 eWa⊢
             have lb5:=Z5 hb5
             replace eb:=eb.trans eWa
             refine Zh4 1 rfl (by kernel_rfl) rfl ?_
             refine Zf3 ⟨.slice (some ⟨Wa.heap.size,0,none⟩) 0 0,Wa.alloc (.cells #[] 3),by simp[go_sem,execOp,Act.eval],Go.Nk.Ext.toX ((Ext.rfl' _).alloc _) _,?_⟩
             go_simp
             have hbz:(Wa.alloc (.cells #[] 3)).heap[Wa.heap.size]? =some (.cells #[] 3):=by rw[Z3,if_pos rfl]
             have eWb:=(Ext.rfl' Wa).alloc (.cells #[] 3)
             obtain⟨bz,zbz⟩:∃z,z=Wa.heap.size:=⟨_,rfl⟩
             rw[←zbz] at hbz;rw[←zbz]
             replace zbz:Wa.heap.size≤bz∧bz≤Wa.heap.size:=by omega
             generalize World.alloc Wa _=Wb at hbz eWb⊢
             have lbz:=Z5 hbz
             replace eb:=eb.trans eWb
             replace hb5:=eWb.get hb5
             refine Zh4 3 rfl (by kernel_rfl) rfl ?_
             refine Zhm _ _ rfl Wd.heap.size _ [] rfl (Zj0 hbz (by omega)) bT cT T (by rw[htn.out];rfl) hnil (hTd.ext eb) (by simp[htn.out];omega) eb.size (fun v183 Wc own3 hg3=>⟨Zhv hg3 (fun k hk=>by cases hk;show _≤bz;omega),?_⟩)
             rw[List.nil_append] at own3
             go_simp
             replace hb5:=(hg3.block b5 (Z5 hb5) (by intro e;injection e with e;change b5=bz at e;omega)).trans hb5
             replace eb:=eb.grown hg3 (fun k hk=>by cases hk;show Wd.heap.size≤bz;omega)
             refine Zh4 6 rfl (by kernel_rfl) rfl (Zhm _ _ rfl Wd.heap.size v183 T rfl own3 (some ⟨b5,0,none⟩) 1 [(i:Int)] rfl (by intro h;cases h) (Z0V hb5 rfl) (by simp[htn.out];omega) eb.size (fun v6 W6 own6 hg6=>⟨Zhv hg6 (fun k hk=>by have:=(own3.lt k hk).1;show _≤k;omega),?_⟩))
             replace eb:=eb.grown hg6 (fun k hk=>(own3.lt k hk).1)
             obtain⟨g6,c6,rfl,hI6,hc6⟩:=own6.rawI
             rw[show(T++[(i:Int)]).length=tn+1 by simp[htn.out]]
             go_simp
             refine Zh4 7 rfl (by kernel_rfl) rfl (Zfo (f:=72) (args:= #[.agg #[.int .i64 r0,.int .i64 r1,.int .i64 r2,.int .i64 r3,.slice base n cap],.slice g6 (tn+1) c6]) (by simp[go_sem,execOp,Act.eval]) ?_)
             refine(hso4 g6 c6 W6 (hEd.trans eb) hI6).mono ?_
             rintro e W7 ⟨ab,cb,rfl,hF7,hfit⟩
             refine⟨_,rfl,Go.Nk.Ext.toX hF7 _,?_⟩
             go_simp
             refine Zh4 8 rfl (by kernel_rfl) rfl (Zfo (f:=64) (args:= #[.agg #[.int .i64 r0,.int .i64 r1,.int .i64 r2,.int .i64 r3,.slice ab (tn+1) cb]]) (by simp[go_sem,execOp,Act.eval]) ?_)
             refine(hfit W7 (Ext.rfl' _)).mono ?_
             rintro e W8 ⟨rfl,hF8⟩
             refine⟨_,rfl,Go.Nk.Ext.toX hF8 _,?_⟩
             go_simp
             refine Zh8 (ExtX.pre _) [9,10,11,12,13] (by kernel_rfl) (by kernel_rfl) ?_
             simp only[ZeD,List.getElem?_cons_succ,List.getElem?_cons_zero,List.cons_append,List.nil_append]
             repeat (go_big_quiet_step (fail))
             refine wpQuiet_nil ?_
             refine ZhF (by kernel_rfl) ?_
             exact⟨rfl,⟨.slice (some ⟨bz,0,none⟩) 0 0,v183,.slice (some ⟨b5,0,none⟩) 1 1,.slice g6 (tn+1) c6,.agg #[.int .i64 r0,.int .i64 r1,.int .i64 r2,.int .i64 r3,.slice ab (tn+1) cb],(by simp only[Zip,Act.put];go_simp)⟩,((hD.trans eb).trans hF7).trans hF8⟩
           ·rintro⟨v181,v183,v185,v186,v187⟩ W' hEW
            simp only[Zip,Act.put]
            go_simp
            replace hown:=hown.ext hEW;replace hEr:=hEr.trans hEW
            clear hso4 hEW hEw hTr hrr
            go_wp2
            exact⟨⟨i+1,by omega,by push_cast;rfl,by rw[HN.out];exact hown,hEr⟩,by simp[intOf];omega⟩)
   ·have hlt:i<n:=by omega
    have hlt2:(i:Int)<(n:Int):=by omega
    clear q0 q1 q2 q3 q4
    go_wp2
    obtain⟨wo,rfl⟩:∃wo:World,wo=wr:=⟨_,rfl⟩
    go_loopw [12,14] (fun v12 v14 wr=>∃(k:Nat)(pb:Bool),i<k∧k≤n∧v12= .bool pb∧v14= .int .i64 k∧Ext w wr∧wr.heap[w.heap.size]? =some (.cells #[.int .i64 r0,.int .i64 r1,.int .i64 r2,.int .i64 r3,.slice base n cap] 70)∧RawI wr bC C∧RawI wr bT T∧Hid (pb=true↔AllT (FF F) (upL n) i k)) (fun _ v14 _=>n - (intOf v14).toNat)
    case atStart=>exact⟨i+1,pb,by omega,by omega,rfl,by push_cast;rfl,hE,hr,hC,hT,hpb.out.trans AllT.in_.symm⟩
    case round=>
     clear hE hr hC hT hpb
     obtain⟨k,pb,hik,hk,rfl,rfl,hE,hr,hC,hT,hpb⟩:=hrel
     by_cases hkn:k=n
     ·subst hkn
      have hp2:Hid (pb=true↔AllT (FF F) (upL k) (i+1) 0):=hpb.out.trans (AllT.out (by simp[upL]))
      clear hpb
      go_wp2
      exact⟨⟨i+1,pb,by omega,rfl,by push_cast;rfl,hE,hr,hC,hT,hp2⟩,by simp[intOf];omega⟩
     ·have hk2:k<n:=by omega
      have hk3:(k:Int)<(n:Int):=by omega
      have hso2:=fun bl cl W (hW:Ext w W)(hI:RawI W bl [(i:Int),(k:Int)])=>hso [(i:Int),(k:Int)] 2 bl cl W rfl (by omega) (by intro j hj;simp only[List.mem_cons,List.not_mem_nil,or_false] at hj;rcases hj with rfl|rfl<;>omega) hW hI
      obtain⟨is,his⟩:∃b,b=F [(i:Int),(k:Int)]:=⟨_,rfl⟩
      have hp2:Hid ((pb&&is)=true↔AllT (FF F) (upL n) i (k+1)):=by
       show _↔_
       rw[AllT.step hik (Zj6 hlt) (Zj6 hk2),←hpb.out]
       have:FF F [(i:Int),(k:Int)]=if is then 1 else 0:=by rw[his]
       rw[this]
       cases is<;>simp
      simp only[←his] at hso2
      replace his:Hid (is=F [(i:Int),(k:Int)]):=his
      clear hpb
      obtain⟨q0,q1,q2,q3,q4⟩:=ZgE hr
      cases is
      ·have h1:=hp1.out i k hik hk2 his.out.symm
       first
        |exact absurd h1.1 (by decide)
        |(have hls:=fun bl W (hI:RawI W bl [(i:Int),(k:Int)])(hC:RawI W bC C)=>ZgX bl 2 2 [(i:Int),(k:Int)] bC 2 cC C W rfl hcn.out (by decide) hI hC
          simp only[h1.2] at hls
          cases pb
          all_goals
           go_wp2_with (first
            |(go_at_call 72;refine(hso2 _ _ _ (hE.alloc _) (Z0V ((Z3 _ _ _).trans (if_pos rfl)) rfl)).mono ?_;rintro e w5 ⟨ab,cb,rfl,hF,hfit⟩;replace hF:=((Ext.rfl' _).alloc _).trans hF;replace hE:=hE.trans hF;replace hr:=hF.get hr;replace hC:=hC.ext hF;replace hT:=hT.ext hF;clear q0 q1 q2 q3 q4 hF)
            |(go_at_call 64;refine(hfit _ (Ext.rfl' _)).mono ?_;rintro e w6 ⟨rfl,hF⟩;replace hE:=hE.trans hF;replace hr:=hF.get hr;replace hC:=hC.ext hF;replace hT:=hT.ext hF;clear hF hfit)
            |(go_at_call 70;refine(hls _ _ (Z0V ((Z3 _ _ _).trans (if_pos rfl)) rfl) (hC.ext ((Ext.rfl' _).alloc _))).mono ?_;rintro e w7 ⟨rfl,hF⟩;replace hF:=((Ext.rfl' _).alloc _).trans hF;replace hE:=hE.trans hF;replace hr:=hF.get hr;replace hC:=hC.ext hF;replace hT:=hT.ext hF;clear hF))
           exact⟨⟨k+1,false,by omega,by omega,rfl,by push_cast;rfl,hE,hr,hC,hT,hp2⟩,by simp[intOf];omega⟩)
      ·have h1:=hp2_.out i k his.out.symm
       cases pb
       all_goals
        go_wp2_with (first
         |(go_at_call 72;refine(hso2 _ _ _ (hE.alloc _) (Z0V ((Z3 _ _ _).trans (if_pos rfl)) rfl)).mono ?_;rintro e w5 ⟨ab,cb,rfl,hF,hfit⟩;replace hF:=((Ext.rfl' _).alloc _).trans hF;replace hE:=hE.trans hF;replace hr:=hF.get hr;replace hC:=hC.ext hF;replace hT:=hT.ext hF;clear q0 q1 q2 q3 q4 hF)
         |(go_at_call 64;refine(hfit _ (Ext.rfl' _)).mono ?_;rintro e w6 ⟨rfl,hF⟩;replace hE:=hE.trans hF;replace hr:=hF.get hr;replace hC:=hC.ext hF;replace hT:=hT.ext hF;clear hF hfit)
         |(go_at_call 58;refine(Z1d bC _ cC C _ 2 2 [(i:Int),(k:Int)] _ hcn.out rfl (by decide) (hC.ext ((Ext.rfl' _).alloc _)) (Z0V ((Z3 _ _ _).trans (if_pos rfl)) rfl)).mono ?_;rw[decide_eq_false h1];rintro e w7 ⟨rfl,hF⟩;replace hF:=((Ext.rfl' _).alloc _).trans hF;replace hE:=hE.trans hF;replace hr:=hF.get hr;replace hC:=hC.ext hF;replace hT:=hT.ext hF;clear hF))
        exact⟨⟨k+1,_,by omega,by omega,rfl,by push_cast;rfl,hE,hr,hC,hT,hp2⟩,by simp[intOf];omega⟩
end Go.Proofs.Tryq
namespace Go.Proofs.Tryq
set_option maxRecDepth 100000
set_option maxHeartbeats 4000000
open Go Go.Nk Go.RowKit
theorem Zgh(s:Rs):okS s=(inR s.a 0 90&&decide (0≤s.m∧s.m≤s.M∧s.M≤99999)&&inR s.wi 0 9&&inR s.li 0 9):=rfl
theorem Zga(r0 r1 r2 r3:Int):Z5y r0 r1 r2 r3=if inR r0 0 999&&inR r1 0 999&&inR r2 0 999&&inR r3 0 999&&decide (r0≤r1) then 0 else 1:=rfl
theorem ZfQ(r0 r1 r2 r3:Int)(base:Option Addr)(n cap:Nat)(S:List Rs)(w:World)(hlen:S.length=n)(hS:RawS w base S):
 Calls prog 63 #[.agg #[.int .i64 r0,.int .i64 r1,.int .i64 r2,.int .i64 r3,.slice base n cap]] w fun e w'=>e= .returned (.int .i64 (ZC r0 r1 r2 r3 S))∧Ext w w':=by
 have H0:Hid (ZC r0 r1 r2 r3 S=if inR r0 0 999&&inR r1 0 999&&inR r2 0 999&&inR r3 0 999&&decide (r0≤r1) then(if 8<n then 2 else if(S.drop 0).all okS then 0 else 1) else 1):=by
  show _=_
  rw[ZC,firstV,Zga]
  by_cases h:(inR r0 0 999&&inR r1 0 999&&inR r2 0 999&&inR r3 0 999&&decide (r0≤r1))=true
  ·rw[if_pos h,if_pos h,if_pos rfl,firstV,Z23,hlen]
   by_cases h8:8<n
   ·simp[h8]
   ·rw[if_neg h8,List.drop_zero]
    by_cases ha:S.all okS=true
    ·simp[h8,ha,firstV]
    ·simp[h8,ha]
  ·rw[if_neg h,if_neg h,if_neg (by decide)]
 have hr0:=fun W=>Zgc r0 0 999 W;have hr1:=fun W=>Zgc r1 0 999 W;have hr2:=fun W=>Zgc r2 0 999 W;have hr3:=fun W=>Zgc r3 0 999 W
 generalize inR r0 0 999=b0 at*
 generalize inR r1 0 999=b1 at*
 generalize inR r2 0 999=b2 at*
 generalize inR r3 0 999=b3 at*
 have hE0:=((Ext.rfl' w).alloc (.cells #[.int .i64 r0,.int .i64 r1,.int .i64 r2,.int .i64 r3,.slice base n cap] 70)).alloc (.cells #[.int .i64 r0,.int .i64 r1,.int .i64 r2,.int .i64 r3] 67)
 have hb0:((w.alloc (.cells #[.int .i64 r0,.int .i64 r1,.int .i64 r2,.int .i64 r3,.slice base n cap] 70)).alloc (.cells #[.int .i64 r0,.int .i64 r1,.int .i64 r2,.int .i64 r3] 67)).heap[w.heap.size]? =some (.cells #[.int .i64 r0,.int .i64 r1,.int .i64 r2,.int .i64 r3,.slice base n cap] 70):=by
  simp only[Z3,Z2];rw[if_neg (by omega),if_pos trivial]
 replace hlen:Hid (S.length=n):=hlen
 have hS2:Hid (RawS w base S):=hS
 clear hS
 cases b0 with
 |false=>(
   have H1:Hid (ZC r0 r1 r2 r3 S=1):=by show _=_;rw[H0.out];simp
   clear H0
   go_enter func63,ntmps63
   go_wp2_with (first|(go_at_call 93;(with_reducible refine(hr0 _).mono ?_);rintro e w2 ⟨rfl,rfl⟩)|(go_at_call 93;(with_reducible refine(hr1 _).mono ?_);rintro e w2 ⟨rfl,rfl⟩)|(go_at_call 93;(with_reducible refine(hr2 _).mono ?_);rintro e w2 ⟨rfl,rfl⟩)|(go_at_call 93;(with_reducible refine(hr3 _).mono ?_);rintro e w2 ⟨rfl,rfl⟩))
   go_ret
   exact⟨ZK (a:=1) H1.out.symm,hE0⟩)
 |true=>
  cases b1 with
  |false=>(
    have H1:Hid (ZC r0 r1 r2 r3 S=1):=by show _=_;rw[H0.out];simp
    clear H0
    go_enter func63,ntmps63
    go_wp2_with (first|(go_at_call 93;(with_reducible refine(hr0 _).mono ?_);rintro e w2 ⟨rfl,rfl⟩)|(go_at_call 93;(with_reducible refine(hr1 _).mono ?_);rintro e w2 ⟨rfl,rfl⟩)|(go_at_call 93;(with_reducible refine(hr2 _).mono ?_);rintro e w2 ⟨rfl,rfl⟩)|(go_at_call 93;(with_reducible refine(hr3 _).mono ?_);rintro e w2 ⟨rfl,rfl⟩))
    go_ret
    exact⟨ZK (a:=1) H1.out.symm,hE0⟩)
  |true=>
   cases b2 with
   |false=>(
     have H1:Hid (ZC r0 r1 r2 r3 S=1):=by show _=_;rw[H0.out];simp
     clear H0
     go_enter func63,ntmps63
     go_wp2_with (first|(go_at_call 93;(with_reducible refine(hr0 _).mono ?_);rintro e w2 ⟨rfl,rfl⟩)|(go_at_call 93;(with_reducible refine(hr1 _).mono ?_);rintro e w2 ⟨rfl,rfl⟩)|(go_at_call 93;(with_reducible refine(hr2 _).mono ?_);rintro e w2 ⟨rfl,rfl⟩)|(go_at_call 93;(with_reducible refine(hr3 _).mono ?_);rintro e w2 ⟨rfl,rfl⟩))
     go_ret
     exact⟨ZK (a:=1) H1.out.symm,hE0⟩)
   |true=>
    cases b3 with
    |false=>(
      have H1:Hid (ZC r0 r1 r2 r3 S=1):=by show _=_;rw[H0.out];simp
      clear H0
      go_enter func63,ntmps63
      go_wp2_with (first|(go_at_call 93;(with_reducible refine(hr0 _).mono ?_);rintro e w2 ⟨rfl,rfl⟩)|(go_at_call 93;(with_reducible refine(hr1 _).mono ?_);rintro e w2 ⟨rfl,rfl⟩)|(go_at_call 93;(with_reducible refine(hr2 _).mono ?_);rintro e w2 ⟨rfl,rfl⟩)|(go_at_call 93;(with_reducible refine(hr3 _).mono ?_);rintro e w2 ⟨rfl,rfl⟩))
      go_ret
      exact⟨ZK (a:=1) H1.out.symm,hE0⟩)
    |true=>
     by_cases hr:r0≤r1
     ·have hrd:decide (r0≤r1)=true:=decide_eq_true hr
      rw[hrd] at H0
      simp only[Bool.and_self,if_true] at H0
      clear hrd
      by_cases h8:8<n
      ·have h8i:(8:Int)<(n:Int):=by omega
       have H1:Hid (ZC r0 r1 r2 r3 S=2):=by show _=_;rw[H0.out,if_pos h8]
       clear H0 h8
       go_enter func63,ntmps63
       go_wp2_with (first|(go_at_call 93;(with_reducible refine(hr0 _).mono ?_);rintro e w2 ⟨rfl,rfl⟩)|(go_at_call 93;(with_reducible refine(hr1 _).mono ?_);rintro e w2 ⟨rfl,rfl⟩)|(go_at_call 93;(with_reducible refine(hr2 _).mono ?_);rintro e w2 ⟨rfl,rfl⟩)|(go_at_call 93;(with_reducible refine(hr3 _).mono ?_);rintro e w2 ⟨rfl,rfl⟩))
       go_ret
       exact⟨ZK (a:=2) H1.out.symm,hE0⟩
      ·have h8i:(n:Int)≤8:=by omega
       have H1:Hid (ZC r0 r1 r2 r3 S=if(S.drop 0).all okS then 0 else 1):=by show _=_;rw[H0.out,if_neg h8]
       clear H0 h8
       go_enter func63,ntmps63
       go_wp2_with (first|(go_at_call 93;(with_reducible refine(hr0 _).mono ?_);rintro e w2 ⟨rfl,rfl⟩)|(go_at_call 93;(with_reducible refine(hr1 _).mono ?_);rintro e w2 ⟨rfl,rfl⟩)|(go_at_call 93;(with_reducible refine(hr2 _).mono ?_);rintro e w2 ⟨rfl,rfl⟩)|(go_at_call 93;(with_reducible refine(hr3 _).mono ?_);rintro e w2 ⟨rfl,rfl⟩))
       clear hr0 hr1 hr2 hr3
       go_loopw [4] (fun v wr=>∃i:Nat,i≤n∧v= .int .i64 i∧Ext w wr∧wr.heap[w.heap.size]? =some (.cells #[.int .i64 r0,.int .i64 r1,.int .i64 r2,.int .i64 r3,.slice base n cap] 70)∧Hid (ZC r0 r1 r2 r3 S=if(S.drop i).all okS then 0 else 1)) (fun v _=>n - (intOf v).toNat)
       case atStart=>exact⟨0,Nat.zero_le _,rfl,hE0,hb0,H1⟩
       case round=>
        clear hE0 hb0 H1
        obtain⟨i,hi,rfl,hE,hb,HP⟩:=hrel
        have q4:=Z0 hb 4
        simp only[List.getElem?_toArray,List.getElem?_cons_zero,List.getElem?_cons_succ] at q4
        by_cases hin:i=n
        ·subst hin
         have HR:Hid (ZC r0 r1 r2 r3 S=0):=by show _=_;rw[HP.out,List.drop_of_length_le (by have:=hlen.out;omega)];rfl
         clear HP
         go_wp2
         go_ret
         exact⟨ZK (a:=0) HR.out.symm,hE⟩
        ·have hlt:i<n:=by omega
         have hlt2:(i:Int)<(n:Int):=by omega
         obtain⟨s,hs⟩:∃s,S[i]? =some s:=⟨_,List.getElem?_eq_getElem (by have:=hlen.out;omega)⟩
         obtain⟨BS,OS,rfl,hBS,sh⟩:=hS2.out i s hs
         have HN:Hid (ZC r0 r1 r2 r3 S=if inR s.a 0 90&&decide (0≤s.m∧s.m≤s.M∧s.M≤99999)&&inR s.wi 0 9&&inR s.li 0 9&&(S.drop (i+1)).all okS then 0 else 1):=by show _=_;rw[HP.out,Z0b hs,List.all_cons,Zgh]
         have s0:=hE.cellS sh.c0;have s1:=hE.cellS sh.c1;have s2:=hE.cellS sh.c2;have s3:=hE.cellS sh.c3;have s4:=hE.cellS sh.c4
         have hr0:=fun W=>Zgc s.a 0 90 W;have hr2:=fun W=>Zgc s.wi 0 9 W;have hr3:=fun W=>Zgc s.li 0 9 W
         have hr1:=fun W=>Z2e s.m s.M 0 99999 W
         clear HP hs sh hS2
         generalize inR s.a 0 90=b0 at*
         generalize decide (0≤s.m∧s.m≤s.M∧s.M≤99999)=b1 at*
         generalize inR s.wi 0 9=b2 at*
         generalize inR s.li 0 9=b3 at*
         have hE2:=hE.alloc (.cells #[.int .i64 s.a,.int .i64 s.m,.int .i64 s.M,.int .i64 s.wi,.int .i64 s.li] 80)
         have hb2:=((Ext.rfl' wr).alloc (.cells #[.int .i64 s.a,.int .i64 s.m,.int .i64 s.M,.int .i64 s.wi,.int .i64 s.li] 80)).get hb
         have hx2:(wr.alloc (.cells #[.int .i64 s.a,.int .i64 s.m,.int .i64 s.M,.int .i64 s.wi,.int .i64 s.li] 80)).heap[wr.heap.size]? =some (.cells #[.int .i64 s.a,.int .i64 s.m,.int .i64 s.M,.int .i64 s.wi,.int .i64 s.li] 80):=by rw[Z3,if_pos rfl]
         cases b0 with
         |false=>(
           have HN2:Hid (ZC r0 r1 r2 r3 S=1):=by show _=_;rw[HN.out];simp
           clear HN
           go_wp2_with (first|(go_at_call 93;(with_reducible refine(hr0 _).mono ?_);rintro e w2 ⟨rfl,rfl⟩)|(go_at_call 95;(with_reducible refine(hr1 _).mono ?_);rintro e w9 ⟨rfl,hE9⟩;replace hE2:=hE2.trans hE9;replace hb2:=hE9.get hb2;replace hx2:=hE9.get hx2;clear hE9;have y0:=Z0 hx2 0;have y1:=Z0 hx2 1;have y2:=Z0 hx2 2;have y3:=Z0 hx2 3;have y4:=Z0 hx2 4;simp only[List.getElem?_toArray,List.getElem?_cons_zero,List.getElem?_cons_succ] at y0 y1 y2 y3 y4)|(go_at_call 93;(with_reducible refine(hr2 _).mono ?_);rintro e w2 ⟨rfl,rfl⟩)|(go_at_call 93;(with_reducible refine(hr3 _).mono ?_);rintro e w2 ⟨rfl,rfl⟩))
           go_ret
           exact⟨ZK (a:=1) HN2.out.symm,hE2⟩)
         |true=>
          cases b1 with
          |false=>(
            have HN2:Hid (ZC r0 r1 r2 r3 S=1):=by show _=_;rw[HN.out];simp
            clear HN
            go_wp2_with (first|(go_at_call 93;(with_reducible refine(hr0 _).mono ?_);rintro e w2 ⟨rfl,rfl⟩)|(go_at_call 95;(with_reducible refine(hr1 _).mono ?_);rintro e w9 ⟨rfl,hE9⟩;replace hE2:=hE2.trans hE9;replace hb2:=hE9.get hb2;replace hx2:=hE9.get hx2;clear hE9;have y0:=Z0 hx2 0;have y1:=Z0 hx2 1;have y2:=Z0 hx2 2;have y3:=Z0 hx2 3;have y4:=Z0 hx2 4;simp only[List.getElem?_toArray,List.getElem?_cons_zero,List.getElem?_cons_succ] at y0 y1 y2 y3 y4)|(go_at_call 93;(with_reducible refine(hr2 _).mono ?_);rintro e w2 ⟨rfl,rfl⟩)|(go_at_call 93;(with_reducible refine(hr3 _).mono ?_);rintro e w2 ⟨rfl,rfl⟩))
            go_ret
            exact⟨ZK (a:=1) HN2.out.symm,hE2⟩)
          |true=>
           cases b2 with
           |false=>(
             have HN2:Hid (ZC r0 r1 r2 r3 S=1):=by show _=_;rw[HN.out];simp
             clear HN
             go_wp2_with (first|(go_at_call 93;(with_reducible refine(hr0 _).mono ?_);rintro e w2 ⟨rfl,rfl⟩)|(go_at_call 95;(with_reducible refine(hr1 _).mono ?_);rintro e w9 ⟨rfl,hE9⟩;replace hE2:=hE2.trans hE9;replace hb2:=hE9.get hb2;replace hx2:=hE9.get hx2;clear hE9;have y0:=Z0 hx2 0;have y1:=Z0 hx2 1;have y2:=Z0 hx2 2;have y3:=Z0 hx2 3;have y4:=Z0 hx2 4;simp only[List.getElem?_toArray,List.getElem?_cons_zero,List.getElem?_cons_succ] at y0 y1 y2 y3 y4)|(go_at_call 93;(with_reducible refine(hr2 _).mono ?_);rintro e w2 ⟨rfl,rfl⟩)|(go_at_call 93;(with_reducible refine(hr3 _).mono ?_);rintro e w2 ⟨rfl,rfl⟩))
             go_ret
             exact⟨ZK (a:=1) HN2.out.symm,hE2⟩)
           |true=>
            cases b3 with
            |false=>(
              have HN2:Hid (ZC r0 r1 r2 r3 S=1):=by show _=_;rw[HN.out];simp
              clear HN
              go_wp2_with (first|(go_at_call 93;(with_reducible refine(hr0 _).mono ?_);rintro e w2 ⟨rfl,rfl⟩)|(go_at_call 95;(with_reducible refine(hr1 _).mono ?_);rintro e w9 ⟨rfl,hE9⟩;replace hE2:=hE2.trans hE9;replace hb2:=hE9.get hb2;replace hx2:=hE9.get hx2;clear hE9;have y0:=Z0 hx2 0;have y1:=Z0 hx2 1;have y2:=Z0 hx2 2;have y3:=Z0 hx2 3;have y4:=Z0 hx2 4;simp only[List.getElem?_toArray,List.getElem?_cons_zero,List.getElem?_cons_succ] at y0 y1 y2 y3 y4)|(go_at_call 93;(with_reducible refine(hr2 _).mono ?_);rintro e w2 ⟨rfl,rfl⟩)|(go_at_call 93;(with_reducible refine(hr3 _).mono ?_);rintro e w2 ⟨rfl,rfl⟩))
              go_ret
              exact⟨ZK (a:=1) HN2.out.symm,hE2⟩)
            |true=>
             have HN2:Hid (ZC r0 r1 r2 r3 S=if(S.drop (i+1)).all okS then 0 else 1):=by show _=_;rw[HN.out];rfl
             clear HN
             go_wp2_with (first|(go_at_call 93;(with_reducible refine(hr0 _).mono ?_);rintro e w2 ⟨rfl,rfl⟩)|(go_at_call 95;(with_reducible refine(hr1 _).mono ?_);rintro e w9 ⟨rfl,hE9⟩;replace hE2:=hE2.trans hE9;replace hb2:=hE9.get hb2;replace hx2:=hE9.get hx2;clear hE9;have y0:=Z0 hx2 0;have y1:=Z0 hx2 1;have y2:=Z0 hx2 2;have y3:=Z0 hx2 3;have y4:=Z0 hx2 4;simp only[List.getElem?_toArray,List.getElem?_cons_zero,List.getElem?_cons_succ] at y0 y1 y2 y3 y4)|(go_at_call 93;(with_reducible refine(hr2 _).mono ?_);rintro e w2 ⟨rfl,rfl⟩)|(go_at_call 93;(with_reducible refine(hr3 _).mono ?_);rintro e w2 ⟨rfl,rfl⟩))
             go_roundw
             case rel=>exact⟨i+1,by omega,by push_cast;rfl,hE2,hb2,HN2⟩
             case measure=>simp[intOf];omega
     ·have hrd:decide (r0≤r1)=false:=decide_eq_false hr
      have hri:r1<r0:=by omega
      have H1:Hid (ZC r0 r1 r2 r3 S=1):=by show _=_;rw[H0.out,hrd];simp
      clear H0 hrd
      go_enter func63,ntmps63
      go_wp2_with (first|(go_at_call 93;(with_reducible refine(hr0 _).mono ?_);rintro e w2 ⟨rfl,rfl⟩)|(go_at_call 93;(with_reducible refine(hr1 _).mono ?_);rintro e w2 ⟨rfl,rfl⟩)|(go_at_call 93;(with_reducible refine(hr2 _).mono ?_);rintro e w2 ⟨rfl,rfl⟩)|(go_at_call 93;(with_reducible refine(hr3 _).mono ?_);rintro e w2 ⟨rfl,rfl⟩))
      go_ret
      exact⟨ZK (a:=1) H1.out.symm,hE0⟩
end Go.Proofs.Tryq
namespace Go.Proofs.Tryq
set_option maxRecDepth 100000
set_option maxHeartbeats 2000000
open Go Go.Nk Go.RowKit
def ZfR(r0 r1 r2 r3:Int)(S:List Rs):Bool:=decide (S.length≤20)&&(ZC r0 r1 r2 r3 S==0)
theorem Zgb(r0 r1 r2 r3:Int)(base:Option Addr)(n cap:Nat)(S:List Rs)(w:World)(hlen:S.length=n)(hS:RawS w base S):
 Calls prog 42 #[.agg #[.int .i64 r0,.int .i64 r1,.int .i64 r2,.int .i64 r3,.slice base n cap]] w fun e w'=>e= .returned (.bool (ZfR r0 r1 r2 r3 S))∧Ext w w':=by
 have hc:=fun W (hW:Ext w W)=>ZfQ r0 r1 r2 r3 base n cap S W hlen (hS.ext hW)
 have hE:=(Ext.rfl' w).alloc (.cells #[.int .i64 r0,.int .i64 r1,.int .i64 r2,.int .i64 r3,.slice base n cap] 70)
 by_cases h20:n≤20
 ·have h20i:(n:Int)≤20:=by omega
  have hf:Hid (ZfR r0 r1 r2 r3 S=(ZC r0 r1 r2 r3 S==0)):=by show _=_;rw[ZfR,hlen];simp[h20]
  generalize ZC r0 r1 r2 r3 S=f at hc hf
  generalize ZfR r0 r1 r2 r3 S=g at hf⊢
  clear h20
  go_enter func42,ntmps42
  go_wp2_with (first|(go_at_call 63;refine(hc _ hE).mono ?_;rintro e w2 ⟨rfl,hE2⟩))
  go_ret
  exact⟨ZP (a:=f==0) hf.out.symm,hE.trans hE2⟩
 ·have h20i:(20:Int)<(n:Int):=by omega
  have hf:Hid (ZfR r0 r1 r2 r3 S=false):=by show _=_;rw[ZfR,hlen];simp[h20]
  generalize ZfR r0 r1 r2 r3 S=g at hf⊢
  clear h20 hc
  go_enter func42,ntmps42
  go_wp2_with fail
  go_ret
  exact⟨ZP (a:=false) hf.out.symm,hE⟩
end Go.Proofs.Tryq
namespace Go.Proofs.Tryq
open Go Go.Nk Go.RowKit
set_option linter.all false
theorem OwnI.raw2{b:Nat}{w:World}{v:Value}{l:List Int}(h:OwnI b w v l):∃ao cp,v= .slice ao l.length cp∧(ao=none→cp=0)∧l.length≤cp∧RawI w ao l:=by
 rcases h.2 with⟨rfl,h0⟩|⟨g,cp,cu,rfl,_,_,h1,_⟩
 ·have:l=[]:=List.length_eq_zero_iff.1 h0
  subst this
  exact⟨none,0,rfl,fun _=>rfl,Nat.le_refl _,fun i x hx=>by simp at hx⟩
 ·exact⟨_,cp,rfl,(fun h=>nomatch h),h1,OwnI.raw h⟩
end Go.Proofs.Tryq
namespace Go.Proofs.Tryq
set_option maxRecDepth 100000
set_option maxHeartbeats 4000000
open Go Go.Nk Go.RowKit
set_option linter.all false
theorem fits_card{r0 r1 r2 r3:Int}{T:List Rs}(hc:ZC r0 r1 r2 r3 T=0):(ZC r0 r1 r2 r3 T==0&&Zz (cvS r0 r1 r2 r3 (T.map Ze)) (2 ^ T.length - 1) T.length)=Zj8 r0 r1 r2 r3 T:=by
 have hok:=Zav hc
 have h1:1≤2 ^ T.length:=Nat.one_le_two_pow
 have:=Z6X hok (k:=2 ^ T.length - 1) (by omega)
 rw[ZfU hok.len] at this
 rw[hc,ZfY,this]
 rfl
theorem Zja(r0 r1 r2 r3 u:Int)(base:Option Addr)(n cap:Nat)(w:World)
 (hfair:∀W,Ext w W→Calls prog 42 #[.agg #[.int .i64 r0,.int .i64 r1,.int .i64 r2,.int .i64 r3,.slice base n cap]] W fun e w'=>e= .returned (.bool false)∧Ext W w')
 (hsh:∀W,Ext w W→Calls prog 22 #[] W fun e w'=>e= .returned (.bool true)∧Ext W w'):
 Calls prog 15 #[.agg #[.int .i64 r0,.int .i64 r1,.int .i64 r2,.int .i64 r3,.slice base n cap],.int .u8 u] w fun e w'=>e= .returned (.bool true):=by
 go_enter func15,ntmps15
 go_wp2_with (first
  |(go_at_call 42;refine(hfair _ ((Ext.rfl' w).alloc _)).mono ?_;rintro e w2 ⟨rfl,hE2⟩
    have hE:=((Ext.rfl' w).alloc _).trans hE2)
  |(go_at_call 22;refine(hsh _ hE).mono ?_;rintro e w3 ⟨rfl,hF⟩))
 go_ret
 exact rfl
theorem Zjt(u:Int)(n:Nat):Zjg u n∈chooseR (upL n):=(chooseR_iff _ _).2 (List.Sublist.map _ List.filter_sublist)
theorem Zj1(r0 r1 r2 r3:Int)(base:Option Addr)(n cap:Nat)(u:Int)(S:List Rs)(w:World)(hlen:S.length=n)(hu:0≤u∧u<256)(hM:Meas w)(hmo:Most w)(hd:Deb w)(hS:RawS w base S):
 Calls prog 15 #[.agg #[.int .i64 r0,.int .i64 r1,.int .i64 r2,.int .i64 r3,.slice base n cap],.int .u8 u] w fun e w'=>e= .returned (.bool true):=by
 have hfa:=fun W (hW:Ext w W)=>Zgb r0 r1 r2 r3 base n cap S W hlen (hS.ext hW)
 have hsh:∀W,Ext w W→Calls prog 22 #[] W fun e w'=>e= .returned (.bool true)∧Ext W w':=fun W (hW:Ext w W)=>Zce W (hM.ext hW) (hmo.ext hW) (hd.ext hW)
 cases hf:ZfR r0 r1 r2 r3 S with
 |false=>
  simp only[hf] at hfa
  exact Zja r0 r1 r2 r3 u base n cap w hfa hsh
 |true=>
  simp only[hf] at hfa
  have hc:ZC r0 r1 r2 r3 S=0:=by simp[ZfR] at hf;exact hf.2
  have h:=clsh hc
  have hn8:=(Zav hc).len
  obtain⟨_,c2,c3,c4⟩:=ZiY h.ck
  obtain⟨t1,t2,t3,t4⟩:=ZiY h.tk
  have hin:∀{i k:Nat},i<k→k<S.length→[(i:Int),(k:Int)]∈chooseR (upL S.length):=fun{i k} hik hk=>
   sub_up (by simp;omega) (by intro x hx;simp only[List.mem_cons,List.not_mem_nil,or_false] at hx;rcases hx with rfl|rfl<;>omega)
  have hTup:(Z7M r0 r1 r2 r3 S).length=S.length→∀i:Nat,i<n→(i:Int)∈Z7M r0 r1 r2 r3 S:=fun e i hi=>by
   rw[((chooseR_iff _ _).1 h.tk).eq_of_length (by rw[Zj5,e])]
   exact Zjk.2 (by omega)
  have hno:∀i:Nat,i<n→(i:Int)∉Z7M r0 r1 r2 r3 S→(Z7M r0 r1 r2 r3 S).length≠S.length:=fun i hi hni e=>hni (hTup e i hi)
  refine Zje r0 r1 r2 r3 u base n cap (Zj8 r0 r1 r2 r3 S) (Z20 r0 r1 r2 r3 S) (Z7L r0 r1 r2 r3 S) (Z7M r0 r1 r2 r3 S) _ _ w (by omega) hu rfl rfl (by omega) (fun i hi hni=>by have:=hno i hi hni;omega)
   (by rw[h.cl];rw[Bool.eq_iff_iff];simp) (by rw[h.ct,Bool.eq_iff_iff,←hlen];simp;omega) (fun e=>(h.two e).1) (by rw[←hlen];exact t2) ?_ ?_ ?_ h.fit ?_ ?_ ?_ hfa ?_ ?_ ?_ ?_ ?_ ?_ hsh
  ·intro i k hik hk hF
   refine⟨?_,h.first _ (hin hik (by omega)) rfl hF⟩
   cases hfa:Zj8 r0 r1 r2 r3 S with
   |false=>rfl
   |true=>rw[(h.pairs hc).1 hfa i k hik (by omega)] at hF;cases hF
  ·intro i k hF e
   cases hfa:Zj8 r0 r1 r2 r3 S with
   |true=>rw[h.none_ hfa] at e;cases e
   |false=>rw[←e,(h.two hfa).2] at hF;cases hF
  ·rw[h.pairs hc]
   constructor
   ·intro ha i k hik hk
    have:=ha i k i k (.inl (by omega)) hik (Zj6 (by omega)) (Zj6 (by omega))
    simpa[FF] using this
   ·intro hp p q x y _ hpq hx hy
    have h1:=(List.getElem?_eq_some_iff.1 hy).1
    rw[Zj5] at h1
    rw[Zj6 (by omega)] at hx hy
    obtain rfl:=Option.some.inj hx
    obtain rfl:=Option.some.inj hy
    simp[FF,hp p q hpq (by omega)]
  ·intro i hi hni
   rw[h.ct]
   exact decide_eq_false (hno i hi hni)
  ·intro i hi hni
   exact h.more hc (by omega) hni
  ·cases hO:Z20 r0 r1 r2 r3 S (Zjg u n) with
   |false=>exact .inl rfl
   |true=>exact .inr (h.most _ (by rw[hlen];exact Zjt u n) hO)
  ·intro W hW
   have:=ZhY r0 r1 r2 r3 base n cap S W hlen (hS.ext hW) (hmo.ext hW)
   subst hlen
   rw[fits_card hc,hc] at this
   exact this
  ·intro W hW
   refine(Zas r0 r1 r2 r3 base n cap S W hlen (hS.ext hW) (hmo.ext hW) (hd.ext hW)).mono ?_
   rintro e w' ⟨v,rfl,hv,hE⟩
   rw[if_pos hc] at hv
   obtain⟨bl,cl,rfl,hI,_⟩:=hv.rawI
   exact⟨bl,cl,by rw[hc],hI,hE⟩
  ·intro W hW
   refine(Zat r0 r1 r2 r3 base n cap S W hlen (hS.ext hW) (hmo.ext hW) (hd.ext hW)).mono ?_
   rintro e w' ⟨v,rfl,hv,hE⟩
   rw[if_pos hc] at hv
   obtain⟨bl,cl,rfl,hnil,_,hI⟩:=hv.raw2
   exact⟨bl,cl,by rw[hc],hnil,hI,hE⟩
  ·intro bl cl W hI
   have:=Z5a n bl _ cl (Z7L r0 r1 r2 r3 S) W (by omega) rfl (by omega) hI
   rw[←hlen,c4] at this
   rw[←hlen]
   exact this
  ·intro bl cl W hI
   have:=Z5a n bl _ cl (Z7M r0 r1 r2 r3 S) W (by omega) rfl (by omega) hI
   rw[←hlen,t4] at this
   rw[←hlen]
   exact this
  ·intro l k bl cl W hk hk8 hj hW hI
   have hjS:∀j∈l,0≤j∧j<S.length:=by rw[hlen];exact hj
   refine(Zjr r0 r1 r2 r3 base n cap S bl k cl l W hlen hk (by omega) (by omega) hjS (hS.ext hW) hI).mono ?_
   rintro e w' ⟨v,rfl,hv,hE⟩
   obtain⟨ab,cb,rfl,hraw,_⟩:=hv.raw
   have hsl:=Zj2 hjS
   have hcs:=Zjc hc hjS (by omega)
   refine⟨ab,cb,by rw[hsl,hk],hE,fun W' hW'=> ?_⟩
   have:=ZhY r0 r1 r2 r3 ab k cb (ZR S l) W' (by rw[hsl,hk]) (hraw.ext hW') (hmo.ext ((hW.trans hE).trans hW'))
   rw[show k=(ZR S l).length by rw[hsl,hk]] at this⊢
   rw[fits_card hcs,hcs,Zjq hc hjS (by omega)] at this
   exact this
end Go.Proofs.Tryq
section
set_option maxRecDepth 100000
namespace Go.Proofs.YtedkbdkbbnemlaaGreatDoor
open Go
namespace JarrowClashes
theorem k0:Rows.arrowClashesRow.wf (OpenSpec.ofChange Rows.arrowClashesSpec)=true:=by kernel_rfl
theorem k1:laidOutB Tryz.prog=true:=by kernel_rfl
theorem k2:mapsRowed Tryz.prog=true:=by kernel_rfl
theorem k3:Tryz.f15.params.all (Tryz.prog.readableRec ·)=true:=by kernel_rfl
theorem k4:namedTie Tryz.prog Rows.arrowClashesRow.named Rows.arrowClashesSpec.vars=true:=by kernel_rfl
theorem k5:(Rows.arrowClashesRow.stops==[])=true:=by kernel_rfl
theorem k6:(Tryz.prog.stops==[])=true:=by kernel_rfl
theorem k7:(Rows.arrowClashesRow.knobs==[])=true:=by kernel_rfl
theorem k8:(Tryz.prog.stopKnobs==[])=true:=by kernel_rfl
theorem k9:(Rows.arrowClashesRow.inPlace==Tryz.prog.inPlace 15)=true:=by kernel_rfl
theorem k10:(Rows.arrowClashesRow.unfollowed==Tryz.prog.unfollowed 15)=true:=by kernel_rfl
theorem k11:(Rows.arrowClashesRow.recurses==Tryz.prog.recurses 15)=true:=by kernel_rfl
theorem k12:(Rows.arrowClashesRow.named==Tryz.prog.varsNamed 15)=true:=by kernel_rfl
theorem k13:(Rows.arrowClashesRow.maps==(Tryz.f15.params.toList++Rows.arrowClashesSpec.plain.varTypes Tryz.prog).any (Tryz.prog.mapsRec ·))=true:=by kernel_rfl
theorem k14:(Rows.arrowClashesRow.ifaces==(Tryz.f15.params.toList++Rows.arrowClashesSpec.plain.varTypes Tryz.prog).any (Tryz.prog.ifacesRec ·))=true:=by kernel_rfl
theorem k15:(Rows.arrowClashesRow.mapsOut==Tryz.prog.mapsAmong Tryz.f15.resultTypes.toList)=true:=by kernel_rfl
theorem k16:(Rows.arrowClashesRow.loops==(Tryz.f15.params.toList++Rows.arrowClashesSpec.plain.varTypes Tryz.prog).any (Tryz.prog.loopsFrom ·))=true:=by kernel_rfl
theorem k17:(Rows.arrowClashesRow.wideKeys==(Tryz.f15.params.toList++Rows.arrowClashesSpec.plain.varTypes Tryz.prog++Tryz.f15.resultTypes.toList).any (Tryz.prog.wideKeysFrom ·))=true:=by kernel_rfl
theorem k18:Rows.arrowClashesSpec.vars.all (Tryz.prog.varReadable ·)=true:=by kernel_rfl
theorem k19:Tryz.f15.resultTypes.all (fun t=>Tryz.prog.readableRec t&&decide (t<Tryz.prog.types.size))=true:=by kernel_rfl
theorem k20:(Rows.arrowClashesRow.ifacesOut==Tryz.f15.resultTypes.toList.any (Tryz.prog.ifacesRec ·))=true:=by kernel_rfl
theorem k21:(Rows.arrowClashesRow.loopsOut==Tryz.f15.resultTypes.toList.any (Tryz.prog.loopsFrom ·))=true:=by kernel_rfl
theorem k22:(Rows.arrowClashesRow.plainKeys==Tryz.prog.plainKeys)=true:=by kernel_rfl
theorem k23:Rows.arrowClashesRow.shortTexts.isNone=true:=by kernel_rfl
theorem k24:Tryz.prog.stopsHeard=true:=by kernel_rfl
theorem k25:Tryz.prog.mayEnter=true:=by kernel_rfl
theorem k26:(Rows.arrowClashesRow.lifted==Tryz.prog.liftsFinal)=true:=by kernel_rfl
theorem k27:(Tryz.prog.make==some Rows.arrowClashesRow.make)=true:=by kernel_rfl
theorem k28:(Rows.arrowClashesRow.kinds==(if Rows.arrowClashesRow.domain.isEmpty then[] else Tryz.f15.params.toList.map fun t=>match Tryz.prog.underlying t with|some (.int k)=>some k|_=>none))=true:=by kernel_rfl
theorem k29:(Rows.arrowClashesRow.pinned==Rows.arrowClashesRow.pinnedBy)=true:=by kernel_rfl
theorem k30:(Rows.arrowClashesRow.veiled==(Tryz.f15.params.toList++Rows.arrowClashesSpec.plain.varTypes Tryz.prog++Tryz.f15.resultTypes.toList).any (Tryz.prog.veiledRec ·))=true:=by kernel_rfl
theorem k31:Rows.arrowClashesRow.veiledFits Tryz.prog Tryz.f15.params.toList (Tryz.f15.params.toList++Rows.arrowClashesSpec.plain.varTypes Tryz.prog++Tryz.f15.resultTypes.toList)=true:=by kernel_rfl
theorem ZI{a b:Bool}(ha:a=true)(hb:b=true):(a&&b)=true:=by rw[ha,hb];rfl
theorem facts:joinedFacts Tryz.prog 15 Tryz.f15 Rows.arrowClashesSpec Rows.arrowClashesRow=true:=(ZI (ZI (ZI (ZI (ZI (ZI (ZI (ZI (ZI (ZI (ZI (ZI (ZI (ZI (ZI (ZI (ZI (ZI (ZI (ZI (ZI (ZI (ZI (ZI (ZI (ZI (ZI (ZI (ZI (ZI (ZI k0 k1) k2) k3) k4) k5) k6) k7) k8) k9) k10) k11) k12) k13) k14) k15) k16) k17) k18) k19) k20) k21) k22) k23) k24) k25) k26) k27) k28) k29) k30) k31)
end JarrowClashes
end Go.Proofs.YtedkbdkbbnemlaaGreatDoor
end
