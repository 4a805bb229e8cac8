import Derived.Test.YtedkbdkbbnemlaaGreatDoorNk25
set_option linter.all false
namespace Go.Proofs.Tryq
set_option maxRecDepth 100000
set_option maxHeartbeats 4000000
open Go Go.Nk Go.RowKit
theorem Z3R{fn:Func}{a p c:Tmp}{ty:TypeId}(h:fn.results= #[.tmp a,.cell p ty,.tmp c])(tmps:Array Value)(P:Program)(w:World):
 (results fn tmps).run P w=((asAddr (tmps.getD p undef)).run P w).andThen fun x w₁=>((loadVar ty x).run P w₁).andThen fun v w₂=> .ok (.tuple #[tmps.getD a undef,v,tmps.getD c undef]) w₂:=by
 simp only[results,h]
 simp[Sem.run_bind,Result.andThen]
def ZG(C:Nat→Int×Int)(a:Nat):Nat→Nat×Int×Int
 |0=>(a,C a)
 |k+1=>if wrap64 ((ZG C a k).2.2 - (ZG C a k).2.1)<wrap64 ((C (a+1+k)).2 - (C (a+1+k)).1) then(a+1+k,C (a+1+k)) else ZG C a k
def Z1O(r0 r1 r2 r3:Int)(S:List Rs)(a b:Int):Int:=firstV (Zy r0 r1 r2 r3 S [Zv a,Zv b,Z6v a b])
def ZaT(r0 r1 r2 r3:Int)(S:List Rs)(a b:Int):Int×Int×Int:=if Z1O r0 r1 r2 r3 S a b=0 then
    (((ZG (fun d=>atF (cvS r0 r1 r2 r3 (S.map Ze)) (2 ^ S.length - 1) d S.length) a.toNat (b - a).toNat).1:Int),(ZG (fun d=>atF (cvS r0 r1 r2 r3 (S.map Ze)) (2 ^ S.length - 1) d S.length) a.toNat (b - a).toNat).2) else(0,0,0)
theorem ZaI{a b:Int}(h:Z6v a b=0):a≤b:=by
 unfold Z6v at h
 split at h
 ·omega
 ·omega
theorem Cv.setPair{w:World}{B n:Nat}{p:Nat→Nat}{C:Nat→Nat→Int×Int}(h:Cv w B n p C){b:Nat}{x y:Int}{t:TypeId}(hb:w.heap[b]? =some (.cells #[.int .i64 x,.int .i64 y] t))(i:Nat)(v:Value):Cv (w.setCell ⟨b,i,none⟩ v) B n p C:=by
 have hB:∀i,i<n→B≠b:=by
  rintro i hi rfl
  have:=h.ptr i hi
  rw[Z0 hb] at this
  match i,this with
  |0,this=>simp at this
  |1,this=>simp at this
  |i+2,this=>simp at this
 have hp:∀i,i<n→p i≠b:=by
  rintro i hi rfl
  have:=h.lo i 90 hi (by omega)
  rw[Z0 hb] at this
  simp at this
 have key:∀c j,c≠b→(w.setCell ⟨b,i,none⟩ v).cell? ⟨c,j,none⟩=w.cell? ⟨c,j,none⟩:=fun c j hc=>by simp only[World.cell?,set_ne (w:=w) (a:=⟨b,i,none⟩) (b:=c) hc v]
 exact⟨fun j hj=>(key _ _ (hB j hj)).trans (h.ptr j hj),fun j d hj hd=>(key _ _ (hp j hj)).trans (h.lo j d hj hd),fun j d hj hd=>(key _ _ (hp j hj)).trans (h.hi j d hj hd)⟩
theorem Cv.setPair2{w:World}{B n:Nat}{p:Nat→Nat}{C:Nat→Nat→Int×Int}(h:Cv w B n p C){b:Nat}{x y:Int}{t:TypeId}(hb:w.heap[b]? =some (.cells #[.int .i64 x,.int .i64 y] t))(x' y':Int):Cv ((w.setCell ⟨b,0,none⟩ (.int .i64 x')).setCell ⟨b,1,none⟩ (.int .i64 y')) B n p C:=
 (h.setPair hb 0 _).setPair (x:=x') (y:=y) (Zb hb _) 1 _
theorem Z8G(r0 r1 r2 r3:Int)(base:Option Addr)(n cap:Nat)(w:World)(at' to':Int)(S:List Rs)(hlen:S.length=n)(hS:RawS w base S)(hmo:Most w):
 Calls prog 52 #[.agg #[.int .i64 r0,.int .i64 r1,.int .i64 r2,.int .i64 r3,.slice base n cap],.int .i64 at',.int .i64 to'] w fun e w'=>
  e= .returned (.tuple #[.int .i64 (ZaT r0 r1 r2 r3 S at' to').1,.agg #[.int .i64 (ZaT r0 r1 r2 r3 S at' to').2.1,.int .i64 (ZaT r0 r1 r2 r3 S at' to').2.2],.int .i64 (Z1O r0 r1 r2 r3 S at' to')])∧Ext w w':=by
 go_enter func52,ntmps52
 go_wp2_with fail
 have hE1:Ext w _:=((((Ext.rfl' w).alloc (.cells #[.int .i64 r0,.int .i64 r1,.int .i64 r2,.int .i64 r3,.slice base n cap] 70)).alloc (.cells #[.int .i64 at'] 3)).alloc (.cells #[.int .i64 to'] 3)).alloc (.cells #[.int .i64 0,.int .i64 0] 48)
 have hb:((((w.alloc (.cells #[.int .i64 r0,.int .i64 r1,.int .i64 r2,.int .i64 r3,.slice base n cap] 70)).alloc (.cells #[.int .i64 at'] 3)).alloc (.cells #[.int .i64 to'] 3)).alloc (.cells #[.int .i64 0,.int .i64 0] 48)).heap[w.heap.size]? =some (.cells #[.int .i64 r0,.int .i64 r1,.int .i64 r2,.int .i64 r3,.slice base n cap] 70):=by
  simp only[Z3,Z2];rw[if_neg (by omega),if_neg (by omega),if_neg (by omega),if_pos trivial]
 have hB1:((((w.alloc (.cells #[.int .i64 r0,.int .i64 r1,.int .i64 r2,.int .i64 r3,.slice base n cap] 70)).alloc (.cells #[.int .i64 at'] 3)).alloc (.cells #[.int .i64 to'] 3)).alloc (.cells #[.int .i64 0,.int .i64 0] 48)).heap[w.heap.size+1]? =some (.cells #[.int .i64 at'] 3):=by
  simp only[Z3,Z2];rw[if_neg (by omega),if_neg (by omega),if_pos trivial]
 have hB2:((((w.alloc (.cells #[.int .i64 r0,.int .i64 r1,.int .i64 r2,.int .i64 r3,.slice base n cap] 70)).alloc (.cells #[.int .i64 at'] 3)).alloc (.cells #[.int .i64 to'] 3)).alloc (.cells #[.int .i64 0,.int .i64 0] 48)).heap[w.heap.size+1+1]? =some (.cells #[.int .i64 to'] 3):=by
  simp only[Z3,Z2];rw[if_neg (by omega),if_pos trivial]
 have hB3:((((w.alloc (.cells #[.int .i64 r0,.int .i64 r1,.int .i64 r2,.int .i64 r3,.slice base n cap] 70)).alloc (.cells #[.int .i64 at'] 3)).alloc (.cells #[.int .i64 to'] 3)).alloc (.cells #[.int .i64 0,.int .i64 0] 48)).heap[w.heap.size+1+1+1]? =some (.cells #[.int .i64 0,.int .i64 0] 48):=by
  simp only[Z3,Z2];rw[if_pos trivial]
 generalize World.alloc _ _=w1 at hE1 hb hB1 hB2 hB3⊢
 have q0:=Z0 hb 0;have q1:=Z0 hb 1;have q2:=Z0 hb 2;have q3:=Z0 hb 3;have q4:=Z0 hb 4
 simp only[List.getElem?_toArray,List.getElem?_cons_zero,List.getElem?_cons_succ] at q0 q1 q2 q3 q4
 have r10:w1.cell? ⟨w.heap.size+1,0,none⟩=some (Value.int .i64 at'):=by rw[Z0 hB1];rfl
 have r20:w1.cell? ⟨w.heap.size+1+1,0,none⟩=some (Value.int .i64 to'):=by rw[Z0 hB2];rfl
 rename_i Q K hK
 have rest:∀(x0 x3 x10 x11 x12 x13 x14 x15 x16 x17 x18 x19 x20 x21 x22 x23 x24 x25 x26 x27 x28 x29 x30 x31 x32 x33 x34 x35 x36 x37 x38 x39 x40 x41 x42 x43 x44 x45 x46 x47 x48 x49 x50 x51 x52 x53 x54 x55 x56 x57 x58 x59:Value)(k0 k1 k2 k3:Int)(b4:Option Addr)(n4 c4':Nat)(b5:Option Addr)(n5 c5:Nat)(bs:Nat)(W:World),Ext w W→W.heap[w.heap.size+1]? =some (.cells #[.int .i64 at'] 3)→W.heap[w.heap.size+1+1]? =some (.cells #[.int .i64 to'] 3)→W.heap[w.heap.size+1+1+1]? =some (.cells #[.int .i64 0,.int .i64 0] 48)→bs≠w.heap.size+1→bs≠w.heap.size+1+1→bs≠w.heap.size+1+1+1→W.heap[bs]? =some (Obj.cells #[.int .i64 k0,.int .i64 k1,.int .i64 k2,.int .i64 k3,.slice b4 n4 c4',.slice b5 n5 c5] 146)→(firstV (Zy r0 r1 r2 r3 S [Zv at',Zv to',Z6v at' to'])=0→∃B p,k0=r0∧k1=r1∧k2=r2∧k3=r3∧b4=base∧n4=n∧c4'=cap∧b5=some ⟨B,0,none⟩∧n5=n∧c5=n∧Cv W B n p (cvS r0 r1 r2 r3 (S.map Ze)))→K {tmps:= #[x0,.int .i64 at',.int .i64 to',x3,.pointer (some ⟨w.heap.size+1,0,none⟩),.pointer (some ⟨w.heap.size+1+1,0,none⟩),.int .i64 0,.pointer (some ⟨w.heap.size+1+1+1,0,none⟩),.int .i64 (firstV (Zy r0 r1 r2 r3 S [Zv at',Zv to',Z6v at' to'])),.pointer (some ⟨bs,0,none⟩),x10,x11,x12,x13,x14,x15,x16,x17,x18,x19,x20,x21,x22,x23,x24,x25,x26,x27,x28,x29,x30,x31,x32,x33,x34,x35,x36,x37,x38,x39,x40,x41,x42,x43,x44,x45,x46,x47,x48,x49,x50,x51,x52,x53,x54,x55,x56,x57,x58,x59],defers:=[]} W:=by
  intro x0 x3 x10 x11 x12 x13 x14 x15 x16 x17 x18 x19 x20 x21 x22 x23 x24 x25 x26 x27 x28 x29 x30 x31 x32 x33 x34 x35 x36 x37 x38 x39 x40 x41 x42 x43 x44 x45 x46 x47 x48 x49 x50 x51 x52 x53 x54 x55 x56 x57 x58 x59 k0 k1 k2 k3 b4 n4 c4' b5 n5 c5 bs W hEW hZ1 hZ2 hZ3 hbn1 hbn2 hbn3 hX hask2
  refine hK _ _ ?_
  have g:=Zc hZ3;have g0:=g.1;have g1:=g.2.1;have g2:=g.2.2.1;have g3:=g.2.2.2
  go_wp2_with fail
  ·rename_i hne
   have hm0:¬Z1O r0 r1 r2 r3 S at' to'=0:=by simpa[Z1O] using hne
   have hw3:w.heap.size≤w.heap.size+1+1+1:=by omega
   have hh:=Zc (set_pair hZ3 (.int .i64 0) (.int .i64 0))
   have hh0:=hh.1;have hh1:=hh.2.1
   refine bodyPost_ret (v:= .tuple #[.int .i64 0,.agg #[.int .i64 0,.int .i64 0],.int .i64 (Z1O r0 r1 r2 r3 S at' to')]) ((Z3R rfl _ _ _).trans ?_) rfl ⟨by rw[ZaT,if_neg hm0],(hEW.setCell _ _ hw3).setCell _ _ hw3⟩
   simp[go_sem,hh0,hh1]
   rfl
  ·rename_i heq K2 hK2
   have hm0:firstV (Zy r0 r1 r2 r3 S [Zv at',Zv to',Z6v at' to'])=0:=by simpa using heq
   obtain⟨hcf,hrs,hnil,hag⟩:=Z11 hm0
   obtain⟨_,h8,_⟩:=Z0i hcf
   have hfar:=Z0N (hrs (Zv at') (by simp))
   obtain⟨B,p',e0,e1,e2,e3,e4,e5,e6,e7,e8,e9,hC⟩:=hask2 hm0
   subst k0 k1 k2 k3 b4 n4 c4' b5 n5 c5
   have hn8:n≤8:=by omega
   have hev:=fun v w'=>Z08 r0 r1 r2 r3 base n cap v hn8 w'
   have hmW:=hmo.ext hEW
   clear hask2
   have hfar2:=Z0N (hrs (Zv to') (by simp))
   have hord:=ZaI (hrs (Z6v at' to') (by simp))
   clear g0 g1 g2 g3 g
   obtain⟨d,rfl⟩:=Int.eq_ofNat_of_zero_le hfar.1
   obtain⟨t,rfl⟩:=Int.eq_ofNat_of_zero_le hfar2.1
   have hd90:d≤90:=by omega
   have ht90:t≤90:=by omega
   have hdt:d≤t:=by omega
   have hat0:=fun d (hd90:d≤90) w' hm' hC'=>Z2Y r0 r1 r2 r3 (.slice base n cap) B n d (2 ^ n - 1) p' (cvS r0 r1 r2 r3 (S.map Ze)) hn8 hd90 (Z2Z hn8) w' hm' hC'
   have hat:=hat0 d hd90
   have hq1:=Z0 hZ1 0
   simp only[List.getElem?_toArray,List.getElem?_cons_zero] at hq1
   have x0:=Z0 hX 0;have x1:=Z0 hX 1;have x2:=Z0 hX 2;have x3:=Z0 hX 3;have x4:=Z0 hX 4;have x5:=Z0 hX 5
   simp only[List.getElem?_toArray,List.getElem?_cons_zero,List.getElem?_cons_succ] at x0 x1 x2 x3 x4 x5
   have hlx:=Z5 hX
   have hm4:w.heap.size+1+1+1≠bs:=fun h=>hbn3 h.symm
   have hm5:¬w.heap.size+1+1=w.heap.size:=by omega
   go_region_held3 (fun w'=>w'.cell? ⟨bs,0,none⟩=some (.int .i64 r0)∧w'.cell? ⟨bs,1,none⟩=some (.int .i64 r1)∧w'.cell? ⟨bs,2,none⟩=some (.int .i64 r2)∧w'.cell? ⟨bs,3,none⟩=some (.int .i64 r3)∧w'.cell? ⟨bs,4,none⟩=some (.slice base n cap)∧w'.cell? ⟨bs,5,none⟩=some (.slice (some ⟨B,0,none⟩) n n)∧w'.cell? ⟨w.heap.size+1,0,none⟩=some (.int .i64 d)) (go_keep) (first
    |(go_at_call 106;refine(hev _ _).mono ?_;rintro e w7 ⟨rfl,hE7⟩;have hW7:Ext W w7:=Ext.trans (by(repeat (with_reducible first|assumption|exact Ext.rfl' _|apply Ext.alloc|apply Ext.drew))) hE7
      have a0:=hW7.cellS x0;have a1:=hW7.cellS x1;have a2:=hW7.cellS x2;have a3:=hW7.cellS x3;have a4:=hW7.cellS x4;have a5:=hW7.cellS x5;have ae0:=hW7.cellS hq1)
    |(go_at_call 105;refine(hat _ (hmW.ext (hW7.trans (by(repeat (with_reducible first|assumption|exact Ext.rfl' _|apply Ext.alloc|apply Ext.drew))))) (hC.ext (hW7.trans (by(repeat (with_reducible first|assumption|exact Ext.rfl' _|apply Ext.alloc|apply Ext.drew)))))).mono ?_;rintro e w8 ⟨rfl,hE8⟩;have hW8:Ext W w8:=Ext.trans (w':=w7) hW7 (Ext.trans (by(repeat (with_reducible first|assumption|exact Ext.rfl' _|apply Ext.alloc|apply Ext.drew))) hE8)
      have hs7:=hW7.size;have hs8:=hW8.size;have hm1:W.heap.size≠bs:=(by omega);have hm2:w7.heap.size≠bs:=(by omega);have hm3:w8.heap.size≠bs:=(by omega)
      have g:=Zc (hW8.get hZ3);have g0:=g.1;have g1:=g.2.1;have g2:=g.2.2.1;have g3:=g.2.2.2
      have f0:=hW8.cellS x0;have f1:=hW8.cellS x1;have f2:=hW8.cellS x2;have f3:=hW8.cellS x3;have f4:=hW8.cellS x4;have f5:=hW8.cellS x5;have fe0:=hW8.cellS hq1))
   all_goals
    have hbl:=hEW.size
    have hl3:=Z5 hZ3
    have hE9:Ext w ((w8.setCell ⟨w.heap.size+1+1+1,0,none⟩ (.int .i64 (atF (cvS r0 r1 r2 r3 (S.map Ze)) (2 ^ n - 1) d n).1)).setCell ⟨w.heap.size+1+1+1,1,none⟩ (.int .i64 (atF (cvS r0 r1 r2 r3 (S.map Ze)) (2 ^ n - 1) d n).2)):=((hEW.trans hW8).setCell _ _ (by show w.heap.size≤_+1+1+1;omega)).setCell _ _ (by show w.heap.size≤_+1+1+1;omega)
    have kp:∀(b:Nat)(o:Obj),b≠w.heap.size+1+1+1→W.heap[b]? =some o→((w8.setCell ⟨w.heap.size+1+1+1,0,none⟩ (.int .i64 (atF (cvS r0 r1 r2 r3 (S.map Ze)) (2 ^ n - 1) d n).1)).setCell ⟨w.heap.size+1+1+1,1,none⟩ (.int .i64 (atF (cvS r0 r1 r2 r3 (S.map Ze)) (2 ^ n - 1) d n).2)).heap[b]? =some o:=fun b o hb ho=>(set_ne hb _).trans ((set_ne hb _).trans (hW8.get ho))
    have hP9:=set_pair (hW8.get hZ3) (.int .i64 (atF (cvS r0 r1 r2 r3 (S.map Ze)) (2 ^ n - 1) d n).1) (.int .i64 (atF (cvS r0 r1 r2 r3 (S.map Ze)) (2 ^ n - 1) d n).2)
    have hX9:=kp bs _ hbn3 hX
    have hZ1':=kp _ _ (by omega) hZ1
    have hZ2':=kp _ _ (by omega) hZ2
    clear kp g0 g1 g2 g3 g
    have hC9:Cv ((w8.setCell ⟨w.heap.size+1+1+1,0,none⟩ (.int .i64 (atF (cvS r0 r1 r2 r3 (S.map Ze)) (2 ^ n - 1) d n).1)).setCell ⟨w.heap.size+1+1+1,1,none⟩ (.int .i64 (atF (cvS r0 r1 r2 r3 (S.map Ze)) (2 ^ n - 1) d n).2)) B n p' (cvS r0 r1 r2 r3 (S.map Ze)):=(hC.ext hW8).setPair2 (hW8.get hZ3) _ _
    generalize World.setCell _ ⟨w.heap.size+1+1+1,1,none⟩ _=w9 at hE9 hP9 hX9 hZ1' hZ2' hC9⊢
    have b1:=Z0 hZ1' 0
    simp only[List.getElem?_toArray,List.getElem?_cons_zero] at b1
    clear hW8 hE8 hW7 hE7 hX hZ1 hZ2 hZ3 hEW hC hmW hl3 hbl hs7 hs8 hm1 hm2 hm3
    go_wp2
    go_loopw [6,10] (fun va vd wr=>∃k:Nat,k≤t - d∧va= .int .i64 ((ZG (fun d=>atF (cvS r0 r1 r2 r3 (S.map Ze)) (2 ^ n - 1) d n) d k).1:Int)∧vd= .int .i64 ((d+1+k:Nat):Int)∧Ext w wr∧Cv wr B n p' (cvS r0 r1 r2 r3 (S.map Ze))∧wr.heap[bs]? =some (.cells #[.int .i64 r0,.int .i64 r1,.int .i64 r2,.int .i64 r3,.slice base n cap,.slice (some ⟨B,0,none⟩) n n] 146)∧wr.heap[w.heap.size+1+1]? =some (.cells #[.int .i64 t] 3)∧wr.heap[w.heap.size+1+1+1]? =some (.cells #[.int .i64 (ZG (fun d=>atF (cvS r0 r1 r2 r3 (S.map Ze)) (2 ^ n - 1) d n) d k).2.1,.int .i64 (ZG (fun d=>atF (cvS r0 r1 r2 r3 (S.map Ze)) (2 ^ n - 1) d n) d k).2.2] 48)) (fun _ vd _=>t+1 - (intOf vd).toNat)
    case atStart=>exact⟨0,Nat.zero_le _,rfl,by push_cast;rfl,hE9,hC9,hX9,hZ2',hP9⟩
    case round=>
     obtain⟨k,hk,rfl,rfl,hEr,hCr,hXr,hZr2,hPr⟩:=hrel
     clear hE9 hC9 hX9 hZ2' hP9 hZ1' b1
     have hp:=Zc hPr;have p0:=hp.1;have p1:=hp.2.1;have p2:=hp.2.2.1;have p3:=hp.2.2.2
     have hq2:=Z0 hZr2 0
     simp only[List.getElem?_toArray,List.getElem?_cons_zero] at hq2
     clear hp
     by_cases hend:k=t - d
     ·subst hend
      have hlt:¬((d+1+(t - d):Nat):Int)≤(t:Int):=by omega
      have hlt2:decide (((d+1+(t - d):Nat):Int)≤(t:Int))=false:=decide_eq_false hlt
      go_wp2
      go_region
      all_goals
       go_wp2
       have hP2:=Zc (set_pair hPr (.int .i64 (ZG (fun d=>atF (cvS r0 r1 r2 r3 (S.map Ze)) (2 ^ n - 1) d n) d (t - d)).2.1) (.int .i64 (ZG (fun d=>atF (cvS r0 r1 r2 r3 (S.map Ze)) (2 ^ n - 1) d n) d (t - d)).2.2))
       have hP20:=hP2.1;have hP21:=hP2.2.1
       have hm1:Z1O r0 r1 r2 r3 S d t=0:=hm0
       have hw3:w.heap.size≤w.heap.size+1+1+1:=by omega
       refine bodyPost_ret (v:= .tuple #[.int .i64 (ZaT r0 r1 r2 r3 S d t).1,.agg #[.int .i64 (ZaT r0 r1 r2 r3 S d t).2.1,.int .i64 (ZaT r0 r1 r2 r3 S d t).2.2],.int .i64 (Z1O r0 r1 r2 r3 S d t)]) ((Z3R rfl _ _ _).trans ?_) rfl ⟨rfl,(hEr.drew.setCell _ _ hw3).setCell _ _ hw3⟩
       simp[go_sem,hP20,hP21]
       rw[ZaT,if_pos hm1,hm1,hlen]
       simp
     ·have hlt:((d+1+k:Nat):Int)≤(t:Int):=by omega
      have hlt2:decide (((d+1+k:Nat):Int)≤(t:Int))=true:=decide_eq_true hlt
      obtain⟨e,he⟩:∃e:Nat,e=d+1+k:=⟨_,rfl⟩
      rw[←he] at hlt hlt2⊢
      have hea:e≤d+1+k:=by omega
      have heb:d+1+k≤e:=by omega
      clear he
      have hat:=hat0 e (by omega)
      have x0:=Z0 hXr 0;have x1:=Z0 hXr 1;have x2:=Z0 hXr 2;have x3:=Z0 hXr 3;have x4:=Z0 hXr 4;have x5:=Z0 hXr 5
      simp only[List.getElem?_toArray,List.getElem?_cons_zero,List.getElem?_cons_succ] at x0 x1 x2 x3 x4 x5
      have hlx:=Z5 hXr
      have hmW:=hmo.ext hEr
      have hC:=hCr
      go_wp2
      go_region_held3 (fun w'=>w'.cell? ⟨bs,0,none⟩=some (.int .i64 r0)∧w'.cell? ⟨bs,1,none⟩=some (.int .i64 r1)∧w'.cell? ⟨bs,2,none⟩=some (.int .i64 r2)∧w'.cell? ⟨bs,3,none⟩=some (.int .i64 r3)∧w'.cell? ⟨bs,4,none⟩=some (.slice base n cap)∧w'.cell? ⟨bs,5,none⟩=some (.slice (some ⟨B,0,none⟩) n n)) (go_keep) (first
       |(go_at_call 106;refine(hev _ _).mono ?_;rintro e w7 ⟨rfl,hE7⟩;have hW7:Ext wr w7:=Ext.trans (by(repeat (with_reducible first|assumption|exact Ext.rfl' _|apply Ext.alloc|apply Ext.drew))) hE7
         try (have hv7:=hE7.get (b:=wr.heap.size) (o:=(Obj.cells #[.int .i64 0,.int .i64 0] 48)) ((Z3 _ _ _).trans (if_pos rfl)))
         have a0:=hW7.cellS x0;have a1:=hW7.cellS x1;have a2:=hW7.cellS x2;have a3:=hW7.cellS x3;have a4:=hW7.cellS x4;have a5:=hW7.cellS x5)
       |(go_at_call 105;refine(hat _ (hmW.ext (hW7.trans (by(repeat (with_reducible first|assumption|exact Ext.rfl' _|apply Ext.alloc|apply Ext.drew))))) (hC.ext (hW7.trans (by(repeat (with_reducible first|assumption|exact Ext.rfl' _|apply Ext.alloc|apply Ext.drew)))))).mono ?_;rintro e w8 ⟨rfl,hE8⟩;have hW8:Ext wr w8:=Ext.trans (w':=w7) hW7 (Ext.trans (by(repeat (with_reducible first|assumption|exact Ext.rfl' _|apply Ext.alloc|apply Ext.drew))) hE8)
         have hs7:=hW7.size;have hs8:=hW8.size;have hm1:wr.heap.size≠bs:=(by omega);have hm2:w7.heap.size≠bs:=(by omega);have hm3:w8.heap.size≠bs:=(by omega)
         try (have hv8:=hE8.get (b:=wr.heap.size) (o:=(Obj.cells #[.int .i64 0,.int .i64 0] 48)) hv7)
         try (have hv8:=hE8.get (b:=w7.heap.size) (o:=(Obj.cells #[.int .i64 0,.int .i64 0] 48)) ((Z3 _ _ _).trans (if_pos rfl)))
         try (have g:=Zc hv8;have g0:=g.1;have g1:=g.2.1;have g2:=g.2.2.1;have g3:=g.2.2.2)
         have f0:=hW8.cellS x0;have f1:=hW8.cellS x1;have f2:=hW8.cellS x2;have f3:=hW8.cellS x3;have f4:=hW8.cellS x4;have f5:=hW8.cellS x5))
      all_goals have hbl:=hEr.size
      all_goals clear hE7 hW7 hat
      all_goals first
       |(
         have hq:w8.heap[wr.heap.size]? =some (Obj.cells #[.int .i64 0,.int .i64 0] 48):=(by with_reducible exact hv8)
         have kp:∀(c:Nat)(o:Obj),wr.heap[c]? =some o→((w8.setCell ⟨wr.heap.size,0,none⟩ (.int .i64 (atF (cvS r0 r1 r2 r3 (S.map Ze)) (2 ^ n - 1) e n).1)).setCell ⟨wr.heap.size,1,none⟩ (.int .i64 (atF (cvS r0 r1 r2 r3 (S.map Ze)) (2 ^ n - 1) e n).2)).heap[c]? =some o:=fun c o ho=>(set_ne (by show c≠wr.heap.size;have:=Z5 ho;omega) _).trans ((set_ne (by show c≠wr.heap.size;have:=Z5 ho;omega) _).trans (hW8.get ho))
         have hEV:Ext w ((w8.setCell ⟨wr.heap.size,0,none⟩ (.int .i64 (atF (cvS r0 r1 r2 r3 (S.map Ze)) (2 ^ n - 1) e n).1)).setCell ⟨wr.heap.size,1,none⟩ (.int .i64 (atF (cvS r0 r1 r2 r3 (S.map Ze)) (2 ^ n - 1) e n).2)):=((hEr.trans hW8).setCell _ _ (by show w.heap.size≤wr.heap.size;omega)).setCell _ _ (by show w.heap.size≤wr.heap.size;omega)
         have hCV:=(hCr.ext hW8).setPair2 hq (atF (cvS r0 r1 r2 r3 (S.map Ze)) (2 ^ n - 1) e n).1 (atF (cvS r0 r1 r2 r3 (S.map Ze)) (2 ^ n - 1) e n).2
         have hXV:=kp _ _ hXr
         have hZV2:=kp _ _ hZr2
         have hPV:=kp _ _ hPr
         have hBV:=set_pair hq (.int .i64 (atF (cvS r0 r1 r2 r3 (S.map Ze)) (2 ^ n - 1) e n).1) (.int .i64 (atF (cvS r0 r1 r2 r3 (S.map Ze)) (2 ^ n - 1) e n).2)
         clear kp
         generalize World.setCell _ ⟨wr.heap.size,1,none⟩ _=V at hEV hCV hXV hZV2 hPV hBV⊢
         have y:=Zc hBV;have y0:=y.1;have y1:=y.2.1
         have q:=Zc hPV;have pq0:=q.1;have pq1:=q.2.1;have pq2:=q.2.2.1;have pq3:=q.2.2.2
         clear y q
         go_wp2
         ·rename_i hgt
          go_region
          all_goals
           go_wp2
           have hw3:w.heap.size≤w.heap.size+1+1+1:=by omega
           have hgt':wrap64 ((ZG (fun d=>atF (cvS r0 r1 r2 r3 (S.map Ze)) (2 ^ n - 1) d n) d k).2.2 - (ZG (fun d=>atF (cvS r0 r1 r2 r3 (S.map Ze)) (2 ^ n - 1) d n) d k).2.1)<wrap64 ((atF (cvS r0 r1 r2 r3 (S.map Ze)) (2 ^ n - 1) e n).2 - (atF (cvS r0 r1 r2 r3 (S.map Ze)) (2 ^ n - 1) e n).1):=by simpa using hgt
           have hst:(ZG (fun d=>atF (cvS r0 r1 r2 r3 (S.map Ze)) (2 ^ n - 1) d n) d (k+1))=(e,(atF (cvS r0 r1 r2 r3 (S.map Ze)) (2 ^ n - 1) e n)):=by
            obtain rfl:e=d+1+k:=by omega
            rw[ZG,if_pos hgt']
           refine⟨⟨k+1,by omega,by rw[hst],congrArg (Value.int .i64) (by push_cast;omega),(hEV.drew.setCell _ _ hw3).setCell _ _ hw3,?_,?_,?_,?_⟩,by simp[intOf];omega⟩
           ·exact Cv.setPair2 (w:=V.drew) (hCV.ext (Ext.rfl' V).drew) hPV _ _
           ·exact(set_ne (w:=V.drew.setCell _ _) hbn3 _).trans ((set_ne (w:=V.drew) hbn3 _).trans hXV)
           ·exact(set_ne (w:=V.drew.setCell _ _) (by show _≠w.heap.size+1+1+1;omega) _).trans ((set_ne (w:=V.drew) (by show _≠w.heap.size+1+1+1;omega) _).trans hZV2)
           ·rw[hst];exact set_pair (w:=V.drew) hPV _ _
         ·rename_i hgt
          have hgt':¬wrap64 ((ZG (fun d=>atF (cvS r0 r1 r2 r3 (S.map Ze)) (2 ^ n - 1) d n) d k).2.2 - (ZG (fun d=>atF (cvS r0 r1 r2 r3 (S.map Ze)) (2 ^ n - 1) d n) d k).2.1)<wrap64 ((atF (cvS r0 r1 r2 r3 (S.map Ze)) (2 ^ n - 1) e n).2 - (atF (cvS r0 r1 r2 r3 (S.map Ze)) (2 ^ n - 1) e n).1):=by simpa using hgt
          have hst:(ZG (fun d=>atF (cvS r0 r1 r2 r3 (S.map Ze)) (2 ^ n - 1) d n) d (k+1))=(ZG (fun d=>atF (cvS r0 r1 r2 r3 (S.map Ze)) (2 ^ n - 1) d n) d k):=by
           obtain rfl:e=d+1+k:=by omega
           rw[ZG,if_neg hgt']
          exact⟨⟨k+1,by omega,by rw[hst],congrArg (Value.int .i64) (by push_cast;omega),hEV,hCV,hXV,hZV2,by rw[hst];exact hPV⟩,by simp[intOf];omega⟩)
       |(
         have hq:w8.heap[w7.heap.size]? =some (Obj.cells #[.int .i64 0,.int .i64 0] 48):=(by with_reducible exact hv8)
         have kp:∀(c:Nat)(o:Obj),wr.heap[c]? =some o→((w8.setCell ⟨w7.heap.size,0,none⟩ (.int .i64 (atF (cvS r0 r1 r2 r3 (S.map Ze)) (2 ^ n - 1) e n).1)).setCell ⟨w7.heap.size,1,none⟩ (.int .i64 (atF (cvS r0 r1 r2 r3 (S.map Ze)) (2 ^ n - 1) e n).2)).heap[c]? =some o:=fun c o ho=>(set_ne (by show c≠w7.heap.size;have:=Z5 ho;omega) _).trans ((set_ne (by show c≠w7.heap.size;have:=Z5 ho;omega) _).trans (hW8.get ho))
         have hEV:Ext w ((w8.setCell ⟨w7.heap.size,0,none⟩ (.int .i64 (atF (cvS r0 r1 r2 r3 (S.map Ze)) (2 ^ n - 1) e n).1)).setCell ⟨w7.heap.size,1,none⟩ (.int .i64 (atF (cvS r0 r1 r2 r3 (S.map Ze)) (2 ^ n - 1) e n).2)):=((hEr.trans hW8).setCell _ _ (by show w.heap.size≤w7.heap.size;omega)).setCell _ _ (by show w.heap.size≤w7.heap.size;omega)
         have hCV:=(hCr.ext hW8).setPair2 hq (atF (cvS r0 r1 r2 r3 (S.map Ze)) (2 ^ n - 1) e n).1 (atF (cvS r0 r1 r2 r3 (S.map Ze)) (2 ^ n - 1) e n).2
         have hXV:=kp _ _ hXr
         have hZV2:=kp _ _ hZr2
         have hPV:=kp _ _ hPr
         have hBV:=set_pair hq (.int .i64 (atF (cvS r0 r1 r2 r3 (S.map Ze)) (2 ^ n - 1) e n).1) (.int .i64 (atF (cvS r0 r1 r2 r3 (S.map Ze)) (2 ^ n - 1) e n).2)
         clear kp
         generalize World.setCell _ ⟨w7.heap.size,1,none⟩ _=V at hEV hCV hXV hZV2 hPV hBV⊢
         have y:=Zc hBV;have y0:=y.1;have y1:=y.2.1
         have q:=Zc hPV;have pq0:=q.1;have pq1:=q.2.1;have pq2:=q.2.2.1;have pq3:=q.2.2.2
         clear y q
         go_wp2
         ·rename_i hgt
          go_region
          all_goals
           go_wp2
           have hw3:w.heap.size≤w.heap.size+1+1+1:=by omega
           have hgt':wrap64 ((ZG (fun d=>atF (cvS r0 r1 r2 r3 (S.map Ze)) (2 ^ n - 1) d n) d k).2.2 - (ZG (fun d=>atF (cvS r0 r1 r2 r3 (S.map Ze)) (2 ^ n - 1) d n) d k).2.1)<wrap64 ((atF (cvS r0 r1 r2 r3 (S.map Ze)) (2 ^ n - 1) e n).2 - (atF (cvS r0 r1 r2 r3 (S.map Ze)) (2 ^ n - 1) e n).1):=by simpa using hgt
           have hst:(ZG (fun d=>atF (cvS r0 r1 r2 r3 (S.map Ze)) (2 ^ n - 1) d n) d (k+1))=(e,(atF (cvS r0 r1 r2 r3 (S.map Ze)) (2 ^ n - 1) e n)):=by
            obtain rfl:e=d+1+k:=by omega
            rw[ZG,if_pos hgt']
           refine⟨⟨k+1,by omega,by rw[hst],congrArg (Value.int .i64) (by push_cast;omega),(hEV.drew.setCell _ _ hw3).setCell _ _ hw3,?_,?_,?_,?_⟩,by simp[intOf];omega⟩
           ·exact Cv.setPair2 (w:=V.drew) (hCV.ext (Ext.rfl' V).drew) hPV _ _
           ·exact(set_ne (w:=V.drew.setCell _ _) hbn3 _).trans ((set_ne (w:=V.drew) hbn3 _).trans hXV)
           ·exact(set_ne (w:=V.drew.setCell _ _) (by show _≠w.heap.size+1+1+1;omega) _).trans ((set_ne (w:=V.drew) (by show _≠w.heap.size+1+1+1;omega) _).trans hZV2)
           ·rw[hst];exact set_pair (w:=V.drew) hPV _ _
         ·rename_i hgt
          have hgt':¬wrap64 ((ZG (fun d=>atF (cvS r0 r1 r2 r3 (S.map Ze)) (2 ^ n - 1) d n) d k).2.2 - (ZG (fun d=>atF (cvS r0 r1 r2 r3 (S.map Ze)) (2 ^ n - 1) d n) d k).2.1)<wrap64 ((atF (cvS r0 r1 r2 r3 (S.map Ze)) (2 ^ n - 1) e n).2 - (atF (cvS r0 r1 r2 r3 (S.map Ze)) (2 ^ n - 1) e n).1):=by simpa using hgt
          have hst:(ZG (fun d=>atF (cvS r0 r1 r2 r3 (S.map Ze)) (2 ^ n - 1) d n) d (k+1))=(ZG (fun d=>atF (cvS r0 r1 r2 r3 (S.map Ze)) (2 ^ n - 1) d n) d k):=by
           obtain rfl:e=d+1+k:=by omega
           rw[ZG,if_neg hgt']
          exact⟨⟨k+1,by omega,by rw[hst],congrArg (Value.int .i64) (by push_cast;omega),hEV,hCV,hXV,hZV2,by rw[hst];exact hPV⟩,by simp[intOf];omega⟩)
       |(
         have hEV:=(hEr.trans hW8).alloc (.cells #[.int .i64 (atF (cvS r0 r1 r2 r3 (S.map Ze)) (2 ^ n - 1) e n).1,.int .i64 (atF (cvS r0 r1 r2 r3 (S.map Ze)) (2 ^ n - 1) e n).2] 48)
         have hA:=(Ext.rfl' w8).alloc (.cells #[.int .i64 (atF (cvS r0 r1 r2 r3 (S.map Ze)) (2 ^ n - 1) e n).1,.int .i64 (atF (cvS r0 r1 r2 r3 (S.map Ze)) (2 ^ n - 1) e n).2] 48)
         have hCV:=(hCr.ext hW8).ext hA
         have hXV:=hA.get (hW8.get hXr)
         have hZV2:=hA.get (hW8.get hZr2)
         have hPV:=hA.get (hW8.get hPr)
         have hBV:=(Z3 w8 (.cells #[.int .i64 (atF (cvS r0 r1 r2 r3 (S.map Ze)) (2 ^ n - 1) e n).1,.int .i64 (atF (cvS r0 r1 r2 r3 (S.map Ze)) (2 ^ n - 1) e n).2] 48) _).trans (if_pos rfl)
         clear hA
         generalize World.alloc _ _=V at hEV hCV hXV hZV2 hPV hBV⊢
         have y:=Zc hBV;have y0:=y.1;have y1:=y.2.1
         have q:=Zc hPV;have pq0:=q.1;have pq1:=q.2.1;have pq2:=q.2.2.1;have pq3:=q.2.2.2
         clear y q
         go_wp2
         ·rename_i hgt
          go_region
          all_goals
           go_wp2
           have hw3:w.heap.size≤w.heap.size+1+1+1:=by omega
           have hgt':wrap64 ((ZG (fun d=>atF (cvS r0 r1 r2 r3 (S.map Ze)) (2 ^ n - 1) d n) d k).2.2 - (ZG (fun d=>atF (cvS r0 r1 r2 r3 (S.map Ze)) (2 ^ n - 1) d n) d k).2.1)<wrap64 ((atF (cvS r0 r1 r2 r3 (S.map Ze)) (2 ^ n - 1) e n).2 - (atF (cvS r0 r1 r2 r3 (S.map Ze)) (2 ^ n - 1) e n).1):=by simpa using hgt
           have hst:(ZG (fun d=>atF (cvS r0 r1 r2 r3 (S.map Ze)) (2 ^ n - 1) d n) d (k+1))=(e,(atF (cvS r0 r1 r2 r3 (S.map Ze)) (2 ^ n - 1) e n)):=by
            obtain rfl:e=d+1+k:=by omega
            rw[ZG,if_pos hgt']
           refine⟨⟨k+1,by omega,by rw[hst],congrArg (Value.int .i64) (by push_cast;omega),(hEV.drew.setCell _ _ hw3).setCell _ _ hw3,?_,?_,?_,?_⟩,by simp[intOf];omega⟩
           ·exact Cv.setPair2 (w:=V.drew) (hCV.ext (Ext.rfl' V).drew) hPV _ _
           ·exact(set_ne (w:=V.drew.setCell _ _) hbn3 _).trans ((set_ne (w:=V.drew) hbn3 _).trans hXV)
           ·exact(set_ne (w:=V.drew.setCell _ _) (by show _≠w.heap.size+1+1+1;omega) _).trans ((set_ne (w:=V.drew) (by show _≠w.heap.size+1+1+1;omega) _).trans hZV2)
           ·rw[hst];exact set_pair (w:=V.drew) hPV _ _
         ·rename_i hgt
          have hgt':¬wrap64 ((ZG (fun d=>atF (cvS r0 r1 r2 r3 (S.map Ze)) (2 ^ n - 1) d n) d k).2.2 - (ZG (fun d=>atF (cvS r0 r1 r2 r3 (S.map Ze)) (2 ^ n - 1) d n) d k).2.1)<wrap64 ((atF (cvS r0 r1 r2 r3 (S.map Ze)) (2 ^ n - 1) e n).2 - (atF (cvS r0 r1 r2 r3 (S.map Ze)) (2 ^ n - 1) e n).1):=by simpa using hgt
          have hst:(ZG (fun d=>atF (cvS r0 r1 r2 r3 (S.map Ze)) (2 ^ n - 1) d n) d (k+1))=(ZG (fun d=>atF (cvS r0 r1 r2 r3 (S.map Ze)) (2 ^ n - 1) d n) d k):=by
           obtain rfl:e=d+1+k:=by omega
           rw[ZG,if_neg hgt']
          exact⟨⟨k+1,by omega,by rw[hst],congrArg (Value.int .i64) (by push_cast;omega),hEV,hCV,hXV,hZV2,by rw[hst];exact hPV⟩,by simp[intOf];omega⟩)
 go_region_held3 (fun w'=>w'.cell? ⟨w.heap.size,0,none⟩=some (.int .i64 r0)∧w'.cell? ⟨w.heap.size,1,none⟩=some (.int .i64 r1)∧w'.cell? ⟨w.heap.size,2,none⟩=some (.int .i64 r2)∧w'.cell? ⟨w.heap.size,3,none⟩=some (.int .i64 r3)∧w'.cell? ⟨w.heap.size,4,none⟩=some (.slice base n cap)∧w'.cell? ⟨w.heap.size+1,0,none⟩=some (Value.int .i64 at')∧w'.cell? ⟨w.heap.size+1+1,0,none⟩=some (Value.int .i64 to')) (go_keep) (first
  |(go_at_call 104;refine(Z9v at' _).mono ?_;rintro e v0 ⟨p0,rfl,hF0,hp0⟩
    have hG0:Ext w1 v0:=Ext.trans (by(repeat (with_reducible first|assumption|exact Ext.rfl' _|apply Ext.alloc|apply Ext.drew))) hF0
    try (have hv00:=hF0.get (b:=w1.heap.size) (o:=(Obj.cells #[.int .i64 0,.int .i64 0,.int .i64 0,.int .i64 0,.slice none 0 0,.slice none 0 0] 146)) ((Z3 _ _ _).trans (if_pos rfl)))
    have c0q0:=hG0.cellS q0;have c0q1:=hG0.cellS q1;have c0q2:=hG0.cellS q2;have c0q3:=hG0.cellS q3;have c0q4:=hG0.cellS q4;have c0r10:=hG0.cellS r10;have c0r20:=hG0.cellS r20)
  |(go_at_call 104;refine(Z9v to' _).mono ?_;rintro e v1 ⟨p1,rfl,hF1,hp1⟩
    have hG1:Ext w1 v1:=Ext.trans (by(repeat (with_reducible first|assumption|exact Ext.rfl' _|apply Ext.alloc|apply Ext.drew))) hF1
    try (have hv10:=hF1.get (b:=w1.heap.size) (o:=(Obj.cells #[.int .i64 0,.int .i64 0,.int .i64 0,.int .i64 0,.slice none 0 0,.slice none 0 0] 146)) hv00)
    try (have hv11:=hF1.get (b:=v0.heap.size) (o:=(Obj.cells #[.int .i64 0,.int .i64 0,.int .i64 0,.int .i64 0,.slice none 0 0,.slice none 0 0] 146)) ((Z3 _ _ _).trans (if_pos rfl)))
    have c1q0:=hG1.cellS q0;have c1q1:=hG1.cellS q1;have c1q2:=hG1.cellS q2;have c1q3:=hG1.cellS q3;have c1q4:=hG1.cellS q4;have c1r10:=hG1.cellS r10;have c1r20:=hG1.cellS r20)
  |(go_at_call 103
    refine(Z4K r0 r1 r2 r3 base n cap _ 3 _ (by omega) [(151,#[],#[.pointer (some ⟨p0,0,none⟩)]),(151,#[],#[.pointer (some ⟨p1,0,none⟩)]),(112,#[],#[.pointer (some ⟨w.heap.size+1,0,none⟩),.pointer (some ⟨w.heap.size+1+1,0,none⟩)])] [Zv at',Zv to',Z6v at' to'] rfl rfl (by
     intro j x hj
     first
     |exact Z30 _ #[.func (.func 151) #[] #[.pointer (some ⟨p0,0,none⟩)],.func (.func 151) #[] #[.pointer (some ⟨p1,0,none⟩)],.func (.func 112) #[] #[.pointer (some ⟨w.heap.size+1,0,none⟩),.pointer (some ⟨w.heap.size+1+1,0,none⟩)]] _ _ (by simp) rfl j x hj
     |exact((Ext.rfl' _).alloc _).cellS (Z30 _ #[.func (.func 151) #[] #[.pointer (some ⟨p0,0,none⟩)],.func (.func 151) #[] #[.pointer (some ⟨p1,0,none⟩)],.func (.func 112) #[] #[.pointer (some ⟨w.heap.size+1,0,none⟩),.pointer (some ⟨w.heap.size+1+1,0,none⟩)]] _ _ (by simp) rfl j x hj)) (by intro x hx args w';simp only[List.mem_cons,List.not_mem_nil,or_false] at hx;rcases hx with rfl|rfl|rfl<;>simp[go_sem]) (by
     intro j x r hj hr w' hw'
     match j,hj,hr with
     |0,hj,hr=>
      obtain rfl:=Option.some.inj hj
      obtain rfl:=Option.some.inj hr
      refine Z3x p0 at' w' (hw'.cellS (Ext.cellS (w:=v0) ?_ hp0))
      refine Ext.trans (w':=v1) (Ext.trans (by(repeat (with_reducible first|assumption|exact Ext.rfl' _|apply Ext.alloc|apply Ext.drew))) hF1) ?_
      (repeat (with_reducible first|assumption|exact Ext.rfl' _|apply Ext.alloc|apply Ext.drew))
     |1,hj,hr=>
      obtain rfl:=Option.some.inj hj
      obtain rfl:=Option.some.inj hr
      refine Z3x p1 to' w' (hw'.cellS (Ext.cellS (w:=v1) ?_ hp1))
      (repeat (with_reducible first|assumption|exact Ext.rfl' _|apply Ext.alloc|apply Ext.drew))
     |2,hj,hr=>
      obtain rfl:=Option.some.inj hj
      obtain rfl:=Option.some.inj hr
      have hK:Ext w1 w':=Ext.trans (w':=v1) hG1 (Ext.trans (by(repeat (with_reducible first|assumption|exact Ext.rfl' _|apply Ext.alloc|apply Ext.drew))) hw')
      exact ZcZ _ _ at' to' w' (hK.cellS r10) (hK.cellS r20)
     ) S hlen (hS.ext (hE1.trans (hG1.trans (by(repeat (with_reducible first|assumption|exact Ext.rfl' _|apply Ext.alloc|apply Ext.drew)))))) (hmo.ext (hE1.trans (hG1.trans (by(repeat (with_reducible first|assumption|exact Ext.rfl' _|apply Ext.alloc|apply Ext.drew))))))).mono ?_
    rintro e w6 ⟨k0,k1,k2,k3,b4,n4,c4',b5,n5,c5,rfl,hE6,hask⟩
    have hE7:Ext w1 w6:=Ext.trans (w':=v1) hG1 (Ext.trans (by(repeat (with_reducible first|assumption|exact Ext.rfl' _|apply Ext.alloc|apply Ext.drew))) hE6)
    have hl0:=Z5 hB3
    have hl10:=hG0.size
    have hl11:=hG1.size
    have hl31:v0.heap.size≤v1.heap.size:=Ext.size (Ext.trans (by(repeat (with_reducible first|assumption|exact Ext.rfl' _|apply Ext.alloc|apply Ext.drew))) hF1)
    have hl2:=hE7.size
    have hn0:w1.heap.size≠w.heap.size:=by omega
    have hn1:v0.heap.size≠w.heap.size:=by omega
    have hn2:v1.heap.size≠w.heap.size:=by omega
    have hn3:w6.heap.size≠w.heap.size:=by omega
    have hn4:v1.heap.size+1≠w.heap.size:=by omega
    have hn5:w1.heap.size≠w.heap.size+1:=by omega
    have hn6:v0.heap.size≠w.heap.size+1:=by omega
    have hn7:v1.heap.size≠w.heap.size+1:=by omega
    have hn8:w6.heap.size≠w.heap.size+1:=by omega
    have hn9:v1.heap.size+1≠w.heap.size+1:=by omega
    have hn10:w1.heap.size≠w.heap.size+1+1:=by omega
    have hn11:v0.heap.size≠w.heap.size+1+1:=by omega
    have hn12:v1.heap.size≠w.heap.size+1+1:=by omega
    have hn13:w6.heap.size≠w.heap.size+1+1:=by omega
    have hn14:v1.heap.size+1≠w.heap.size+1+1:=by omega
    try (have hv6:=hE6.get (b:=w1.heap.size) (o:=(Obj.cells #[.int .i64 0,.int .i64 0,.int .i64 0,.int .i64 0,.slice none 0 0,.slice none 0 0] 146)) (((Ext.rfl' v1).alloc _).get hv10))
    try (have hv6:=hE6.get (b:=v0.heap.size) (o:=(Obj.cells #[.int .i64 0,.int .i64 0,.int .i64 0,.int .i64 0,.slice none 0 0,.slice none 0 0] 146)) (((Ext.rfl' v1).alloc _).get hv11))
    try (have hv6:=hE6.get (b:=v1.heap.size) (o:=(Obj.cells #[.int .i64 0,.int .i64 0,.int .i64 0,.int .i64 0,.slice none 0 0,.slice none 0 0] 146)) (by simp only[Z3,Z2];exact(if_neg (by omega)).trans (if_pos trivial)))
    try (have hv6:=hE6.get (b:=v1.heap.size+1) (o:=(Obj.cells #[.int .i64 0,.int .i64 0,.int .i64 0,.int .i64 0,.slice none 0 0,.slice none 0 0] 146)) (by simp only[Z3,Z2];exact if_pos trivial))
    try (have z0:=Z8 hv6 0;have z1:=Z8 hv6 1;have z2:=Z8 hv6 2;have z3:=Z8 hv6 3;have z4:=Z8 hv6 4;have z5:=Z8 hv6 5;have y0:=Z0 hv6 0;have y1:=Z0 hv6 1;have y2:=Z0 hv6 2;have y3:=Z0 hv6 3;have y4:=Z0 hv6 4;have y5:=Z0 hv6 5;simp only[List.getElem?_toArray,List.getElem?_cons_zero,List.getElem?_cons_succ] at y0 y1 y2 y3 y4 y5)
    have dq0:=hE7.cellS q0;have dq1:=hE7.cellS q1;have dq2:=hE7.cellS q2;have dq3:=hE7.cellS q3;have dq4:=hE7.cellS q4;have dr10:=hE7.cellS r10;have dr20:=hE7.cellS r20))
 all_goals first
  |(have hq:w6.heap[v1.heap.size+1]? =some (Obj.cells #[.int .i64 0,.int .i64 0,.int .i64 0,.int .i64 0,.slice none 0 0,.slice none 0 0] 146):=(by with_reducible exact hv6)
    have hst:=Z0K hv6 (.int .i64 k0) (.int .i64 k1) (.int .i64 k2) (.int .i64 k3) (.slice b4 n4 c4') (.slice b5 n5 c5)
    have hX:=hst.1
    have hEX:=hst.2
    have hask2:firstV (Zy r0 r1 r2 r3 S [Zv at',Zv to',Z6v at' to'])=0→∃B p,k0=r0∧k1=r1∧k2=r2∧k3=r3∧b4=base∧n4=n∧c4'=cap∧b5=some ⟨B,0,none⟩∧n5=n∧c5=n∧Cv _ B n p (cvS r0 r1 r2 r3 (S.map Ze)):=(by intro h;obtain⟨B,p,h0,h1,h2,h3,h4,h5,h6,h7,h8,h9,hC,hBl,hpl⟩:=hask h;simp only[Z2] at hBl hpl;exact⟨B,p,h0,h1,h2,h3,h4,h5,h6,h7,h8,h9,hEX.cv hC (by omega) (fun i=>by have:=hpl i;omega)⟩)
    have hEW:=hEX.before (hE1.trans hE7) (by omega)
    have hZ1:=hEX.get (by omega) (hE7.get hB1)
    have hZ2:=hEX.get (by omega) (hE7.get hB2)
    have hZ3:=hEX.get (by omega) (hE7.get hB3)
    have hbn1:v1.heap.size+1≠w.heap.size+1:=by omega
    have hbn2:v1.heap.size+1≠w.heap.size+1+1:=by omega
    have hbn3:v1.heap.size+1≠w.heap.size+1+1+1:=by omega
    exact rest _ _ _ _ _ _ _ _ _ _ _ _ _ _ _ _ _ _ _ _ _ _ _ _ _ _ _ _ _ _ _ _ _ _ _ _ _ _ _ _ _ _ _ _ _ _ _ _ _ _ _ _ _ _ _ _ _ _ _ _ _ _ _ _ hEW hZ1 hZ2 hZ3 hbn1 hbn2 hbn3 hX hask2)
  |(have hq:w6.heap[v1.heap.size]? =some (Obj.cells #[.int .i64 0,.int .i64 0,.int .i64 0,.int .i64 0,.slice none 0 0,.slice none 0 0] 146):=(by with_reducible exact hv6)
    have hst:=Z0K hv6 (.int .i64 k0) (.int .i64 k1) (.int .i64 k2) (.int .i64 k3) (.slice b4 n4 c4') (.slice b5 n5 c5)
    have hX:=hst.1
    have hEX:=hst.2
    have hask2:firstV (Zy r0 r1 r2 r3 S [Zv at',Zv to',Z6v at' to'])=0→∃B p,k0=r0∧k1=r1∧k2=r2∧k3=r3∧b4=base∧n4=n∧c4'=cap∧b5=some ⟨B,0,none⟩∧n5=n∧c5=n∧Cv _ B n p (cvS r0 r1 r2 r3 (S.map Ze)):=(by intro h;obtain⟨B,p,h0,h1,h2,h3,h4,h5,h6,h7,h8,h9,hC,hBl,hpl⟩:=hask h;simp only[Z2] at hBl hpl;exact⟨B,p,h0,h1,h2,h3,h4,h5,h6,h7,h8,h9,hEX.cv hC (by omega) (fun i=>by have:=hpl i;omega)⟩)
    have hEW:=hEX.before (hE1.trans hE7) (by omega)
    have hZ1:=hEX.get (by omega) (hE7.get hB1)
    have hZ2:=hEX.get (by omega) (hE7.get hB2)
    have hZ3:=hEX.get (by omega) (hE7.get hB3)
    have hbn1:v1.heap.size≠w.heap.size+1:=by omega
    have hbn2:v1.heap.size≠w.heap.size+1+1:=by omega
    have hbn3:v1.heap.size≠w.heap.size+1+1+1:=by omega
    exact rest _ _ _ _ _ _ _ _ _ _ _ _ _ _ _ _ _ _ _ _ _ _ _ _ _ _ _ _ _ _ _ _ _ _ _ _ _ _ _ _ _ _ _ _ _ _ _ _ _ _ _ _ _ _ _ _ _ _ _ _ _ _ _ _ hEW hZ1 hZ2 hZ3 hbn1 hbn2 hbn3 hX hask2)
  |(have hq:w6.heap[v0.heap.size]? =some (Obj.cells #[.int .i64 0,.int .i64 0,.int .i64 0,.int .i64 0,.slice none 0 0,.slice none 0 0] 146):=(by with_reducible exact hv6)
    have hst:=Z0K hv6 (.int .i64 k0) (.int .i64 k1) (.int .i64 k2) (.int .i64 k3) (.slice b4 n4 c4') (.slice b5 n5 c5)
    have hX:=hst.1
    have hEX:=hst.2
    have hask2:firstV (Zy r0 r1 r2 r3 S [Zv at',Zv to',Z6v at' to'])=0→∃B p,k0=r0∧k1=r1∧k2=r2∧k3=r3∧b4=base∧n4=n∧c4'=cap∧b5=some ⟨B,0,none⟩∧n5=n∧c5=n∧Cv _ B n p (cvS r0 r1 r2 r3 (S.map Ze)):=(by intro h;obtain⟨B,p,h0,h1,h2,h3,h4,h5,h6,h7,h8,h9,hC,hBl,hpl⟩:=hask h;simp only[Z2] at hBl hpl;exact⟨B,p,h0,h1,h2,h3,h4,h5,h6,h7,h8,h9,hEX.cv hC (by omega) (fun i=>by have:=hpl i;omega)⟩)
    have hEW:=hEX.before (hE1.trans hE7) (by omega)
    have hZ1:=hEX.get (by omega) (hE7.get hB1)
    have hZ2:=hEX.get (by omega) (hE7.get hB2)
    have hZ3:=hEX.get (by omega) (hE7.get hB3)
    have hbn1:v0.heap.size≠w.heap.size+1:=by omega
    have hbn2:v0.heap.size≠w.heap.size+1+1:=by omega
    have hbn3:v0.heap.size≠w.heap.size+1+1+1:=by omega
    exact rest _ _ _ _ _ _ _ _ _ _ _ _ _ _ _ _ _ _ _ _ _ _ _ _ _ _ _ _ _ _ _ _ _ _ _ _ _ _ _ _ _ _ _ _ _ _ _ _ _ _ _ _ _ _ _ _ _ _ _ _ _ _ _ _ hEW hZ1 hZ2 hZ3 hbn1 hbn2 hbn3 hX hask2)
  |(have hq:w6.heap[w1.heap.size]? =some (Obj.cells #[.int .i64 0,.int .i64 0,.int .i64 0,.int .i64 0,.slice none 0 0,.slice none 0 0] 146):=(by with_reducible exact hv6)
    have hst:=Z0K hv6 (.int .i64 k0) (.int .i64 k1) (.int .i64 k2) (.int .i64 k3) (.slice b4 n4 c4') (.slice b5 n5 c5)
    have hX:=hst.1
    have hEX:=hst.2
    have hask2:firstV (Zy r0 r1 r2 r3 S [Zv at',Zv to',Z6v at' to'])=0→∃B p,k0=r0∧k1=r1∧k2=r2∧k3=r3∧b4=base∧n4=n∧c4'=cap∧b5=some ⟨B,0,none⟩∧n5=n∧c5=n∧Cv _ B n p (cvS r0 r1 r2 r3 (S.map Ze)):=(by intro h;obtain⟨B,p,h0,h1,h2,h3,h4,h5,h6,h7,h8,h9,hC,hBl,hpl⟩:=hask h;simp only[Z2] at hBl hpl;exact⟨B,p,h0,h1,h2,h3,h4,h5,h6,h7,h8,h9,hEX.cv hC (by omega) (fun i=>by have:=hpl i;omega)⟩)
    have hEW:=hEX.before (hE1.trans hE7) (by omega)
    have hZ1:=hEX.get (by omega) (hE7.get hB1)
    have hZ2:=hEX.get (by omega) (hE7.get hB2)
    have hZ3:=hEX.get (by omega) (hE7.get hB3)
    have hbn1:w1.heap.size≠w.heap.size+1:=by omega
    have hbn2:w1.heap.size≠w.heap.size+1+1:=by omega
    have hbn3:w1.heap.size≠w.heap.size+1+1+1:=by omega
    exact rest _ _ _ _ _ _ _ _ _ _ _ _ _ _ _ _ _ _ _ _ _ _ _ _ _ _ _ _ _ _ _ _ _ _ _ _ _ _ _ _ _ _ _ _ _ _ _ _ _ _ _ _ _ _ _ _ _ _ _ _ _ _ _ _ hEW hZ1 hZ2 hZ3 hbn1 hbn2 hbn3 hX hask2)
  |(have hX:=(Z3 w6 (Obj.cells #[.int .i64 k0,.int .i64 k1,.int .i64 k2,.int .i64 k3,.slice b4 n4 c4',.slice b5 n5 c5] 146) w6.heap.size).trans (if_pos rfl)
    have hEX:Ext w6 (w6.alloc (Obj.cells #[.int .i64 k0,.int .i64 k1,.int .i64 k2,.int .i64 k3,.slice b4 n4 c4',.slice b5 n5 c5] 146)):=(Ext.rfl' w6).alloc _
    have hask2:firstV (Zy r0 r1 r2 r3 S [Zv at',Zv to',Z6v at' to'])=0→∃B p,k0=r0∧k1=r1∧k2=r2∧k3=r3∧b4=base∧n4=n∧c4'=cap∧b5=some ⟨B,0,none⟩∧n5=n∧c5=n∧Cv (w6.alloc (Obj.cells #[.int .i64 k0,.int .i64 k1,.int .i64 k2,.int .i64 k3,.slice b4 n4 c4',.slice b5 n5 c5] 146)) B n p (cvS r0 r1 r2 r3 (S.map Ze)):=(by intro h;obtain⟨B,p,h0,h1,h2,h3,h4,h5,h6,h7,h8,h9,hC,_,_⟩:=hask h;exact⟨B,p,h0,h1,h2,h3,h4,h5,h6,h7,h8,h9,hC.ext hEX⟩)
    have hEW:=(hE1.trans hE7).trans hEX
    have hZ1:=hEX.get (hE7.get hB1)
    have hZ2:=hEX.get (hE7.get hB2)
    have hZ3:=hEX.get (hE7.get hB3)
    have hbn1:w6.heap.size≠w.heap.size+1:=by omega
    have hbn2:w6.heap.size≠w.heap.size+1+1:=by omega
    have hbn3:w6.heap.size≠w.heap.size+1+1+1:=by omega
    exact rest _ _ _ _ _ _ _ _ _ _ _ _ _ _ _ _ _ _ _ _ _ _ _ _ _ _ _ _ _ _ _ _ _ _ _ _ _ _ _ _ _ _ _ _ _ _ _ _ _ _ _ _ _ _ _ _ _ _ _ _ _ _ _ _ hEW hZ1 hZ2 hZ3 hbn1 hbn2 hbn3 hX hask2)
end Go.Proofs.Tryq
