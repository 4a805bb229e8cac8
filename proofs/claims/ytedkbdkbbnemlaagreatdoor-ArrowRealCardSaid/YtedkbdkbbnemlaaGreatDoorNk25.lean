import Derived.Test.YtedkbdkbbnemlaaGreatDoorNk24
set_option linter.all false
namespace Go.Proofs.Tryq
set_option maxRecDepth 100000
set_option maxHeartbeats 4000000
open Go Go.Nk Go.RowKit
theorem Z3R{fn:Func}{a p c:Tmp}{ty:TypeId}(h:fn.results= #[.tmp a,.cell p ty,.tmp c])(tmps:Array Value)(P:Program)(w:World):
 (results fn tmps).run P w=((asAddr (tmps.getD p undef)).run P w).andThen fun x w₁=>((loadVar ty x).run P w₁).andThen fun v w₂=> .ok (.tuple #[tmps.getD a undef,v,tmps.getD c undef]) w₂:=by
 simp only[results,h]
 simp[Sem.run_bind,Result.andThen]
def ZG(C:Nat→Int×Int)(a:Nat):Nat→Nat×Int×Int
 |0=>(a,C a)
 |k+1=>if wrap64 ((ZG C a k).2.2 - (ZG C a k).2.1)<wrap64 ((C (a+1+k)).2 - (C (a+1+k)).1) then(a+1+k,C (a+1+k)) else ZG C a k
def Z1O(r0 r1 r2 r3:Int)(S:List Rs)(a b:Int):Int:=firstV (Zy r0 r1 r2 r3 S [Zv a,Zv b,Z6v a b])
def ZaT(r0 r1 r2 r3:Int)(S:List Rs)(a b:Int):Int×Int×Int:=if Z1O r0 r1 r2 r3 S a b=0 then
    (((ZG (fun d=>atF (cvS r0 r1 r2 r3 (S.map Ze)) (2 ^ S.length - 1) d S.length) a.toNat (b - a).toNat).1:Int),(ZG (fun d=>atF (cvS r0 r1 r2 r3 (S.map Ze)) (2 ^ S.length - 1) d S.length) a.toNat (b - a).toNat).2) else(0,0,0)
theorem ZaI{a b:Int}(h:Z6v a b=0):a≤b:=by
 unfold Z6v at h
 split at h
 ·omega
 ·omega
theorem Cv.setPair{w:World}{B n:Nat}{p:Nat→Nat}{C:Nat→Nat→Int×Int}(h:Cv w B n p C){b:Nat}{x y:Int}{t:TypeId}(hb:w.heap[b]? =some (.cells #[.int .i64 x,.int .i64 y] t))(i:Nat)(v:Value):Cv (w.setCell ⟨b,i,none⟩ v) B n p C:=by
 have hB:∀i,i<n→B≠b:=by
  rintro i hi rfl
  have:=h.ptr i hi
  rw[Z0 hb] at this
  match i,this with
  |0,this=>simp at this
  |1,this=>simp at this
  |i+2,this=>simp at this
 have hp:∀i,i<n→p i≠b:=by
  rintro i hi rfl
  have:=h.lo i 90 hi (by omega)
  rw[Z0 hb] at this
  simp at this
 have key:∀c j,c≠b→(w.setCell ⟨b,i,none⟩ v).cell? ⟨c,j,none⟩=w.cell? ⟨c,j,none⟩:=fun c j hc=>by simp only[World.cell?,set_ne (w:=w) (a:=⟨b,i,none⟩) (b:=c) hc v]
 exact⟨fun j hj=>(key _ _ (hB j hj)).trans (h.ptr j hj),fun j d hj hd=>(key _ _ (hp j hj)).trans (h.lo j d hj hd),fun j d hj hd=>(key _ _ (hp j hj)).trans (h.hi j d hj hd)⟩
theorem Cv.setPair2{w:World}{B n:Nat}{p:Nat→Nat}{C:Nat→Nat→Int×Int}(h:Cv w B n p C){b:Nat}{x y:Int}{t:TypeId}(hb:w.heap[b]? =some (.cells #[.int .i64 x,.int .i64 y] t))(x' y':Int):Cv ((w.setCell ⟨b,0,none⟩ (.int .i64 x')).setCell ⟨b,1,none⟩ (.int .i64 y')) B n p C:=
 (h.setPair hb 0 _).setPair (x:=x') (y:=y) (Zb hb _) 1 _
theorem Z8G(r0 r1 r2 r3:Int)(base:Option Addr)(n cap:Nat)(w:World)(at' to':Int)(S:List Rs)(hlen:S.length=n)(hS:RawS w base S)(hmo:Most w):
 Calls prog 52 #[.agg #[.int .i64 r0,.int .i64 r1,.int .i64 r2,.int .i64 r3,.slice base n cap],.int .i64 at',.int .i64 to'] w fun e w'=>
  e= .returned (.tuple #[.int .i64 (ZaT r0 r1 r2 r3 S at' to').1,.agg #[.int .i64 (ZaT r0 r1 r2 r3 S at' to').2.1,.int .i64 (ZaT r0 r1 r2 r3 S at' to').2.2],.int .i64 (Z1O r0 r1 r2 r3 S at' to')])∧Ext w w':=by
 go_enter func52,ntmps52
 go_wp2_with fail
 have hE1:Ext w _:=((((Ext.rfl' w).alloc (.cells #[.int .i64 r0,.int .i64 r1,.int .i64 r2,.int .i64 r3,.slice base n cap] 70)).alloc (.cells #[.int .i64 at'] 3)).alloc (.cells #[.int .i64 to'] 3)).alloc (.cells #[.int .i64 0,.int .i64 0] 48)
 have hb:((((w.alloc (.cells #[.int .i64 r0,.int .i64 r1,.int .i64 r2,.int .i64 r3,.slice base n cap] 70)).alloc (.cells #[.int .i64 at'] 3)).alloc (.cells #[.int .i64 to'] 3)).alloc (.cells #[.int .i64 0,.int .i64 0] 48)).heap[w.heap.size]? =some (.cells #[.int .i64 r0,.int .i64 r1,.int .i64 r2,.int .i64 r3,.slice base n cap] 70):=by
  simp only[Z3,Z2];rw[if_neg (by omega),if_neg (by omega),if_neg (by omega),if_pos trivial]
 have hZ:((((w.alloc (.cells #[.int .i64 r0,.int .i64 r1,.int .i64 r2,.int .i64 r3,.slice base n cap] 70)).alloc (.cells #[.int .i64 at'] 3)).alloc (.cells #[.int .i64 to'] 3)).alloc (.cells #[.int .i64 0,.int .i64 0] 48)).heap[w.heap.size+1]? =some (.cells #[.int .i64 at'] 3):=by
  simp only[Z3,Z2];rw[if_neg (by omega),if_neg (by omega),if_pos trivial]
 have hY:((((w.alloc (.cells #[.int .i64 r0,.int .i64 r1,.int .i64 r2,.int .i64 r3,.slice base n cap] 70)).alloc (.cells #[.int .i64 at'] 3)).alloc (.cells #[.int .i64 to'] 3)).alloc (.cells #[.int .i64 0,.int .i64 0] 48)).heap[w.heap.size+1+1]? =some (.cells #[.int .i64 to'] 3):=by
  simp only[Z3,Z2];rw[if_neg (by omega),if_pos trivial]
 have hT:((((w.alloc (.cells #[.int .i64 r0,.int .i64 r1,.int .i64 r2,.int .i64 r3,.slice base n cap] 70)).alloc (.cells #[.int .i64 at'] 3)).alloc (.cells #[.int .i64 to'] 3)).alloc (.cells #[.int .i64 0,.int .i64 0] 48)).heap[w.heap.size+1+1+1]? =some (.cells #[.int .i64 0,.int .i64 0] 48):=by
  simp only[Z3,Z2];rw[if_pos trivial]
 generalize World.alloc _ _=w1 at hE1 hb hZ hY hT⊢
 have hX:=Ext.rfl' w1
 have q0:=Z0 hb 0;have q1:=Z0 hb 1;have q2:=Z0 hb 2;have q3:=Z0 hb 3;have q4:=Z0 hb 4
 simp only[List.getElem?_toArray,List.getElem?_cons_zero,List.getElem?_cons_succ] at q0 q1 q2 q3 q4
 have g0:=Zet q0;have g1:=Zet q1;have g2:=Zet q2;have g3:=Zet q3;have g4:=Zet q4
 have r1':w1.cell? ⟨w.heap.size+1,0,none⟩=some (.int .i64 at'):=by rw[Z0 hZ];rfl
 have r2':w1.cell? ⟨w.heap.size+1+1,0,none⟩=some (.int .i64 to'):=by rw[Z0 hY];rfl
 have g5:=Zet r1';have g6:=Zet r2'
 refine Zfn 12 11 9 [0,1,2,3,4,5,6,7,8,9] (.cells #[.int .i64 0,.int .i64 0,.int .i64 0,.int .i64 0,.slice none 0 0,.slice none 0 0] 146) (by kernel_rfl) rfl (by kernel_rfl) rfl rfl (fun a W=>by simp[go_sem,execOp,Act.eval]) ?_
 refine Zfj [0,1,3,5] (by kernel_rfl) rfl rfl (by kernel_rfl) ?_
 simp only[ZeD,List.getElem?_cons_succ,List.getElem?_cons_zero,List.cons_append,List.nil_append]
 repeat (go_big_quiet_step (fail))
 refine wpQuiet_nil ?_
 refine Zfk 2 rfl (by kernel_rfl) rfl (fun W hW=>Zfo (f:=104) (args:= #[.int .i64 at']) (by simp[go_sem,execOp,Act.eval]) ?_)
 refine(Z9v at' W).mono ?_
 rintro e V0 ⟨p0,rfl,hF,hp0⟩
 refine⟨.func (.func 151) #[] #[.pointer (some ⟨p0,0,none⟩)],rfl,hF,?_⟩
 replace hX:=hX.trans (hW.trans hF)
 clear hF hW
 go_simp
 refine Zfk 4 rfl (by kernel_rfl) rfl (fun W hW=>Zfo (f:=104) (args:= #[.int .i64 to']) (by simp[go_sem,execOp,Act.eval]) ?_)
 refine(Z9v to' W).mono ?_
 rintro e V1 ⟨p1,rfl,hF,hp1⟩
 refine⟨.func (.func 151) #[] #[.pointer (some ⟨p1,0,none⟩)],rfl,hF,?_⟩
 replace hX:=hX.trans (hW.trans hF)
 replace hp0:=(hW.trans hF).cellS hp0
 clear hF hW
 go_simp
 refine Zfk 6 rfl (by kernel_rfl) rfl (fun W hW=>Zf3 ⟨.slice (some ⟨W.heap.size,0,none⟩) 3 3,W.alloc (.cells #[.func (.func 151) #[] #[.pointer (some ⟨p0,0,none⟩)],.func (.func 151) #[] #[.pointer (some ⟨p1,0,none⟩)],.func (.func 112) #[] #[.pointer (some ⟨w.heap.size+1,0,none⟩),.pointer (some ⟨w.heap.size+1+1,0,none⟩)]] 127),by simp[go_sem,execOp,Act.eval],(Ext.rfl' W).alloc _,?_⟩)
 have hck:=Z30 W #[.func (.func 151) #[] #[.pointer (some ⟨p0,0,none⟩)],.func (.func 151) #[] #[.pointer (some ⟨p1,0,none⟩)],.func (.func 112) #[] #[.pointer (some ⟨w.heap.size+1,0,none⟩),.pointer (some ⟨w.heap.size+1+1,0,none⟩)]] [(151,#[],#[.pointer (some ⟨p0,0,none⟩)]),(151,#[],#[.pointer (some ⟨p1,0,none⟩)]),(112,#[],#[.pointer (some ⟨w.heap.size+1,0,none⟩),.pointer (some ⟨w.heap.size+1+1,0,none⟩)])] W.heap.size rfl rfl
 have hF:=(hW.alloc (.cells #[.func (.func 151) #[] #[.pointer (some ⟨p0,0,none⟩)],.func (.func 151) #[] #[.pointer (some ⟨p1,0,none⟩)],.func (.func 112) #[] #[.pointer (some ⟨w.heap.size+1,0,none⟩),.pointer (some ⟨w.heap.size+1+1,0,none⟩)]] 127))
 replace hX:=hX.trans hF
 replace hp0:=hF.cellS hp0
 replace hp1:=hF.cellS hp1
 clear hF hW
 generalize W.heap.size=B2 at hck⊢
 generalize World.alloc W _=V9 at*
 go_simp
 refine Zfk 7 rfl (by kernel_rfl) rfl (fun W hW=>Zfo (f:=103) (args:= #[.agg #[.int .i64 r0,.int .i64 r1,.int .i64 r2,.int .i64 r3,.slice base n cap],.slice (some ⟨B2,0,none⟩) 3 3]) (by simp[go_sem,execOp,Act.eval]) ?_)
 refine(Z4K r0 r1 r2 r3 base n cap W 3 B2 (by omega) [(151,#[],#[.pointer (some ⟨p0,0,none⟩)]),(151,#[],#[.pointer (some ⟨p1,0,none⟩)]),(112,#[],#[.pointer (some ⟨w.heap.size+1,0,none⟩),.pointer (some ⟨w.heap.size+1+1,0,none⟩)])] [Zv at',Zv to',Z6v at' to'] rfl rfl (fun j x hj=>hW.cellS (hck j x hj)) (by intro x hx args w';simp only[List.mem_cons,List.not_mem_nil,or_false] at hx;rcases hx with rfl|rfl|rfl<;>simp[go_sem]) (by
       intro j x r hj hr w' hw'
       match j,hj,hr with
       |0,hj,hr=>
        obtain rfl:=Option.some.inj hj
        obtain rfl:=Option.some.inj hr
        exact Z3x p0 at' w' ((hW.trans hw').cellS hp0)
       |1,hj,hr=>
        obtain rfl:=Option.some.inj hj
        obtain rfl:=Option.some.inj hr
        exact Z3x p1 to' w' ((hW.trans hw').cellS hp1)
       |2,hj,hr=>
        obtain rfl:=Option.some.inj hj
        obtain rfl:=Option.some.inj hr
        exact ZcZ _ _ at' to' w' ((hX.trans (hW.trans hw')).cellS r1') ((hX.trans (hW.trans hw')).cellS r2')) S hlen (hS.ext (hE1.trans (hX.trans hW))) (hmo.ext (hE1.trans (hX.trans hW)))).mono ?_
 rintro e V10 ⟨k0,k1,k2,k3,b4,n4,c4,b5,n5,c5,rfl,hF,hask0⟩
 refine⟨.tuple #[.agg #[.int .i64 k0,.int .i64 k1,.int .i64 k2,.int .i64 k3,.slice b4 n4 c4,.slice b5 n5 c5],.int .i64 (firstV (Zy r0 r1 r2 r3 S [Zv at',Zv to',Z6v at' to']))],rfl,hF,?_⟩
 replace hX:=hX.trans (hW.trans hF)
 have hask:Askd r0 r1 r2 r3 base n cap S [Zv at',Zv to',Z6v at' to'] k0 k1 k2 k3 b4 n4 c4 b5 n5 c5 V10:=fun h=>by obtain⟨B,p,h0,h1,h2,h3,h4,h5,h6,h7,h8,h9,hC,_⟩:=hask0 h;exact⟨B,p,h0,h1,h2,h3,h4,h5,h6,h7,h8,h9,hC⟩
 clear hF hW hask0 hck hp0 hp1
 go_simp
 refine Zfj [8,9,10] (by kernel_rfl) rfl rfl (by kernel_rfl) ?_
 simp only[ZeD,List.getElem?_cons_succ,List.getElem?_cons_zero,List.cons_append,List.nil_append]
 repeat (go_big_quiet_step (fail))
 refine wpQuiet_nil ?_
 refine Zfq (by kernel_rfl) (fun W hW b hA hbl hbo=> ?_)
 have hA0:w1.heap.size≤b:=hA.1.1.1.1
 replace hX:=hX.trans hW
 replace hask:=hask.ext hW
 clear r1' r2' g5 g6
 clear hW
 go_simp
 refine Zfp 2 (by kernel_rfl) (fun W hW=> ?_)
 simp only[List.drop_succ_cons,List.drop_zero]
 replace hX:=hX.trans hW
 replace hask:=hask.ext hW
 replace hbo:=hW.get hbo
 have hbw:w.heap.size≤b:=by have h1:=hA0;have h2:=hE1.size;omega
 have hZW:=hX.get hZ
 have hZn:w.heap.size+1≠b:=by have h1:=hA0;have h2:=Z5 hZ;omega
 have hYW:=hX.get hY
 have hYn:w.heap.size+1+1≠b:=by have h1:=hA0;have h2:=Z5 hY;omega
 have hTW:=hX.get hT
 have hTn:w.heap.size+1+1+1≠b:=by have h1:=hA0;have h2:=Z5 hT;omega
 have hEW:=hE1.trans hX
 clear hA hA0 hbl hW hX hE1 hb q0 q1 q2 q3 q4 g0 g1 g2 g3 g4 hZ hY hT
 have x0:=Z8 hbo 0;have x1:=Z8 hbo 1;have x2:=Z8 hbo 2;have x3:=Z8 hbo 3;have x4:=Z8 hbo 4;have x5:=Z8 hbo 5
 have y0:=Z0 hbo 0;have y1:=Z0 hbo 1;have y2:=Z0 hbo 2;have y3:=Z0 hbo 3;have y4:=Z0 hbo 4;have y5:=Z0 hbo 5
 simp only[List.getElem?_toArray,List.getElem?_cons_zero,List.getElem?_cons_succ] at y0 y1 y2 y3 y4 y5
 have hst:=Z0K hbo (.int .i64 k0) (.int .i64 k1) (.int .i64 k2) (.int .i64 k3) (.slice b4 n4 c4) (.slice b5 n5 c5)
 obtain⟨hX,hEX⟩:=hst
 replace hask:=hask.stored hbo hEX
 replace hEW:=hEX.before hEW hbw
 have hZX:=hEX.get hZn hZW
 have hYX:=hEX.get hYn hYW
 have hTX:=hEX.get hTn hTW
 go_wp2_with fail
 generalize ((((((W.setCell ⟨b,0,none⟩ (.int .i64 k0)).setCell ⟨b,1,none⟩ (.int .i64 k1)).setCell ⟨b,2,none⟩ (.int .i64 k2)).setCell ⟨b,3,none⟩ (.int .i64 k3)).setCell ⟨b,4,none⟩ (.slice b4 n4 c4)).setCell ⟨b,5,none⟩ (.slice b5 n5 c5))=X at hX hask hEW hEX hZX hYX hTX⊢
 clear hEX hbo hbw x0 x1 x2 x3 x4 x5 y0 y1 y2 y3 y4 y5 hZW hYW hTW
 refine Zfm ?_
 have u:=Zc hTX;have u0:=u.1;have u1:=u.2.1;have v0:=u.2.2.1;have v1:=u.2.2.2
 clear u
 go_wp2_with fail
 ·have hne:(firstV (Zy r0 r1 r2 r3 S [Zv at',Zv to',Z6v at' to']) !=0)=true:=by assumption
  have hm0:¬Z1O r0 r1 r2 r3 S at' to'=0:=by simpa[Z1O] using hne
  have hw3:w.heap.size≤w.heap.size+1+1+1:=by omega
  have hh:=Zc (set_pair hTX (.int .i64 0) (.int .i64 0))
  have hh0:=hh.1;have hh1:=hh.2.1
  refine bodyPost_ret (v:= .tuple #[.int .i64 0,.agg #[.int .i64 0,.int .i64 0],.int .i64 (Z1O r0 r1 r2 r3 S at' to')]) ((Z3R rfl _ _ _).trans ?_) rfl ⟨by rw[ZaT,if_neg hm0],(hEW.setCell _ _ hw3).setCell _ _ hw3⟩
  simp[go_sem,hh0,hh1]
  rfl
 ·have heq:(firstV (Zy r0 r1 r2 r3 S [Zv at',Zv to',Z6v at' to']) !=0)=false:=by assumption
  have hm0:firstV (Zy r0 r1 r2 r3 S [Zv at',Zv to',Z6v at' to'])=0:=by simpa using heq
  obtain⟨hcf,hrs,hnil,hag⟩:=Z11 hm0
  obtain⟨_,h8,_⟩:=Z0i hcf
  have hfar:=Z0N (hrs (Zv at') (by simp))
  have hfar2:=Z0N (hrs (Zv to') (by simp))
  have hord:=ZaI (hrs (Z6v at' to') (by simp))
  obtain⟨d,rfl⟩:=Int.eq_ofNat_of_zero_le hfar.1
  obtain⟨t,rfl⟩:=Int.eq_ofNat_of_zero_le hfar2.1
  have hd90:d≤90:=by omega
  have ht90:t≤90:=by omega
  have hdt:d≤t:=by omega
  obtain⟨B,p',e0,e1,e2,e3,e4,e5,e6,e7,e8,e9,hC⟩:=hask hm0
  subst k0 k1 k2 k3 b4 n4 c4 b5 n5 c5
  have hn8:n≤8:=by omega
  have hev:=fun v w'=>Z08 r0 r1 r2 r3 base n cap v hn8 w'
  have hat0:=fun(d:Nat)(hd90:d≤90) w' hm' hC'=>Z2Y r0 r1 r2 r3 (.slice base n cap) B n d (2 ^ n - 1) p' (cvS r0 r1 r2 r3 (S.map Ze)) hn8 hd90 (Z2Z hn8) w' hm' hC'
  have HR:Hid (ZaT r0 r1 r2 r3 S d t=(((ZG (fun d=>atF (cvS r0 r1 r2 r3 (S.map Ze)) (2 ^ n - 1) d n) d (t - d)).1:Int),(ZG (fun d=>atF (cvS r0 r1 r2 r3 (S.map Ze)) (2 ^ n - 1) d n) d (t - d)).2)):=by
   show _=_
   rw[ZaT,if_pos (show Z1O r0 r1 r2 r3 S d t=0 from hm0),hlen]
   simp
  have hm1:Hid (Z1O r0 r1 r2 r3 S d t=0):=hm0
  have hmW:=hmo.ext hEW
  clear hask hcf hrs hnil hag heq hm0 hfar hfar2 hord
  generalize (2:Int) ^ n - 1=st at hev hat0 HR
  obtain⟨F,hF⟩:∃F:Nat→Int×Int,F=fun d=>atF (cvS r0 r1 r2 r3 (S.map Ze)) st d n:=⟨_,rfl⟩
  rw[←hF] at HR
  replace hat0:∀d:Nat,d≤90→∀w',Most w'→Cv w' B n p' (cvS r0 r1 r2 r3 (S.map Ze))→Calls prog 105 #[.agg #[.int .i64 r0,.int .i64 r1,.int .i64 r2,.int .i64 r3,.slice base n cap,.slice (some ⟨B,0,none⟩) n n],.int .i64 st,.int .i64 d] w' fun e w''=>e= .returned (.agg #[.int .i64 (F d).1,.int .i64 (F d).2])∧Ext w' w'':=by subst hF;exact hat0
  clear hF
  have hat:=hat0 d hd90
  obtain⟨⟨va,vb⟩,HF0⟩:∃v,F d=v:=⟨_,rfl⟩
  rw[HF0] at hat
  have HF:Hid (F d=(va,vb)):=HF0
  clear HF0
  obtain⟨bs,rfl⟩:∃bs,bs=b:=⟨_,rfl⟩
  have hbT:bs≠w.heap.size+1+1+1:=hTn.symm
  have hq1:=Z0 hZX 0
  simp only[List.getElem?_toArray,List.getElem?_cons_zero] at hq1
  have gq1:=Zet hq1
  clear hZn hYn hTn u0 u1 v0 v1
  have x0:=Z0 hX 0;have x1:=Z0 hX 1;have x2:=Z0 hX 2;have x3:=Z0 hX 3;have x4:=Z0 hX 4;have x5:=Z0 hX 5
  simp only[List.getElem?_toArray,List.getElem?_cons_zero,List.getElem?_cons_succ] at x0 x1 x2 x3 x4 x5
  have c0:=Zet x0;have c1:=Zet x1;have c2:=Zet x2;have c3:=Zet x3;have c4:=Zet x4;have c5:=Zet x5
  refine ZeG 7 (by kernel_rfl) ?_
  refine ZeB [0,1,2,4] (by kernel_rfl) (by kernel_rfl) ?_
  simp only[ZeD,List.getElem?_cons_succ,List.getElem?_cons_zero,List.cons_append,List.nil_append]
  repeat (go_big_quiet_step (fail))
  refine wpQuiet_nil ?_
  refine ZeX 3 (f:=106) (args:= #[.agg #[.int .i64 r0,.int .i64 r1,.int .i64 r2,.int .i64 r3,.slice base n cap,.slice (some ⟨B,0,none⟩) n n]]) (v:= .int .i64 st) (by kernel_rfl) rfl (by kernel_rfl) rfl (fun W=>by simp[go_sem,execOp,Act.eval]) (fun W _=>hev _ W) ?_
  go_simp
  refine ZeX 5 (f:=105) (args:= #[.agg #[.int .i64 r0,.int .i64 r1,.int .i64 r2,.int .i64 r3,.slice base n cap,.slice (some ⟨B,0,none⟩) n n],.int .i64 st,.int .i64 d]) (v:= .agg #[.int .i64 va,.int .i64 vb]) (by kernel_rfl) rfl (by kernel_rfl) rfl (fun W=>by simp[go_sem,execOp,Act.eval]) (fun W hW=>hat W (hmW.ext hW) (hC.ext hW)) ?_
  go_simp
  refine ZeB [6] (by kernel_rfl) (by kernel_rfl) ?_
  simp only[ZeD,List.getElem?_cons_succ,List.getElem?_cons_zero,List.cons_append,List.nil_append]
  repeat (go_big_quiet_step (fail))
  refine wpQuiet_nil ?_
  refine Zfp 1 (by kernel_rfl) (fun W hW=> ?_)
  simp only[List.drop_succ_cons,List.drop_zero]
  have hPW:=hW.get hTX
  have hYW2:=hW.get hYX
  have hXW:=hW.get hX
  have hEW2:=hEW.trans hW
  have hw3:w.heap.size≤w.heap.size+1+1+1:=by omega
  have hP9:=set_pair hPW (.int .i64 va) (.int .i64 vb)
  have hY9:=Zfl (i:=0) (j:=1) (u:= .int .i64 va) (v:= .int .i64 vb) (show w.heap.size+1+1≠w.heap.size+1+1+1 by omega) hYW2
  have hX9:=Zfl (i:=0) (j:=1) (u:= .int .i64 va) (v:= .int .i64 vb) hbT hXW
  have hC9:=(hC.ext hW).setPair2 hPW va vb
  have hE9:=(hEW2.setCell ⟨w.heap.size+1+1+1,0,none⟩ (.int .i64 va) hw3).setCell ⟨w.heap.size+1+1+1,1,none⟩ (.int .i64 vb) hw3
  have hZ9:=Zfl (i:=0) (j:=1) (u:= .int .i64 va) (v:= .int .i64 vb) (show w.heap.size+1≠w.heap.size+1+1+1 by omega) (hW.get hZX)
  have g:=Zc hPW;have g0:=g.1;have g1:=g.2.1;have g2:=g.2.2.1;have g3:=g.2.2.2
  clear g hYX hZX hTX hX hEW hW hw3 hEW2 hXW hYW2 hPW x0 x1 x2 x3 x4 x5 c0 c1 c2 c3 c4 c5 hmW hC hq1 gq1 hat
  go_wp2_with fail
  generalize (W.setCell ⟨w.heap.size+1+1+1,0,none⟩ (.int .i64 va)).setCell ⟨w.heap.size+1+1+1,1,none⟩ (.int .i64 vb)=Y9 at*
  clear g0 g1 g2 g3
  refine Zfm ?_
  have hq1:=Z0 hZ9 0
  simp only[List.getElem?_toArray,List.getElem?_cons_zero] at hq1
  obtain rfl:va=(F d).1:=by rw[HF.out]
  obtain rfl:vb=(F d).2:=by rw[HF.out]
  clear HF
  go_wp2_with fail
  go_loopw [6,10] (fun va vd wr=>∃k:Nat,k≤t - d∧va= .int .i64 ((ZG F d k).1:Int)∧vd= .int .i64 ((d+1+k:Nat):Int)∧Ext w wr∧Cv wr B n p' (cvS r0 r1 r2 r3 (S.map Ze))∧wr.heap[bs]? =some (.cells #[.int .i64 r0,.int .i64 r1,.int .i64 r2,.int .i64 r3,.slice base n cap,.slice (some ⟨B,0,none⟩) n n] 146)∧wr.heap[w.heap.size+1+1]? =some (.cells #[.int .i64 t] 3)∧wr.heap[w.heap.size+1+1+1]? =some (.cells #[.int .i64 (ZG F d k).2.1,.int .i64 (ZG F d k).2.2] 48)) (fun _ vd _=>t+1 - (intOf vd).toNat)
  case atStart=>exact⟨0,Nat.zero_le _,rfl,by push_cast;rfl,hE9,hC9,hX9,hY9,hP9⟩
  case round=>
   obtain⟨q,hq,rfl,rfl,hEr,hCr,hXr,hYr,hPr⟩:=hrel
   clear hE9 hC9 hX9 hY9 hP9
   have HS:Hid (ZG F d (q+1)=if wrap64 ((ZG F d q).2.2 - (ZG F d q).2.1)<wrap64 ((F (d+1+q)).2 - (F (d+1+q)).1) then(d+1+q,F (d+1+q)) else ZG F d q):=rfl
   obtain⟨⟨mi,pa,pb⟩,HW0⟩:∃v,ZG F d q=v:=⟨_,rfl⟩
   rw[HW0] at HS hPr⊢
   have HW:Hid (ZG F d q=(mi,pa,pb)):=HW0
   clear HW0
   have g:=Zc hPr;have g0:=g.1;have g1:=g.2.1;have g2:=g.2.2.1;have g3:=g.2.2.2
   have hq2:=Z0 hYr 0
   simp only[List.getElem?_toArray,List.getElem?_cons_zero] at hq2
   have gq0:=Zet g0;have gq1:=Zet g1
   clear g
   by_cases hend:q=t - d
   ·subst hend
    have hlt:¬((d+1+(t - d):Nat):Int)≤(t:Int):=by omega
    have hlt2:decide (((d+1+(t - d):Nat):Int)≤(t:Int))=false:=decide_eq_false hlt
    clear HS hat0 hev
    go_wp2_with fail
    refine ZeG 3 (by kernel_rfl) ?_
    refine ZeB [0,1,2] (by kernel_rfl) (by kernel_rfl) ?_
    simp only[ZeD,List.getElem?_cons_succ,List.getElem?_cons_zero,List.cons_append,List.nil_append]
    repeat (go_big_quiet_step (fail))
    refine wpQuiet_nil ?_
    refine Zfp 2 (by kernel_rfl) (fun W hW=> ?_)
    simp only[List.drop_succ_cons,List.drop_zero]
    replace hEr:=hEr.trans hW
    replace hPr:=hW.get hPr
    clear hW g0 g1 g2 g3 gq0 gq1 hXr
    have g:=Zc hPr;have g0:=g.1;have g1:=g.2.1;have g2:=g.2.2.1;have g3:=g.2.2.2
    go_wp2_with fail
    refine Zfm ?_
    go_wp2_with fail
    have hP2:=Zc (set_pair hPr (.int .i64 pa) (.int .i64 pb))
    have hP20:=hP2.1;have hP21:=hP2.2.1
    have hw3:w.heap.size≤w.heap.size+1+1+1:=by omega
    refine bodyPost_ret (v:= .tuple #[.int .i64 (ZaT r0 r1 r2 r3 S d t).1,.agg #[.int .i64 (ZaT r0 r1 r2 r3 S d t).2.1,.int .i64 (ZaT r0 r1 r2 r3 S d t).2.2],.int .i64 (Z1O r0 r1 r2 r3 S d t)]) ((Z3R rfl _ _ _).trans ?_) rfl ⟨rfl,(hEr.setCell _ _ hw3).setCell _ _ hw3⟩
    simp[go_sem,hP20,hP21]
    rw[HR.out,hm1.out,HW.out]
    simp
   ·have hlt:((d+1+q:Nat):Int)≤(t:Int):=by omega
    have hlt2:decide (((d+1+q:Nat):Int)≤(t:Int))=true:=decide_eq_true hlt
    obtain⟨e,he⟩:∃e:Nat,e=d+1+q:=⟨_,rfl⟩
    rw[←he] at hlt hlt2 HS⊢
    have hea:e≤d+1+q:=by omega
    have heb:d+1+q≤e:=by omega
    clear he
    have hat:=hat0 e (by omega)
    obtain⟨⟨ea,eb⟩,HF⟩:∃v,F e=v:=⟨_,rfl⟩
    rw[HF] at hat HS
    clear HF
    have x0:=Z0 hXr 0;have x1:=Z0 hXr 1;have x2:=Z0 hXr 2;have x3:=Z0 hXr 3;have x4:=Z0 hXr 4;have x5:=Z0 hXr 5
    simp only[List.getElem?_toArray,List.getElem?_cons_zero,List.getElem?_cons_succ] at x0 x1 x2 x3 x4 x5
    have c0:=Zet x0;have c1:=Zet x1;have c2:=Zet x2;have c3:=Zet x3;have c4:=Zet x4;have c5:=Zet x5
    have hmW:=hmo.ext hEr
    clear g0 g1 g2 g3 gq0 gq1
    go_wp2_with fail
    refine Zfn 6 5 11 [0,1,2,3,4] (.cells #[.int .i64 0,.int .i64 0] 48) (by kernel_rfl) rfl (by kernel_rfl) rfl rfl (fun a W=>by simp[go_sem,execOp,Act.eval]) ?_
    refine Zfj [0,1,3] (by kernel_rfl) rfl rfl (by kernel_rfl) ?_
    simp only[ZeD,List.getElem?_cons_succ,List.getElem?_cons_zero,List.cons_append,List.nil_append]
    repeat (go_big_quiet_step (fail))
    refine wpQuiet_nil ?_
    refine Zfr 2 (f:=106) (args:= #[.agg #[.int .i64 r0,.int .i64 r1,.int .i64 r2,.int .i64 r3,.slice base n cap,.slice (some ⟨B,0,none⟩) n n]]) (v:= .int .i64 st) (by kernel_rfl) rfl rfl rfl (by kernel_rfl) rfl (fun W=>by simp[go_sem,execOp,Act.eval]) (fun W _=>hev _ W) ?_
    go_simp
    refine Zfr 4 (f:=105) (args:= #[.agg #[.int .i64 r0,.int .i64 r1,.int .i64 r2,.int .i64 r3,.slice base n cap,.slice (some ⟨B,0,none⟩) n n],.int .i64 st,.int .i64 e]) (v:= .agg #[.int .i64 ea,.int .i64 eb]) (by kernel_rfl) rfl rfl rfl (by kernel_rfl) rfl (fun W=>by simp[go_sem,execOp,Act.eval]) (fun W hW=>hat W (hmW.ext hW) (hCr.ext hW)) ?_
    go_simp
    refine Zfq (by kernel_rfl) (fun W hW b hA hbl hbo=> ?_)
    obtain⟨bx,rfl⟩:∃bx,bx=b:=⟨_,rfl⟩
    have hE4:=hW
    clear hW
    go_simp
    refine Zfp 1 (by kernel_rfl) (fun W hW=> ?_)
    simp only[List.drop_succ_cons,List.drop_zero]
    replace hbo:=hW.get hbo
    have hbw:wr.heap.size≤bx:=hA
    have hxx:=set_pair hbo (.int .i64 ea) (.int .i64 eb)
    have hl1:=Z5 hXr;have hl2:=Z5 hYr;have hl3:=Z5 hPr
    have hsz:=hEr.size
    have hEV:=(((hEr.trans hE4).trans hW).setCell ⟨bx,0,none⟩ (.int .i64 ea) (show w.heap.size≤bx by omega)).setCell ⟨bx,1,none⟩ (.int .i64 eb) (show w.heap.size≤bx by omega)
    have hCV:=((hCr.ext hE4).ext hW).setPair2 hbo ea eb
    have hXV:=Zfl (i:=0) (j:=1) (u:= .int .i64 ea) (v:= .int .i64 eb) (show bs≠bx by omega) (hW.get (hE4.get hXr))
    have hYV:=Zfl (i:=0) (j:=1) (u:= .int .i64 ea) (v:= .int .i64 eb) (show w.heap.size+1+1≠bx by omega) (hW.get (hE4.get hYr))
    have hPV:=Zfl (i:=0) (j:=1) (u:= .int .i64 ea) (v:= .int .i64 eb) (show w.heap.size+1+1+1≠bx by omega) (hW.get (hE4.get hPr))
    have g:=Zc hbo;have g0:=g.1;have g1:=g.2.1;have g2:=g.2.2.1;have g3:=g.2.2.2
    clear g hEr hCr hXr hYr hPr hW hE4 hbw hA hbl hl1 hl2 hl3 hsz x0 x1 x2 x3 x4 x5 c0 c1 c2 c3 c4 c5 hat hmW
    go_wp2_with fail
    generalize (W.setCell ⟨bx,0,none⟩ (.int .i64 ea)).setCell ⟨bx,1,none⟩ (.int .i64 eb)=Y at*
    clear g0 g1 g2 g3 hbo
    refine Zfm ?_
    have g:=Zc hxx;have g0:=g.1;have g1:=g.2.1;have g2:=g.2.2.1;have g3:=g.2.2.2
    have k:=Zc hPV;have k0:=k.1;have k1:=k.2.1;have k2:=k.2.2.1;have k3:=k.2.2.2
    clear g k
    have gq0:=Zet g0;have gq1:=Zet g1
    go_wp2_with fail
    ·rename_i hgt0
     have hgt:wrap64 (pb - pa)<wrap64 (eb - ea):=by simpa using hgt0
     clear hgt0
     refine ZeG 3 (by kernel_rfl) ?_
     refine ZeB [0,1,2] (by kernel_rfl) (by kernel_rfl) ?_
     simp only[ZeD,List.getElem?_cons_succ,List.getElem?_cons_zero,List.cons_append,List.nil_append]
     repeat (go_big_quiet_step (fail))
     refine wpQuiet_nil ?_
     refine Zfp 1 (by kernel_rfl) (fun W hW=> ?_)
     simp only[List.drop_succ_cons,List.drop_zero]
     replace hEV:=hEV.trans hW
     replace hCV:=hCV.ext hW
     replace hXV:=hW.get hXV
     replace hYV:=hW.get hYV
     replace hPV:=hW.get hPV
     clear hW hxx g0 g1 g2 g3 gq0 gq1 k0 k1 k2 k3
     have k:=Zc hPV;have k0:=k.1;have k1:=k.2.1;have k2:=k.2.2.1;have k3:=k.2.2.2
     clear k
     have hP9:=set_pair hPV (.int .i64 ea) (.int .i64 eb)
     have hX9:=Zfl (i:=0) (j:=1) (u:= .int .i64 ea) (v:= .int .i64 eb) hbT hXV
     have hY9:=Zfl (i:=0) (j:=1) (u:= .int .i64 ea) (v:= .int .i64 eb) (show w.heap.size+1+1≠w.heap.size+1+1+1 by omega) hYV
     have hC9:=hCV.setPair2 hPV ea eb
     have hw3:w.heap.size≤w.heap.size+1+1+1:=by omega
     have hE9:=(hEV.setCell ⟨w.heap.size+1+1+1,0,none⟩ (.int .i64 ea) hw3).setCell ⟨w.heap.size+1+1+1,1,none⟩ (.int .i64 eb) hw3
     clear hEV hCV hXV hYV hPV hw3
     go_wp2_with fail
     generalize (W.setCell ⟨w.heap.size+1+1+1,0,none⟩ (.int .i64 ea)).setCell ⟨w.heap.size+1+1+1,1,none⟩ (.int .i64 eb)=Y2 at*
     clear k0 k1 k2 k3
     refine Zfm ?_
     go_wp2_with fail
     exact⟨⟨q+1,by omega,by rw[HS.out,if_pos hgt],congrArg (Value.int .i64) (by push_cast;omega),hE9,hC9,hX9,hY9,by rw[HS.out,if_pos hgt];exact hP9⟩,by simp[intOf];omega⟩
    ·rename_i hgt0
     have hgt:¬wrap64 (pb - pa)<wrap64 (eb - ea):=by simpa using hgt0
     clear hgt0
     exact⟨⟨q+1,by omega,by rw[HS.out,if_neg hgt],congrArg (Value.int .i64) (by push_cast;omega),hEV,hCV,hXV,hYV,by rw[HS.out,if_neg hgt];exact hPV⟩,by simp[intOf];omega⟩
end Go.Proofs.Tryq
