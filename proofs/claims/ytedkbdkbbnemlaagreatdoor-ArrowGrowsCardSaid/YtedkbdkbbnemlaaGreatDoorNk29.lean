import Derived.Test.YtedkbdkbbnemlaaGreatDoorNk28
set_option linter.all false
namespace Go.Proofs.Tryq
open Go Go.Nk Go.RowKit
def stkV(B:Nat):Value:= .agg #[.int .i64 10,.int .i64 2,.int .i64 5,.int .i64 3,.slice (some ⟨B,0,none⟩) 7 7]
def ZdA(D n c:Nat):Value:= .agg #[.int .i64 2,.int .i64 4,.int .i64 1,.int .i64 2,.slice (some ⟨D,0,none⟩) n c]
def exS4:List Rs:=exS++[⟨20,70,70,0,0⟩]
theorem v_open0:Zo 10 2 5 3 exL []=0:=by kernel_rfl
theorem v_m1:Z1M 10 2 5 3 exL [0,1,2]=1/\Zo 10 2 5 3 exL [0,1,2]=0:=⟨by kernel_rfl,by kernel_rfl⟩
theorem v_m2:Z1M 10 2 5 3 exL [0,3]=0/\Zo 10 2 5 3 exL [0,3]=0:=⟨by kernel_rfl,by kernel_rfl⟩
theorem v_m3:Z1M 10 2 5 3 exL [0,6]=2/\Zo 10 2 5 3 exL [0,6]=0:=⟨by kernel_rfl,by kernel_rfl⟩
def exA:List Ap:=[⟨0,3,0,0⟩,⟨2,3,0,0⟩,⟨2,3,2,0⟩]
theorem v_ap:apsB (Z0Q 10 2 5 3 exL [0,2,3]) exA=true/\Zo 10 2 5 3 exL [0,2,3]=0/\(Z0Q 10 2 5 3 exL [0,2,3]).length=3:=⟨by kernel_rfl,by kernel_rfl,by kernel_rfl⟩
theorem v_fill:Z66 10 2 5 3 exL=[[0,1,2],[3,4,5]]:=by kernel_rfl
theorem v_left:Z6T 10 2 5 3 exL=[6]:=by rw[Z6T,v_fill];kernel_rfl
theorem v_wot:Z1Y 10 2 5 3 exL 3=1/\Zo 10 2 5 3 exL [3]=0:=⟨by kernel_rfl,by kernel_rfl⟩
theorem v_card:ZC 2 4 1 2 exS=0:=by kernel_rfl
theorem v_card4:ZC 2 4 1 2 exS4=0:=by kernel_rfl
theorem v_wide:Zau 2 4 1 2 exS 2=(93,102)/\Z1e 2 4 1 2 exS 2=0:=⟨by kernel_rfl,by kernel_rfl⟩
theorem v_against:Z1r 2 4 1 2 (exS.map Ze)=0:=by
 have h:=Z6X (Zav v_card) (k:=7) (by decide);rw[Z1r];rw[List.length_map];rw[show((2:Int) ^ exS.length - 1)=((7:Nat):Int) from rfl,h,if_pos (by kernel_rfl)]
theorem ZdB(rs:List Int)(h:firstV (rs++[0,0])=0):firstV (Zy 2 4 1 2 exS rs)=0:=by
 have e:Zy 2 4 1 2 exS rs=0::(rs++[0,0]):=by rw[Zy,v_card,v_against];rfl
 rw[e,firstV,if_pos rfl];exact h
theorem ZaJ(a:Int)(h:Zv a=0):markF 2 4 1 2 exS a=0:=ZdB _ (by rw[h];rfl)
theorem v_mk1:markR 2 4 1 2 exS 30=(93,100):=by rw[markR,if_pos (ZaJ 30 rfl)];kernel_rfl
theorem v_mk2:markR 2 4 1 2 exS 25=(73,80):=by rw[markR,if_pos (ZaJ 25 rfl)];kernel_rfl
theorem v_hF(k:Int)(h:Z87 76 k=0):Z8F 2 4 1 2 exS 25 76 k=0:=ZdB _ (by rw[h];rfl)
theorem v_h1:Z6c 2 4 1 2 exS 25 76 4=1:=by rw[Z6c,if_pos (v_hF 4 rfl)];kernel_rfl
theorem v_h2:Z6c 2 4 1 2 exS 25 76 3=0:=by rw[Z6c,if_pos (v_hF 3 rfl)];kernel_rfl
theorem v_best:Z8H 2 4 1 2 exS 25=(76,4):=by rw[Z8H,if_pos (ZaJ 25 rfl)];kernel_rfl
theorem v_widF:Z1O 2 4 1 2 exS 10 30=0:=ZdB _ rfl
theorem v_wid:ZaT 2 4 1 2 exS 10 30=(14,38,48):=by rw[ZaT,if_pos v_widF];kernel_rfl
theorem v_clash:Z7L 2 4 1 2 exS4=[1,3]:=by rw[Zc5 (Zav v_card4)];kernel_rfl
theorem v_trust:Z7M 2 4 1 2 exS4=[0,1,2]:=by rw[Zc6 (Zav v_card4)];kernel_rfl
theorem Z59(l:List Int)(k:Nat)(s:Int)(hl:l.length=k)(hk:k<=100)(h:Z1M 10 2 5 3 exL l=s/\Zo 10 2 5 3 exL l=0)(B:Nat)(ad:Option Addr)(w:World)(hM:Meas w)(hS:RawA w (some ⟨B,0,none⟩) exL)(hI:RawI w ad l):
 Calls prog 23 #[stkV B,.slice ad k k] w fun e w'=>e= .returned (.tuple #[.int .i64 s,.int .i64 0])/\Ext w w':=by
 have h2:=Z5Y 10 2 5 3 (some ⟨B,0,none⟩) 7 7 exL ad k k l w rfl (by decide) hl (Nat.le_refl _) hk hM hS hI;rw[h.1,h.2] at h2;exact h2
theorem Zc9(B:Nat)(ad:Option Addr)(w:World)(hM:Meas w)(hS:RawA w (some ⟨B,0,none⟩) exL)(hI:RawI w ad [0,2,3]):
 Calls prog 27 #[stkV B,.slice ad 3 3] w fun e w'=>∃v,e= .returned (.tuple #[v,.int .i64 0])/\OwnAp w.heap.size w' v (Z0Q 10 2 5 3 exL [0,2,3])/\Ext w w':=by
 have h2:=Z5Z 10 2 5 3 (some ⟨B,0,none⟩) 7 7 exL ad 3 3 [0,2,3] w rfl (by decide) rfl (by decide) (by decide) hM hS hI;rw[v_ap.2.1] at h2;exact h2
theorem ZdC(B:Nat)(w:World)(hM:Meas w)(hS:RawA w (some ⟨B,0,none⟩) exL):
 Calls prog 37 #[stkV B] w fun e w'=>∃v1 v2,e= .returned (.tuple #[v1,v2,.int .i64 0])/\Shr w.heap.size w' v1 [[0,1,2],[3,4,5]]/\OwnI w.heap.size w' v2 [6]/\Ext w w':=by
 have h2:=ZbY 10 2 5 3 (some ⟨B,0,none⟩) 7 7 exL w rfl (by decide) hM hS;rw[v_open0,v_fill,v_left] at h2;exact h2
theorem Z8I(B:Nat)(w:World)(hM:Meas w)(hS:RawA w (some ⟨B,0,none⟩) exL):
 Calls prog 59 #[stkV B,.int .i64 3] w fun e w'=>e= .returned (.tuple #[.int .i64 1,.int .i64 0])/\Ext w w':=by
 have h2:=Z6S 10 2 5 3 (some ⟨B,0,none⟩) 7 7 exL 3 w rfl (by decide) hM hS;rw[v_wot.1,v_wot.2] at h2;exact h2
theorem ZdD(D:Nat)(w:World)(hS:RawS w (some ⟨D,0,none⟩) exS):
 Calls prog 49 #[ZdA D 3 3,.int .i64 2] w fun e w'=>e= .returned (.tuple #[.agg #[.int .i64 93,.int .i64 102],.int .i64 0])/\Ext w w':=by
 have h2:=Z69 2 4 1 2 (some ⟨D,0,none⟩) 3 3 exS 2 w rfl (by decide) hS;rw[v_wide.1,v_wide.2] at h2;exact h2
theorem ZaK(a x y:Int)(h:Zv a=0)(hx:markR 2 4 1 2 exS a=(x,y))(D:Nat)(w:World)(hS:RawS w (some ⟨D,0,none⟩) exS)(hm:Most w):
 Calls prog 45 #[ZdA D 3 3,.int .i64 a] w fun e w'=>e= .returned (.tuple #[.agg #[.int .i64 x,.int .i64 y],.int .i64 0])/\Ext w w':=by
 have h2:=Z86 2 4 1 2 (some ⟨D,0,none⟩) 3 3 w a exS rfl hS hm;rw[hx,ZaJ a h] at h2;exact h2
theorem ZaL(k s:Int)(h:Z87 76 k=0)(hx:Z6c 2 4 1 2 exS 25 76 k=s)(D:Nat)(w:World)(hS:RawS w (some ⟨D,0,none⟩) exS)(hm:Most w):
 Calls prog 53 #[ZdA D 3 3,.int .i64 25,.int .i64 76,.int .i64 k] w fun e w'=>e= .returned (.tuple #[.int .i64 s,.int .i64 0])/\Ext w w':=by
 have h2:=Zc7 2 4 1 2 (some ⟨D,0,none⟩) 3 3 w 25 76 k exS rfl hS hm;rw[hx,v_hF k h] at h2;exact h2
theorem ZdE(D:Nat)(w:World)(hS:RawS w (some ⟨D,0,none⟩) exS)(hm:Most w):
 Calls prog 51 #[ZdA D 3 3,.int .i64 25] w fun e w'=>e= .returned (.tuple #[.int .i64 76,.int .i64 4,.int .i64 0])/\Ext w w':=by
 have h2:=Zc8 2 4 1 2 (some ⟨D,0,none⟩) 3 3 w 25 exS rfl hS hm;rw[v_best,ZaJ 25 rfl] at h2;exact h2
theorem ZaM(D:Nat)(w:World)(hS:RawS w (some ⟨D,0,none⟩) exS)(hm:Most w):
 Calls prog 52 #[ZdA D 3 3,.int .i64 10,.int .i64 30] w fun e w'=>e= .returned (.tuple #[.int .i64 14,.agg #[.int .i64 38,.int .i64 48],.int .i64 0])/\Ext w w':=by
 have h2:=Z8G 2 4 1 2 (some ⟨D,0,none⟩) 3 3 w 10 30 exS rfl hS hm;rw[v_wid,v_widF] at h2;exact h2
theorem Zca(D c:Nat)(w:World)(hS:RawS w (some ⟨D,0,none⟩) exS4)(hm:Most w)(hd:Deb w):
 Calls prog 66 #[ZdA D 4 c] w fun e w'=>∃v,e= .returned (.tuple #[v,.int .i64 0])/\OwnI w.heap.size w' v [1,3]/\Ext w w':=by
 have h2:=Zas 2 4 1 2 (some ⟨D,0,none⟩) 4 c exS4 w rfl hS hm hd;rw[v_clash,v_card4,if_pos rfl] at h2;exact h2
theorem Zcb(D c:Nat)(w:World)(hS:RawS w (some ⟨D,0,none⟩) exS4)(hm:Most w)(hd:Deb w):
 Calls prog 68 #[ZdA D 4 c] w fun e w'=>∃v,e= .returned (.tuple #[v,.int .i64 0])/\OwnI w.heap.size w' v [0,1,2]/\Ext w w':=by
 have h2:=Zat 2 4 1 2 (some ⟨D,0,none⟩) 4 c exS4 w rfl hS hm hd;rw[v_trust,v_card4,if_pos rfl] at h2;exact h2
theorem Z0V{w:World}{b:Nat}{l:List Int}{C:Array Value}(h:w.heap[b]? =some (.cells C 3))(hC:C.toList=l.map (Value.int .i64)):RawI w (some ⟨b,0,none⟩) l:=by
 intro i y hy;refine⟨b,0,rfl,Z5 h,?_⟩;rw[Z0 h,Nat.zero_add,<-Array.getElem?_toList,hC,List.getElem?_map,hy];rfl
theorem ZdF{w:World}{B:Nat}(h:w.heap[B]? =some (.cells exC 51)):RawA w (some ⟨B,0,none⟩) exL:=by
 intro i x hx;have hi:i<7:=(List.getElem?_eq_some_iff.1 hx).1;refine⟨B,0,rfl,Z5 h,?_,?_⟩
 ·match i,hi with
  |0,_|1,_|2,_|3,_|4,_|5,_|6,_=>
   obtain rfl:=Option.some.inj hx;exact⟨by rw[Z0 h];rfl,by rw[Z0 h];rfl,by rw[Z0 h];rfl,by rw[Z0 h];rfl,by rw[Z0 h];rfl,by rw[Z0 h];rfl,by rw[Z0 h];rfl⟩
 ·match i,hi with
  |0,_|1,_|2,_|3,_|4,_|5,_|6,_=>
   obtain rfl:=Option.some.inj hx;decide
theorem Z6Y{w:World}{B:Nat}{L:List Rs}{C:Array Value}(h:w.heap[B]? =some (.cells C 80))(hC:C.toList.take (L.length*5)=L.flatMap rsC):RawS w (some ⟨B,0,none⟩) L:=by
 have key:∀(L:List Rs)(i j:Nat)(x:Rs),L[i]? =some x->j<5->(L.flatMap rsC)[i*5+j]? =(rsC x)[j]? :=by
  intro L
  induction L with
  |nil=>intro i j x h;simp at h
  |cons y L ih=>
   intro i j x hx hj;rw[List.flatMap_cons];have hl:(rsC y).length=5:=rfl;cases i with
   |zero=>
    simp at hx;subst hx;rw[List.getElem?_append_left (by omega)];simp
   |succ i=>
    rw[List.getElem?_append_right (by omega),hl,show(i+1)*5+j - 5=i*5+j by omega];exact ih i j x (by simpa using hx) hj
 intro i x hx;have hi:i<L.length:=(List.getElem?_eq_some_iff.1 hx).1;have hc:∀j,j<5->w.cell? ⟨B,0+i*5+j,none⟩=(rsC x)[j]? :=by
  intro j hj;rw[Z0 h,Nat.zero_add,<-Array.getElem?_toList,<-key L i j x hx hj,<-hC,List.getElem?_take,if_pos (by omega)]
 exact⟨B,0,rfl,Z5 h,hc 0 (by omega),hc 1 (by omega),hc 2 (by omega),hc 3 (by omega),hc 4 (by omega)⟩
end Go.Proofs.Tryq
namespace Go.Proofs.Tryq
set_option maxRecDepth 100000
set_option maxHeartbeats 8000000
open Go Go.Nk Go.RowKit
theorem u68:prog.underlying 68=some (.slice 80):=(underlying_eq 68).trans Tryz.underlying68
theorem i80:prog.info? 80=some Tryz.t80:=by kernel_rfl
theorem t80z:Tryz.t80.zero=some (.agg #[.int .i64 0,.int .i64 0,.int .i64 0,.int .i64 0,.int .i64 0]):=by kernel_rfl
theorem t80s:Tryz.t80.size=5:=by kernel_rfl
theorem t80b:Tryz.t80.bytes=40:=by kernel_rfl
theorem ZaN{w:World}{b:Nat}{A:List Ap}{C:Array Value}(h:w.heap[b]? =some (.cells C 46))(hC:C.toList=A.flatMap apC):RawAp w (some ⟨b,0,none⟩) A:=by
 have key:∀(A:List Ap)(i j:Nat)(x:Ap),A[i]? =some x->j<4->(A.flatMap apC)[i*4+j]? =(apC x)[j]? :=by
  intro A
  induction A with
  |nil=>intro i j x h;simp at h
  |cons y A ih=>
   intro i j x hx hj;rw[List.flatMap_cons];have hl:(apC y).length=4:=rfl;cases i with
   |zero=>
    simp at hx;subst hx;rw[List.getElem?_append_left (by omega)];simp
   |succ i=>
    rw[List.getElem?_append_right (by omega),hl,show(i+1)*4+j - 4=i*4+j by omega];exact ih i j x (by simpa using hx) hj
 intro i x hx;have hc:∀j,j<4->w.cell? ⟨b,0+i*4+j,none⟩=(apC x)[j]? :=by
  intro j hj;rw[Z0 h,Nat.zero_add,<-Array.getElem?_toList,hC,key A i j x hx hj]
 exact⟨b,0,rfl,Z5 h,hc 0 (by omega),hc 1 (by omega),hc 2 (by omega),hc 3 (by omega)⟩
theorem Zcc{w:World}{b:Nat}{x0 x1 x2 y0 y1 y2:Int}(h0:w.heap[b]? =some (.cells #[.int .i64 x0,.int .i64 x1,.int .i64 x2] 3))(h1:w.heap[b+1]? =some (.cells #[.int .i64 y0,.int .i64 y1,.int .i64 y2] 3))
 (h2:w.heap[b+1+1]? =some (.cells #[.slice (some ⟨b,0,none⟩) 3 3,.slice (some ⟨b+1,0,none⟩) 3 3] 27)):RawL w (some ⟨b+1+1,0,none⟩) [[x0,x1,x2],[y0,y1,y2]]:=by
 intro i l hl
 match i,hl with
 |0,hl=>
  obtain rfl:=Option.some.inj hl;exact⟨b+1+1,0,_,3,rfl,Z5 h2,by rw[Z0 h2];rfl,by simp,Z0V h0 rfl⟩
 |1,hl=>
  obtain rfl:=Option.some.inj hl;exact⟨b+1+1,0,_,3,rfl,Z5 h2,by rw[Z0 h2];rfl,by simp,Z0V h1 rfl⟩
theorem Zcd{w:World}{b base:Nat}(h:w.heap[b]? =some (.cells #[] 80))(hb:base<=b):w.ownsRow base 80 5 (.slice (some ⟨b,0,none⟩) 0 0) 0 []:=⟨rfl,.inr ⟨b,0,#[],rfl,hb,h,Nat.le_refl _,by simp[maxLen],rfl,rfl⟩⟩
theorem OwnAp.rawAp{b:Nat}{w:World}{v:Value}{A:List Ap}(h:OwnAp b w v A):∃ao cp,v= .slice ao A.length cp/\RawAp w ao A:=by
 by_cases h0:A=[]
 ·subst h0;rcases h.2 with⟨rfl,_⟩|⟨g,cp,_,rfl,_⟩
  ·exact⟨none,0,rfl,fun i x hx=>by simp at hx⟩
  ·exact⟨_,cp,rfl,fun i x hx=>by simp at hx⟩
 ·have hp:0<A.length:=List.length_pos_iff.2 h0;obtain⟨g,cp,rfl,_,hg⟩:=World.ownsRow.form h hp;refine⟨_,cp,rfl,fun i x hx=> ?_⟩;have key:∀(A:List Ap)(i j:Nat)(x:Ap),A[i]? =some x->j<4->(A.flatMap apC)[i*4+j]? =(apC x)[j]? :=by
   intro A
   induction A with
   |nil=>intro i j x h;simp at h
   |cons y A ih=>
    intro i j x hx hj;rw[List.flatMap_cons];have hl:(apC y).length=4:=rfl;cases i with
    |zero=>
     simp at hx;subst hx;rw[List.getElem?_append_left (by omega)];simp
    |succ i=>
     rw[List.getElem?_append_right (by omega),hl,show(i+1)*4+j - 4=i*4+j by omega];exact ih i j x (by simpa using hx) hj
  have hc:∀j u,j<4->(apC x)[j]? =some u->w.cell? ⟨g,0+i*4+j,none⟩=some u:=by
   intro j u hj hu;have h2:=h.cells (g:=g) rfl (i*4+j) u (by rw[key A i j x hx hj];exact hu);rw[Z0c] at h2;rw[Nat.zero_add];exact h2
  exact⟨g,0,rfl,hg,hc 0 _ (by omega) rfl,hc 1 _ (by omega) rfl,hc 2 _ (by omega) rfl,hc 3 _ (by omega) rfl⟩
theorem Zce(w:World)(hM:Meas w)(Ce:Most w)(hd:Deb w):Calls prog 22 #[] w fun e w'=>e= .returned (.bool true)/\Ext w w':=by
 go_enter func22,ntmps22;go_wp2_with fail;refine(Z6U _).mono ?_;rintro e wA ⟨B,rfl,hBe,hEA⟩;rename_i Q K hK;refine hK _ _ ?_;clear hK;go_wp2_with fail;refine(Zar _).mono ?_;rintro e w0 ⟨D,rfl,hDe,K8⟩;have E9:=hEA.trans K8;have J6:=ZdF (K8.get hBe);have Oi:RawS w0 (some ⟨D,0,none⟩) exS:=Z6Y hDe rfl;have Pz:=hM.ext E9;have Bp:=Ce.ext E9;have G5:=hd.ext E9;have C5:=Ext.rfl' w0;rename_i Q K hK;refine hK _ _ ?_;clear hK;go_wp2_with fail;refine(Z59 [0,1,2] 3 1 rfl (by decide) v_m1 B _ _ (Pz.ext ((((C5.alloc _).alloc _).alloc _))) (J6.ext ((((C5.alloc _).alloc _).alloc _))) (Z0V (l:=[0,1,2]) (by simp only[Z3,Z2];exact if_pos trivial) rfl)).mono ?_;rintro e w1 ⟨rfl,hE⟩;have Dv:Ext w0 w1:=((((Ext.rfl' w0).alloc _).alloc _).alloc _).trans hE;have gs1:w1.heap[w0.heap.size]? =some (.cells #[.int .i64 10,.int .i64 2,.int .i64 5,.int .i64 3,.slice (some ⟨B,0,none⟩) 7 7] 26):=hE.get (by simp only[Z3,Z2];rw[if_neg (by omega),if_neg (by omega),if_pos trivial]);have gc1:w1.heap[w0.heap.size+1]? =some (.cells #[.int .i64 2,.int .i64 4,.int .i64 1,.int .i64 2,.slice (some ⟨D,0,none⟩) 3 3] 70):=hE.get (by simp only[Z3,Z2];rw[if_neg (by omega),if_pos trivial]);have Eh:=C5.trans Dv;clear hE
 have Yf:=Z5 gc1;have Yg:=Z5 gs1;have q0:=Z0 gs1 0;have q1:=Z0 gs1 1;have q2:=Z0 gs1 2;have q3:=Z0 gs1 3;have q4:=Z0 gs1 4;have r0:=Z0 gc1 0;have r1:=Z0 gc1 1;have r2:=Z0 gc1 2;have r3:=Z0 gc1 3;have r4:=Z0 gc1 4;simp only[List.getElem?_toArray,List.getElem?_cons_zero,List.getElem?_cons_succ] at q0 r0 q1 r1 q2 r2 q3 r3 q4 r4;rename_i Q K hK;refine hK _ _ ?_;clear hK;go_wp2_with fail;refine(Z59 [0,3] 2 0 rfl (by decide) v_m2 B _ _ (Pz.ext ((Eh.alloc _))) (J6.ext ((Eh.alloc _))) (Z0V (l:=[0,3]) (by simp only[Z3,Z2];exact if_pos trivial) rfl)).mono ?_;rintro e w2 ⟨rfl,hE⟩;have Dw:Ext w1 w2:=((Ext.rfl' w1).alloc _).trans hE;have gs2:=Dw.get gs1;have gc2:=Dw.get gc1;have E8:=Eh.trans Dw;clear hE;have Dg:=Z5 gc2;have Yh:=Z5 gs2;clear Yf Yg;clear q0 r0 q1 r1 q2 r2 q3 r3 q4 r4;have q0:=Z0 gs2 0;have q1:=Z0 gs2 1;have q2:=Z0 gs2 2;have q3:=Z0 gs2 3;have q4:=Z0 gs2 4;have r0:=Z0 gc2 0;have r1:=Z0 gc2 1;have r2:=Z0 gc2 2;have r3:=Z0 gc2 3;have r4:=Z0 gc2 4;simp only[List.getElem?_toArray,List.getElem?_cons_zero,List.getElem?_cons_succ] at q0 r0 q1 r1 q2 r2 q3 r3 q4 r4;rename_i Q K hK;refine hK _ _ ?_;clear hK;go_wp2_with fail;refine(Z59 [0,6] 2 2 rfl (by decide) v_m3 B _ _ (Pz.ext ((E8.alloc _))) (J6.ext ((E8.alloc _))) (Z0V (l:=[0,6]) (by simp only[Z3,Z2];exact if_pos trivial) rfl)).mono ?_
 rintro e w3 ⟨rfl,hE⟩;have E6:Ext w2 w3:=((Ext.rfl' w2).alloc _).trans hE;have gs3:=E6.get gs2;have gc3:=E6.get gc2;have Pk:=E8.trans E6;clear hE;have Rt:=Z5 gc3;have Yi:=Z5 gs3;clear Dg Yh;clear q0 r0 q1 r1 q2 r2 q3 r3 q4 r4;have q0:=Z0 gs3 0;have q1:=Z0 gs3 1;have q2:=Z0 gs3 2;have q3:=Z0 gs3 3;have q4:=Z0 gs3 4;have r0:=Z0 gc3 0;have r1:=Z0 gc3 1;have r2:=Z0 gc3 2;have r3:=Z0 gc3 3;have r4:=Z0 gc3 4;simp only[List.getElem?_toArray,List.getElem?_cons_zero,List.getElem?_cons_succ] at q0 r0 q1 r1 q2 r2 q3 r3 q4 r4;rename_i Q K hK;refine hK _ _ ?_;clear hK;go_wp2_with fail;refine(Zc9 B _ _ (Pz.ext ((Pk.alloc _))) (J6.ext ((Pk.alloc _))) (Z0V (l:=[0,2,3]) (by simp only[Z3,Z2];exact if_pos trivial) rfl)).mono ?_;rintro e w4 ⟨v9,rfl,hv9,hE⟩;have Ev:Ext w3 w4:=((Ext.rfl' w3).alloc _).trans hE;have gs4:=Ev.get gs3;have gc4:=Ev.get gc3;have Ve:=Pk.trans Ev;obtain⟨a9,c9,rfl,Sl⟩:=hv9.rawAp;rw[v_ap.2.2];clear hE;have Yj:=Z5 gc4;have Yk:=Z5 gs4;clear Rt Yi;clear q0 r0 q1 r1 q2 r2 q3 r3 q4 r4;have q0:=Z0 gs4 0;have q1:=Z0 gs4 1;have q2:=Z0 gs4 2;have q3:=Z0 gs4 3;have q4:=Z0 gs4 4;have r0:=Z0 gc4 0;have r1:=Z0 gc4 1;have r2:=Z0 gc4 2;have r3:=Z0 gc4 3;have r4:=Z0 gc4 4
 simp only[List.getElem?_toArray,List.getElem?_cons_zero,List.getElem?_cons_succ] at q0 r0 q1 r1 q2 r2 q3 r3 q4 r4;rename_i Q K hK;refine hK _ _ ?_;clear hK;go_wp2_with fail;refine(ZdC B _ (Pz.ext Ve) (J6.ext Ve)).mono ?_;rintro e w5 ⟨v11,v12,rfl,Yl,Ym,hE⟩;have Pd:Ext w4 w5:=hE;have gs5:=Pd.get gs4;have gc5:=Pd.get gc4;have I4:=Ve.trans Pd;obtain⟨a11,c11,rfl,Yn⟩:=Yl.rawL (by decide);obtain⟨a12,c12,rfl,Yo,Yp⟩:=Ym.rawI;clear Yp;clear hE;have Yq:=Z5 gc5;have Yr:=Z5 gs5;clear Yj Yk;clear q0 r0 q1 r1 q2 r2 q3 r3 q4 r4;have q0:=Z0 gs5 0;have q1:=Z0 gs5 1;have q2:=Z0 gs5 2;have q3:=Z0 gs5 3;have q4:=Z0 gs5 4;have r0:=Z0 gc5 0;have r1:=Z0 gc5 1;have r2:=Z0 gc5 2;have r3:=Z0 gc5 3;have r4:=Z0 gc5 4;simp only[List.getElem?_toArray,List.getElem?_cons_zero,List.getElem?_cons_succ] at q0 r0 q1 r1 q2 r2 q3 r3 q4 r4;rename_i Q K hK;refine hK _ _ ?_;clear hK;go_wp2_with fail;refine(Z8I B _ (Pz.ext I4) (J6.ext I4)).mono ?_;rintro e w6 ⟨rfl,hE⟩;have Cz:Ext w5 w6:=hE;have gs6:=Cz.get gs5;have gc6:=Cz.get gc5;have Ys:=I4.trans Cz;clear hE;have Yt:=Z5 gc6;have Yu:=Z5 gs6;clear Yq Yr;clear q0 r0 q1 r1 q2 r2 q3 r3 q4 r4;have q0:=Z0 gs6 0;have q1:=Z0 gs6 1;have q2:=Z0 gs6 2;have q3:=Z0 gs6 3;have q4:=Z0 gs6 4
 have r0:=Z0 gc6 0;have r1:=Z0 gc6 1;have r2:=Z0 gc6 2;have r3:=Z0 gc6 3;have r4:=Z0 gc6 4;simp only[List.getElem?_toArray,List.getElem?_cons_zero,List.getElem?_cons_succ] at q0 r0 q1 r1 q2 r2 q3 r3 q4 r4;rename_i Q K hK;refine hK _ _ ?_;clear hK;go_wp2_with fail;refine(ZdD D _ (Oi.ext Ys)).mono ?_;rintro e w7 ⟨rfl,hE⟩;have Td:Ext w6 w7:=hE;have gs7:=Td.get gs6;have gc7:=Td.get gc6;have Vf:=Ys.trans Td;clear hE;have Yv:=Z5 gc7;have Yw:=Z5 gs7;clear Yt Yu;clear q0 r0 q1 r1 q2 r2 q3 r3 q4 r4;have q0:=Z0 gs7 0;have q1:=Z0 gs7 1;have q2:=Z0 gs7 2;have q3:=Z0 gs7 3;have q4:=Z0 gs7 4;have r0:=Z0 gc7 0;have r1:=Z0 gc7 1;have r2:=Z0 gc7 2;have r3:=Z0 gc7 3;have r4:=Z0 gc7 4;simp only[List.getElem?_toArray,List.getElem?_cons_zero,List.getElem?_cons_succ] at q0 r0 q1 r1 q2 r2 q3 r3 q4 r4;rename_i Q K hK;refine hK _ _ ?_;clear hK;go_wp2_with fail;refine(ZaK 30 93 100 rfl v_mk1 D _ (Oi.ext ((Vf.alloc _))) (Bp.ext ((Vf.alloc _)))).mono ?_;rintro e w8 ⟨rfl,hE⟩;have Te:Ext w7 w8:=((Ext.rfl' w7).alloc _).trans hE;have gs8:=Te.get gs7;have gc8:=Te.get gc7;have Vg:=Vf.trans Te;have gp8:w8.heap[w7.heap.size]? =some (.cells #[.int .i64 93,.int .i64 102] 48):=hE.get (by simp only[Z3,Z2];exact if_pos trivial)
 clear hE;have Yx:=Z5 gc8;have Yy:=Z5 gs8;clear Yv Yw;clear q0 r0 q1 r1 q2 r2 q3 r3 q4 r4;have q0:=Z0 gs8 0;have q1:=Z0 gs8 1;have q2:=Z0 gs8 2;have q3:=Z0 gs8 3;have q4:=Z0 gs8 4;have r0:=Z0 gc8 0;have r1:=Z0 gc8 1;have r2:=Z0 gc8 2;have r3:=Z0 gc8 3;have r4:=Z0 gc8 4;simp only[List.getElem?_toArray,List.getElem?_cons_zero,List.getElem?_cons_succ] at q0 r0 q1 r1 q2 r2 q3 r3 q4 r4;rename_i Q K hK;refine hK _ _ ?_;clear hK;go_wp2_with fail;refine(ZaK 25 73 80 rfl v_mk2 D _ (Oi.ext ((Vg.alloc _))) (Bp.ext ((Vg.alloc _)))).mono ?_;rintro e w9 ⟨rfl,hE⟩;have Hq:Ext w8 w9:=((Ext.rfl' w8).alloc _).trans hE;have gs9:=Hq.get gs8;have gc9:=Hq.get gc8;have Vh:=Vg.trans Hq;have gp9:w9.heap[w8.heap.size]? =some (.cells #[.int .i64 93,.int .i64 100] 48):=hE.get (by simp only[Z3,Z2];exact if_pos trivial);clear hE;have Yz:=Z5 gc9;have hlu9:=Z5 gs9;clear Yx Yy;clear q0 r0 q1 r1 q2 r2 q3 r3 q4 r4;have q0:=Z0 gs9 0;have q1:=Z0 gs9 1;have q2:=Z0 gs9 2;have q3:=Z0 gs9 3;have q4:=Z0 gs9 4;have r0:=Z0 gc9 0;have r1:=Z0 gc9 1;have r2:=Z0 gc9 2;have r3:=Z0 gc9 3;have r4:=Z0 gc9 4;simp only[List.getElem?_toArray,List.getElem?_cons_zero,List.getElem?_cons_succ] at q0 r0 q1 r1 q2 r2 q3 r3 q4 r4
 rename_i Q K hK;refine hK _ _ ?_;clear hK;go_wp2_with fail;refine(ZaL 4 1 rfl v_h1 D _ (Oi.ext ((Vh.alloc _))) (Bp.ext ((Vh.alloc _)))).mono ?_;rintro e w10 ⟨rfl,hE⟩;have Ji:Ext w9 w10:=((Ext.rfl' w9).alloc _).trans hE;have gs10:=Ji.get gs9;have gc10:=Ji.get gc9;have Lc:=Vh.trans Ji;have gp10:w10.heap[w9.heap.size]? =some (.cells #[.int .i64 73,.int .i64 80] 48):=hE.get (by simp only[Z3,Z2];exact if_pos trivial);clear hE;have Tf:=Z5 gc10;have Tg:=Z5 gs10;clear Yz hlu9;clear q0 r0 q1 r1 q2 r2 q3 r3 q4 r4;have q0:=Z0 gs10 0;have q1:=Z0 gs10 1;have q2:=Z0 gs10 2;have q3:=Z0 gs10 3;have q4:=Z0 gs10 4;have r0:=Z0 gc10 0;have r1:=Z0 gc10 1;have r2:=Z0 gc10 2;have r3:=Z0 gc10 3;have r4:=Z0 gc10 4;simp only[List.getElem?_toArray,List.getElem?_cons_zero,List.getElem?_cons_succ] at q0 r0 q1 r1 q2 r2 q3 r3 q4 r4;rename_i Q K hK;refine hK _ _ ?_;clear hK;go_wp2_with fail;refine(ZaL 3 0 rfl v_h2 D _ (Oi.ext Lc) (Bp.ext Lc)).mono ?_;rintro e w11 ⟨rfl,hE⟩;have Jj:Ext w10 w11:=hE;have gs11:=Jj.get gs10;have gc11:=Jj.get gc10;have Ld:=Lc.trans Jj;clear hE;have Th:=Z5 gc11;have Ti:=Z5 gs11;clear Tf Tg;clear q0 r0 q1 r1 q2 r2 q3 r3 q4 r4;have q0:=Z0 gs11 0;have q1:=Z0 gs11 1;have q2:=Z0 gs11 2;have q3:=Z0 gs11 3;have q4:=Z0 gs11 4
 have r0:=Z0 gc11 0;have r1:=Z0 gc11 1;have r2:=Z0 gc11 2;have r3:=Z0 gc11 3;have r4:=Z0 gc11 4;simp only[List.getElem?_toArray,List.getElem?_cons_zero,List.getElem?_cons_succ] at q0 r0 q1 r1 q2 r2 q3 r3 q4 r4;rename_i Q K hK;refine hK _ _ ?_;clear hK;go_wp2_with fail;refine(ZdE D _ (Oi.ext Ld) (Bp.ext Ld)).mono ?_;rintro e w12 ⟨rfl,hE⟩;have Jk:Ext w11 w12:=hE;have gs12:=Jk.get gs11;have gc12:=Jk.get gc11;have Gq:=Ld.trans Jk;clear hE;have Tj:=Z5 gc12;have Tk:=Z5 gs12;clear Th Ti;clear q0 r0 q1 r1 q2 r2 q3 r3 q4 r4;have q0:=Z0 gs12 0;have q1:=Z0 gs12 1;have q2:=Z0 gs12 2;have q3:=Z0 gs12 3;have q4:=Z0 gs12 4;have r0:=Z0 gc12 0;have r1:=Z0 gc12 1;have r2:=Z0 gc12 2;have r3:=Z0 gc12 3;have r4:=Z0 gc12 4;simp only[List.getElem?_toArray,List.getElem?_cons_zero,List.getElem?_cons_succ] at q0 r0 q1 r1 q2 r2 q3 r3 q4 r4;rename_i Q K hK;refine hK _ _ ?_;clear hK;go_wp2_with fail;refine(ZaM D _ (Oi.ext Gq) (Bp.ext Gq)).mono ?_;rintro e w13 ⟨rfl,hE⟩;have Jl:Ext w12 w13:=hE;have gs13:=Jl.get gs12;have gc13:=Jl.get gc12;have Oj:=Gq.trans Jl;clear hE;have hlt13:=Z5 gc13;have hlu13:=Z5 gs13;clear Tj Tk;clear q0 r0 q1 r1 q2 r2 q3 r3 q4 r4;have q0:=Z0 gs13 0;have q1:=Z0 gs13 1;have q2:=Z0 gs13 2;have q3:=Z0 gs13 3;have q4:=Z0 gs13 4
 have r0:=Z0 gc13 0;have r1:=Z0 gc13 1;have r2:=Z0 gc13 2;have r3:=Z0 gc13 3;have r4:=Z0 gc13 4;simp only[List.getElem?_toArray,List.getElem?_cons_zero,List.getElem?_cons_succ] at q0 r0 q1 r1 q2 r2 q3 r3 q4 r4;rename_i Q K hK;refine hK _ _ ?_;clear hK;have hsz13:=Oj.size;have hDW:∀W,Ext w13 W->∀(j:Nat) u,(exS.flatMap rsC)[j]? =some u->W.cell? ((⟨D,0,none⟩:Addr).add j)=some u:=by
  intro W hW j u hu;rw[Z0c,Z0 (hW.get (Oj.get hDe)),<-Array.getElem?_toList];exact hu
 go_wp2_with (
  at_builtin
  go_loud (refine wpList_append_own _ rfl _ _ _ rfl (w13.heap.size+1+1) 80 Tryz.t80 (.agg #[.int .i64 0,.int .i64 0,.int .i64 0,.int .i64 0,.int .i64 0]) 5 40 u68 i80 t80z t80s t80b rfl (by omega) (.slice (some ⟨w13.heap.size+1+1,0,none⟩) 0 0) 0 [] rfl (Zcd (by simp only[Z3,Z2];exact if_pos trivial) (Nat.le_refl _)) ⟨D,0,none⟩ 3 3 (exS.flatMap rsC) rfl rfl (hDW _ ((((Ext.rfl' w13).alloc _).alloc _).alloc _)) (by decide) (by simp[maxLen]) (by omega) (by simp only[Z2];omega) ?_)
  intro v' w14 Jm Dp _;obtain⟨g14,cp14,rfl,hg14,hg14'⟩:=World.ownsRow.form Jm (by omega);have Eg:Ext w13 w14:=Ext.grown ((((Ext.rfl' w13).alloc _).alloc _).alloc _) Dp (fun k hk=>by simp[Value.ownBlock] at hk<;>omega);have gp14:w14.heap[w13.heap.size]? =some (.cells #[.int .i64 38,.int .i64 48] 48):=Z0m Dp (fun e=>by simp[Value.ownBlock] at e<;>omega) (by simp only[Z3,Z2];rw[if_neg (by omega),if_neg (by omega),if_pos trivial]);have gk14:w14.heap[w13.heap.size+1]? =some (.cells #[.int .i64 2,.int .i64 4,.int .i64 1,.int .i64 2,.slice (some ⟨D,0,none⟩) 3 3] 70):=Z0m Dp (fun e=>by simp[Value.ownBlock] at e<;>omega) (by simp only[Z3,Z2];rw[if_neg (by omega),if_pos trivial]);clear Dp)
 refine(Z3P _ _ _).mono ?_;rintro e w15 ⟨rfl,Jn⟩;have hE15:=Eg.trans Jn;have gp15:=Jn.get gp14;have gk15:=Jn.get gk14;have Ol:=Z00 Jm Jn;rename_i Q K hK;refine hK _ _ ?_;clear hK
 go_wp2_with (
  at_builtin
  go_loud (refine wpList_append_own _ rfl _ _ _ rfl (w13.heap.size+1+1) 80 Tryz.t80 (.agg #[.int .i64 0,.int .i64 0,.int .i64 0,.int .i64 0,.int .i64 0]) 5 40 u68 i80 t80z t80s t80b rfl (by omega) (.slice (some ⟨g14,0,none⟩) 3 cp14) 3 (exS.flatMap rsC) rfl (Ol.alloc _) ⟨w15.heap.size,0,none⟩ 1 1 (rsC ⟨20,70,70,0,0⟩) rfl rfl ?_ (by decide) (by simp[maxLen]) (by omega) (by simp only[Z2];have:=Jn.size;omega) ?_)
  ·intro j u hu;rw[Z0c,Z0 (by rw[Z3,if_pos rfl]),<-Array.getElem?_toList];exact hu
  intro v' w16 Om Dq _;obtain⟨g16,c16,cur,rfl,hg16,hh16,Tl⟩:∃g c cur,v'= .slice (some ⟨g,0,none⟩) (3+1) c/\w13.heap.size+1+1<=g/\w16.heap[g]? =some (.cells cur 80)/\cur.toList.take ((3+1)*5)=exS.flatMap rsC++rsC ⟨20,70,70,0,0⟩:=by
   obtain⟨_,⟨_,h⟩|⟨g,c,cur,h1,h2,h3,_,_,_,h4⟩⟩:=Om
   ·omega
   ·exact⟨g,c,cur,h1,h2,h3,h4⟩
  have hE16:Ext w13 w16:=Ext.grown (hE15.alloc _) Dq (fun k hk=>by simp[Value.ownBlock] at hk<;>omega);have gp16:w16.heap[w13.heap.size]? =some (.cells #[.int .i64 38,.int .i64 48] 48):=Z0m Dq (fun e=>by simp[Value.ownBlock] at e<;>omega) (((Ext.rfl' w15).alloc _).get gp15);have gk16:w16.heap[w13.heap.size+1]? =some (.cells #[.int .i64 2,.int .i64 4,.int .i64 1,.int .i64 2,.slice (some ⟨D,0,none⟩) 3 3] 70):=Z0m Dq (fun e=>by simp[Value.ownBlock] at e<;>omega) (((Ext.rfl' w15).alloc _).get gk15);clear Dq;have y0:=Z0 gk16 0;have y1:=Z0 gk16 1;have y2:=Z0 gk16 2;have y3:=Z0 gk16 3;have y4:=Z0 gk16 4;have z4:=Z8 gk16 4;have hlt16:=Z5 gk16;simp only[List.getElem?_toArray,List.getElem?_cons_zero,List.getElem?_cons_succ] at y0 y1 y2 y3 y4)
 have hEs:=hE16.setCell ⟨w13.heap.size+1,4,none⟩ (.slice (some ⟨g16,0,none⟩) 4 c16) (by simp only;omega);have Ge:(w16.setCell ⟨w13.heap.size+1,4,none⟩ (.slice (some ⟨g16,0,none⟩) 4 c16)).heap[g16]? =some (.cells cur 80):=(set_ne (by simp only;omega) _).trans hh16;have gks:=Zb gk16 (i:=4) (.slice (some ⟨g16,0,none⟩) 4 c16);have gps:(w16.setCell ⟨w13.heap.size+1,4,none⟩ (.slice (some ⟨g16,0,none⟩) 4 c16)).heap[w13.heap.size]? =some (.cells #[.int .i64 38,.int .i64 48] 48):=(set_ne (by simp only;omega) _).trans gp16;replace gks:(w16.setCell ⟨w13.heap.size+1,4,none⟩ (.slice (some ⟨g16,0,none⟩) 4 c16)).heap[w13.heap.size+1]? =some (.cells #[.int .i64 2,.int .i64 4,.int .i64 1,.int .i64 2,.slice (some ⟨g16,0,none⟩) 4 c16] 70):=gks;generalize (w16.setCell ⟨w13.heap.size+1,4,none⟩ (.slice (some ⟨g16,0,none⟩) 4 c16))=ws at hEs Ge gks gps⊢;have Ae:=Oj.trans hEs;refine(Zca g16 c16 ws (Z6Y (L:=exS4) Ge (Tl.trans (by rfl))) (Bp.ext Ae) (G5.ext Ae)).mono ?_;rintro e w17 ⟨v33,rfl,hv33,Jo⟩;obtain⟨a33,c33,rfl,hr33,hx33⟩:=hv33.rawI;have gk17:=Jo.get gks;have gp17:=Jo.get gps;have hg17:=Jo.get Ge;have On:=Ae.trans Jo;clear hx33 y0 y1 y2 y3 y4 z4;have y0:=Z0 gk17 0;have y1:=Z0 gk17 1;have y2:=Z0 gk17 2;have y3:=Z0 gk17 3;have y4:=Z0 gk17 4
 simp only[List.getElem?_toArray,List.getElem?_cons_zero,List.getElem?_cons_succ] at y0 y1 y2 y3 y4;rename_i Q K hK;refine hK _ _ ?_;clear hK;go_wp2_with fail;refine(Zcb g16 c16 w17 (Z6Y (L:=exS4) hg17 (Tl.trans (by rfl))) (Bp.ext On) (G5.ext On)).mono ?_;rintro e w18 ⟨v35,rfl,hv35,Le⟩;obtain⟨a35,c35,rfl,hr35,hx35⟩:=hv35.rawI;have Tn:=hr33.ext Le;have hE18:=hEs.trans (Jo.trans Le);have To:=Jl.trans hE18;have Tp:=Jk.trans To;have Cc:=Jj.trans Tp;have Bh:=Ji.trans Cc;have Pu:=Hq.trans Bh;have Lq:=Te.trans Pu;have Cm:=Td.trans Lq;have Aw:=Cz.trans Cm;have Am:=Pd.trans Aw;have hr9z:=Sl.ext Am;have Tq:=Yn.ext Aw;have Ts:=Yo.ext Aw;have gp8z:=Pu.get gp8;have gp9z:=Bh.get gp9;have gp10z:=Cc.get gp10;have gp18z:=Le.get gp17;have hcz:=On.trans Le;clear hx35 y0 y1 y2 y3 y4 q0 q1 q2 q3 q4 r0 r1 r2 r3 r4 Am Aw Cm Lq Pu Bh Cc Tp To Dv Dw E6 Ev Pd Cz Td Te Hq Ji Jj Jk Jl Eh E8 Pk Ve I4 Ys Vf Vg Vh Lc Ld Gq;rename_i Q K hK;refine hK _ _ ?_;clear hK;go_wp2_with fail;refine(Z25 a9 3 c9 (Z0Q 10 2 5 3 exL [0,2,3]) _ 3 3 exA _ v_ap.2.2 rfl (by decide) (hr9z.ext ((Ext.rfl' w18).alloc _)) (ZaN (by simp only[Z3,Z2];exact if_pos trivial) rfl)).mono ?_
 rintro e w19 ⟨rfl,hE⟩;have Tt:=((Ext.rfl' w18).alloc _).trans hE;rw[v_ap.1];clear hE;rename_i Q K hK;refine hK _ _ ?_;clear hK;go_wp2_with fail;refine(Z55 a11 2 c11 [[0,1,2],[3,4,5]] _ 2 2 [[0,1,2],[3,4,5]] _ rfl rfl (by decide) (Tq.ext (((Tt.alloc _).alloc _).alloc _)) (Zcc (b:=w19.heap.size) (by simp only[Z3,Z2];rw[if_neg (by omega),if_neg (by omega),if_pos trivial]) (by simp only[Z3,Z2];rw[if_neg (by omega),if_pos trivial]) (by simp only[Z3,Z2];exact if_pos trivial))).mono ?_;rintro e w20 ⟨rfl,hE⟩;have Tu:=Tt.trans (((((Ext.rfl' w19).alloc _).alloc _).alloc _).trans hE);rw[show decide (([[0,1,2],[3,4,5]]:List (List Int))=[[0,1,2],[3,4,5]])=true from by decide];clear hE;rename_i Q K hK;refine hK _ _ ?_;clear hK;go_wp2_with fail;refine(Z1d a12 1 c12 [6] _ 1 1 [6] _ rfl rfl (by decide) (Ts.ext (Tu.alloc _)) (Z0V (by simp only[Z3,Z2];exact if_pos trivial) rfl)).mono ?_;rintro e w21 ⟨rfl,hE⟩;have Gt:=Tu.trans (((Ext.rfl' w20).alloc _).trans hE);rw[show decide (([6]:List Int)=[6])=true from by decide];clear hE;rename_i Q K hK;refine hK _ _ ?_;clear hK;go_wp2_with fail;obtain⟨w1,Lu⟩:∃w1:World,w1=w21:=⟨_,rfl⟩;have gp8w:=Gt.get gp8z;have gp9w:=Gt.get gp9z;have gp10w:=Gt.get gp10z;have gp18w:=Gt.get gp18z
 have Mg:=Tn.ext Gt;have Mh:=hr35.ext Gt;have hcw:=hcz.trans Gt;rw[<-Lu] at gp8w gp9w gp10w gp18w Mg Mh hcw⊢;clear Lu;have z8:=Zc gp8w;have gz8:=Zet z8.1;have gy8:=Zet z8.2.1;clear z8;have z9:=Zc gp9w;have gz9:=Zet z9.1;have gy9:=Zet z9.2.1;clear z9;have z10:=Zc gp10w;have gz10:=Zet z10.1;have gy10:=Zet z10.2.1;clear z10;have z18:=Zc gp18w;have gz18:=Zet z18.1;have gy18:=Zet z18.2.1;clear z18;refine ZeG 49 (by kernel_rfl) ?_;refine ZeB [0] (by kernel_rfl) (by kernel_rfl) ?_;simp only[ZeD,List.getElem?_cons_succ,List.getElem?_cons_zero,List.cons_append,List.nil_append]
 repeat (go_big_quiet_step (fail))
 refine wpQuiet_nil ?_;refine ZeX 1 (f:=34) (args:= #[.int .i64 93,.int .i64 102]) (v:= .agg #[.int .i64 93,.int .i64 102]) (by kernel_rfl) rfl (by kernel_rfl) rfl (fun W=>by simp[go_sem,execOp,Act.eval]) (fun W _=>Z3P 93 102 W) ?_;go_simp;refine ZeB [2,3,4] (by kernel_rfl) (by kernel_rfl) ?_;simp only[ZeD,List.getElem?_cons_succ,List.getElem?_cons_zero,List.cons_append,List.nil_append]
 repeat (go_big_quiet_step (fail))
 refine wpQuiet_nil ?_;refine ZeX 5 (f:=34) (args:= #[.int .i64 93,.int .i64 100]) (v:= .agg #[.int .i64 93,.int .i64 100]) (by kernel_rfl) rfl (by kernel_rfl) rfl (fun W=>by simp[go_sem,execOp,Act.eval]) (fun W _=>Z3P 93 100 W) ?_;go_simp;refine ZeB [6,7,8,9] (by kernel_rfl) (by kernel_rfl) ?_;simp only[ZeD,List.getElem?_cons_succ,List.getElem?_cons_zero,List.cons_append,List.nil_append]
 repeat (go_big_quiet_step (fail))
 refine wpQuiet_nil ?_;refine ZeX 10 (f:=34) (args:= #[.int .i64 73,.int .i64 80]) (v:= .agg #[.int .i64 73,.int .i64 80]) (by kernel_rfl) rfl (by kernel_rfl) rfl (fun W=>by simp[go_sem,execOp,Act.eval]) (fun W _=>Z3P 73 80 W) ?_;go_simp;refine ZeB [11,12,13,14,15,16,17,18,19,20,21,22,23,24,25,26,27,28,29,30,31,32,33,34] (by kernel_rfl) (by kernel_rfl) ?_;simp only[ZeD,List.getElem?_cons_succ,List.getElem?_cons_zero,List.cons_append,List.nil_append]
 repeat (go_big_quiet_step (fail))
 refine wpQuiet_nil ?_;refine ZeX 35 (f:=34) (args:= #[.int .i64 38,.int .i64 48]) (v:= .agg #[.int .i64 38,.int .i64 48]) (by kernel_rfl) rfl (by kernel_rfl) rfl (fun W=>by simp[go_sem,execOp,Act.eval]) (fun W _=>Z3P 38 48 W) ?_;go_simp;refine ZeB [36,37,38,39] (by kernel_rfl) (by kernel_rfl) ?_;simp only[ZeD,List.getElem?_cons_succ,List.getElem?_cons_zero,List.cons_append,List.nil_append]
 repeat (go_big_quiet_step (fail))
 refine wpQuiet_nil ?_;refine Zfa 40 rfl (by kernel_rfl) rfl (fun W hW=>Zf3 ⟨.slice (some ⟨W.heap.size,0,none⟩) 2 2,W.alloc (.cells #[.int .i64 1,.int .i64 3] 3),by simp[go_sem,execOp,Act.eval],(Ext.rfl' W).alloc _,?_⟩);have m9:RawI (W.alloc (.cells #[.int .i64 1,.int .i64 3] 3)) (some ⟨W.heap.size,0,none⟩) [1,3]:=Z0V ((Z3 _ _ _).trans (if_pos rfl)) rfl;have e9:=hW.alloc (.cells #[.int .i64 1,.int .i64 3] 3);obtain⟨b9,Oo⟩:∃b,b=W.heap.size:=⟨_,rfl⟩;rw[<-Oo] at m9;rw[<-Oo];generalize W.alloc _=W9 at m9 e9⊢;clear Oo hW;clear W;go_simp
 refine ZeX 41 (f:=58) (args:= #[.slice a33 2 c33,.slice (some ⟨b9,0,none⟩) 2 2]) (v:= .bool true) (by kernel_rfl) rfl (by kernel_rfl) rfl (fun W=>by simp[go_sem,execOp,Act.eval]) (fun W hW=>by
  have:=Z1d a33 2 c33 [1,3] (some ⟨b9,0,none⟩) 2 2 [1,3] W rfl rfl (by decide) (Mg.ext (e9.trans hW)) (m9.ext hW)
  rwa [decide_eq_true rfl] at this) ?_
 go_simp;refine ZeB [42,43,44] (by kernel_rfl) (by kernel_rfl) ?_;simp only[ZeD,List.getElem?_cons_succ,List.getElem?_cons_zero,List.cons_append,List.nil_append]
 repeat (go_big_quiet_step (fail))
 refine wpQuiet_nil ?_;refine Zfa 45 rfl (by kernel_rfl) rfl (fun W hW=>Zf3 ⟨.slice (some ⟨W.heap.size,0,none⟩) 3 3,W.alloc (.cells #[.int .i64 0,.int .i64 1,.int .i64 2] 3),by simp[go_sem,execOp,Act.eval],(Ext.rfl' W).alloc _,?_⟩);clear m9;have m9:RawI (W.alloc (.cells #[.int .i64 0,.int .i64 1,.int .i64 2] 3)) (some ⟨W.heap.size,0,none⟩) [0,1,2]:=Z0V ((Z3 _ _ _).trans (if_pos rfl)) rfl;have e9:=(e9.trans hW).alloc (.cells #[.int .i64 0,.int .i64 1,.int .i64 2] 3);obtain⟨b9,Oo⟩:∃b,b=W.heap.size:=⟨_,rfl⟩;rw[<-Oo] at m9;rw[<-Oo];generalize W.alloc _=W9 at m9 e9⊢;clear Oo hW;clear W;go_simp
 refine ZeX 46 (f:=58) (args:= #[.slice a35 3 c35,.slice (some ⟨b9,0,none⟩) 3 3]) (v:= .bool true) (by kernel_rfl) rfl (by kernel_rfl) rfl (fun W=>by simp[go_sem,execOp,Act.eval]) (fun W hW=>by
  have:=Z1d a35 3 c35 [0,1,2] (some ⟨b9,0,none⟩) 3 3 [0,1,2] W rfl rfl (by decide) (Mh.ext (e9.trans hW)) (m9.ext hW)
  rwa [decide_eq_true rfl] at this) ?_
 go_simp;refine ZeB [47,48] (by kernel_rfl) (by kernel_rfl) ?_;simp only[ZeD,List.getElem?_cons_succ,List.getElem?_cons_zero,List.cons_append,List.nil_append]
 repeat (go_big_quiet_step (fail))
 refine wpQuiet_nil ?_;refine Zf6 (by kernel_rfl) (fun W hW=> ?_);have hEf:=E9.trans (hcw.trans (e9.trans hW));go_wp2;go_ret;exact⟨rfl,hEf⟩
end Go.Proofs.Tryq
namespace Go.Proofs.Tryq
open Go Go.Nk Go.RowKit
set_option linter.all false
def OwnS(base:Nat)(w:World)(v:Value)(S:List Rs):Prop:=w.ownsRow base 80 5 v S.length (Ziv S)
theorem OwnS.ext{w w':World}{b:Nat}{v:Value}{S:List Rs}(h:OwnS b w v S)(hE:Ext w w'):OwnS b w' v S:=Z00 h hE
theorem OwnS.lt{w:World}{b:Nat}{v:Value}{S:List Rs}(h:OwnS b w v S)(k:Nat)(hk:v.ownBlock=some k):b<=k/\k<w.heap.size:=World.ownsRow.lt h k hk
theorem Ziz{w:World}{base b:Nat}(h:w.heap[b]? =some (.cells #[] 80))(hb:base<=b):OwnS base w (.slice (some ⟨b,0,none⟩) 0 0) []:=
 ⟨rfl,.inr ⟨b,0,#[],rfl,hb,h,Nat.le_refl _,by simp[maxLen],rfl,rfl⟩⟩
theorem OwnS.form{w:World}{b:Nat}{v:Value}{S:List Rs}(h:OwnS b w v S)(h0:0<S.length):∃g cap,v= .slice (some ⟨g,0,none⟩) S.length cap/\b<=g/\g<w.heap.size/\RawS w (some ⟨g,0,none⟩) S/\S.length<=cap/\cap<=maxLen:=by
 have hc:=fun g hg=>World.ownsRow.cells (g:=g) h hg
 rcases h.2 with⟨_,h1⟩|⟨g,cap,cur,rfl,hb,hg,h1,h2,_,_⟩
 ·omega
 ·refine⟨g,cap,rfl,hb,Z5 hg,ZiI (Z5 hg) fun j u hj=> ?_,h1,h2⟩;have:=hc g rfl j u hj;rw[Zh7] at this;exact this
theorem Ziw{w w':World}{g O:Nat}{S:List Rs}(h:RawS w (some ⟨g,O,none⟩) S)(e:w'.heap[g]? =w.heap[g]?):RawS w' (some ⟨g,O,none⟩) S:=by
 intro i s hs;obtain⟨b,off,e1,hb,sh⟩:=h i s hs;obtain⟨rfl,rfl⟩:g=b/\O=off:=by simpa using e1
 have hc:∀o,w'.cell? ⟨g,o,none⟩=w.cell? ⟨g,o,none⟩:=fun o=>by simp only[World.cell?,e]
 have hb':g<w'.heap.size:=by
  rw[Array.getElem?_eq_getElem hb] at e;exact(Array.getElem?_eq_some_iff.1 e).1
 exact⟨g,O,rfl,hb',by rw[hc];exact sh.c0,by rw[hc];exact sh.c1,by rw[hc];exact sh.c2,by rw[hc];exact sh.c3,by rw[hc];exact sh.c4⟩
theorem Zix{o:Oper}{a:Act}{w:World}{K:Act->World->Prop}{Q:Exit->Act->World->Prop}(s x:Operand)(ho:o.op= .call {callee:= .builtin .append,args:= #[s,x],argTypes:= #[68,68]})
 (base:Nat)(v:Value)(T:List Rs)(hs:a.eval s=v)(Ai:OwnS base w v T)(ad:Addr)(c:Nat)(S:List Rs)(hx:a.eval x= .slice (some ad) S.length c)(E2:∀j u,(Ziv S)[j]? =some u->w.cell? (ad.add j)=some u)
 (hb:T.length+S.length<=1000)(A4:base<=w.heap.size)(h:∀v' w',OwnS base w' v' (T++S)->w.grownBy w' v.ownBlock->K (a.put o.dst v') w'):o.wp prog a w K Q:=by
 refine wp_append_own w s x 68 ho base 80 Tryz.t80 _ 5 40 u68 i80 t80z t80s t80b rfl (by omega) v T.length (Ziv T) hs Ai ad S.length c (Ziv S) hx (shotsV_len S) E2 (ZiM S) (by simp only[maxLen];omega) (by omega) A4 ?_;intro v' w' h1 h2 _;refine h v' w' ?_ h2;show w'.ownsRow base 80 5 v' (T++S).length (Ziv (T++S));rw[ZiH,List.length_append];exact h1
set_option linter.all false
theorem Ziu{w:World}{g p q:Nat}(v:Value)(h:p≠q):(w.setCell ⟨g,p,none⟩ v).cell? ⟨g,q,none⟩=w.cell? ⟨g,q,none⟩:=
 World.cell?_setCell_other _ _ _ _ (by intro e;injection e with e1 e2 e3;exact h e2)
theorem ZiO{w:World}{g K:Nat}{S:List Rs}{s:Rs}(h:RawS w (some ⟨g,0,none⟩) S)(hs:S[K]? =some s):
 RawS ((w.setCell ⟨g,K*5+3,none⟩ (.int .i64 (s.wi / 2))).setCell ⟨g,K*5+4,none⟩ (.int .i64 0)) (some ⟨g,0,none⟩) (S.set K (ZiL s)):=by
 intro i t ht;have hi:i<S.length:=by
  have:=(List.getElem?_eq_some_iff.1 ht).1
  rwa [List.length_set] at this
 obtain⟨s0,I1⟩:∃s0,S[i]? =some s0:=⟨_,List.getElem?_eq_getElem hi⟩;obtain⟨b,off,e,hb,sh⟩:=h i s0 I1;obtain⟨rfl,rfl⟩:g=b/\0=off:=by simpa using e
 have B1:g<((w.setCell ⟨g,K*5+3,none⟩ (.int .i64 (s.wi / 2))).setCell ⟨g,K*5+4,none⟩ (.int .i64 0)).heap.size:=by
  rw[(Go.Conc.aside_setCell _ _ _).size,(Go.Conc.aside_setCell _ _ _).size];exact hb
 refine⟨g,0,rfl,B1,?_⟩;by_cases J4:i=K
 ·subst J4;obtain rfl:s0=s:=by rw[hs] at I1;exact(Option.some.inj I1).symm
  obtain rfl:t=ZiL s0:=by
   rw[List.getElem?_set_self hi] at ht;exact(Option.some.inj ht).symm
  have k0:=sh.c0;have k1:=sh.c1;have k2:=sh.c2;have k3:=sh.c3;have k4:=sh.c4;simp only[Nat.zero_add] at k0 k1 k2 k3 k4;have j3:((w.setCell ⟨g,i*5+3,none⟩ (.int .i64 (s0.wi / 2))).setCell ⟨g,i*5+4,none⟩ (.int .i64 0)).cell? ⟨g,i*5+3,none⟩=some (.int .i64 (s0.wi / 2)):=by
   rw[Ziu _ (by omega),World.cell?_setCell_same _ _ _ k3]
  have j4:((w.setCell ⟨g,i*5+3,none⟩ (.int .i64 (s0.wi / 2))).setCell ⟨g,i*5+4,none⟩ (.int .i64 0)).cell? ⟨g,i*5+4,none⟩=some (.int .i64 0):=
   World.cell?_setCell_same _ _ _ ((Ziu _ (by omega)).trans k4)
  refine⟨?_,?_,?_,?_,?_⟩<;>simp only[Nat.zero_add]
  ·rw[Ziu _ (by omega),Ziu _ (by omega)];exact k0
  ·rw[Ziu _ (by omega),Ziu _ (by omega)];exact k1
  ·rw[Ziu _ (by omega),Ziu _ (by omega)];exact k2
  ·exact j3
  ·exact j4
 ·obtain rfl:t=s0:=by
   rw[List.getElem?_set_ne (Ne.symm J4)] at ht;rw[I1] at ht;exact(Option.some.inj ht).symm
  refine⟨?_,?_,?_,?_,?_⟩
  ·rw[Ziu _ (by omega),Ziu _ (by omega)];exact sh.c0
  ·rw[Ziu _ (by omega),Ziu _ (by omega)];exact sh.c1
  ·rw[Ziu _ (by omega),Ziu _ (by omega)];exact sh.c2
  ·rw[Ziu _ (by omega),Ziu _ (by omega)];exact sh.c3
  ·rw[Ziu _ (by omega),Ziu _ (by omega)];exact sh.c4
end Go.Proofs.Tryq
