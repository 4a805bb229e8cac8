import Derived.Test.YtedkbdkbbnemlaaGreatDoorNk27
set_option linter.all false
namespace Go.Proofs.Tryq
open Go Go.Nk Go.RowKit
def stkV(B:Nat):Value:= .agg #[.int .i64 10,.int .i64 2,.int .i64 5,.int .i64 3,.slice (some ⟨B,0,none⟩) 7 7]
def ZdA(D n c:Nat):Value:= .agg #[.int .i64 2,.int .i64 4,.int .i64 1,.int .i64 2,.slice (some ⟨D,0,none⟩) n c]
def exS4:List Rs:=exS++[⟨20,70,70,0,0⟩]
theorem v_open0:Zo 10 2 5 3 exL []=0:=by kernel_rfl
theorem v_m1:Z1M 10 2 5 3 exL [0,1,2]=1∧Zo 10 2 5 3 exL [0,1,2]=0:=⟨by kernel_rfl,by kernel_rfl⟩
theorem v_m2:Z1M 10 2 5 3 exL [0,3]=0∧Zo 10 2 5 3 exL [0,3]=0:=⟨by kernel_rfl,by kernel_rfl⟩
theorem v_m3:Z1M 10 2 5 3 exL [0,6]=2∧Zo 10 2 5 3 exL [0,6]=0:=⟨by kernel_rfl,by kernel_rfl⟩
def exA:List Ap:=[⟨0,3,0,0⟩,⟨2,3,0,0⟩,⟨2,3,2,0⟩]
theorem v_ap:apsB (Z0Q 10 2 5 3 exL [0,2,3]) exA=true∧Zo 10 2 5 3 exL [0,2,3]=0∧(Z0Q 10 2 5 3 exL [0,2,3]).length=3:=⟨by kernel_rfl,by kernel_rfl,by kernel_rfl⟩
theorem v_fill:Z66 10 2 5 3 exL=[[0,1,2],[3,4,5]]:=by kernel_rfl
theorem v_left:Z6T 10 2 5 3 exL=[6]:=by rw[Z6T,v_fill];kernel_rfl
theorem v_wot:Z1Y 10 2 5 3 exL 3=1∧Zo 10 2 5 3 exL [3]=0:=⟨by kernel_rfl,by kernel_rfl⟩
theorem v_card:ZC 2 4 1 2 exS=0:=by kernel_rfl
theorem v_card4:ZC 2 4 1 2 exS4=0:=by kernel_rfl
theorem v_wide:Zau 2 4 1 2 exS 2=(93,102)∧Z1e 2 4 1 2 exS 2=0:=⟨by kernel_rfl,by kernel_rfl⟩
theorem v_against:Z1r 2 4 1 2 (exS.map Ze)=0:=by
 have h:=Z6X (Zav v_card) (k:=7) (by decide)
 rw[Z1r]
 rw[List.length_map]
 rw[show((2:Int) ^ exS.length - 1)=((7:Nat):Int) from rfl,h,if_pos (by kernel_rfl)]
theorem ZdB(rs:List Int)(h:firstV (rs++[0,0])=0):firstV (Zy 2 4 1 2 exS rs)=0:=by
 have e:Zy 2 4 1 2 exS rs=0::(rs++[0,0]):=by rw[Zy,v_card,v_against];rfl
 rw[e,firstV,if_pos rfl]
 exact h
theorem ZaJ(a:Int)(h:Zv a=0):ZA 2 4 1 2 exS a=0:=ZdB _ (by rw[h];rfl)
theorem v_mk1:Zw 2 4 1 2 exS 30=(93,100):=by rw[Zw,if_pos (ZaJ 30 rfl)];kernel_rfl
theorem v_mk2:Zw 2 4 1 2 exS 25=(73,80):=by rw[Zw,if_pos (ZaJ 25 rfl)];kernel_rfl
theorem v_hF(k:Int)(h:Z87 76 k=0):Z8F 2 4 1 2 exS 25 76 k=0:=ZdB _ (by rw[h];rfl)
theorem v_h1:Z6c 2 4 1 2 exS 25 76 4=1:=by rw[Z6c,if_pos (v_hF 4 rfl)];kernel_rfl
theorem v_h2:Z6c 2 4 1 2 exS 25 76 3=0:=by rw[Z6c,if_pos (v_hF 3 rfl)];kernel_rfl
theorem v_best:Z8H 2 4 1 2 exS 25=(76,4):=by rw[Z8H,if_pos (ZaJ 25 rfl)];kernel_rfl
theorem v_widF:Z1O 2 4 1 2 exS 10 30=0:=ZdB _ rfl
theorem v_wid:ZaT 2 4 1 2 exS 10 30=(14,38,48):=by rw[ZaT,if_pos v_widF];kernel_rfl
theorem v_clash:Z7L 2 4 1 2 exS4=[1,3]:=by rw[Zc5 (Zav v_card4)];kernel_rfl
theorem v_trust:Z7M 2 4 1 2 exS4=[0,1,2]:=by rw[Zc6 (Zav v_card4)];kernel_rfl
theorem Z59(l:List Int)(k:Nat)(s:Int)(hl:l.length=k)(hk:k≤100)(h:Z1M 10 2 5 3 exL l=s∧Zo 10 2 5 3 exL l=0)(B:Nat)(ad:Option Addr)(w:World)(hM:Meas w)(hS:RawA w (some ⟨B,0,none⟩) exL)(hI:RawI w ad l):
 Calls prog 23 #[stkV B,.slice ad k k] w fun e w'=>e= .returned (.tuple #[.int .i64 s,.int .i64 0])∧Ext w w':=by
 have h2:=Z5Y 10 2 5 3 (some ⟨B,0,none⟩) 7 7 exL ad k k l w rfl (by decide) hl (Nat.le_refl _) hk hM hS hI
 rw[h.1,h.2] at h2
 exact h2
theorem Zc9(B:Nat)(ad:Option Addr)(w:World)(hM:Meas w)(hS:RawA w (some ⟨B,0,none⟩) exL)(hI:RawI w ad [0,2,3]):
 Calls prog 27 #[stkV B,.slice ad 3 3] w fun e w'=>∃v,e= .returned (.tuple #[v,.int .i64 0])∧OwnAp w.heap.size w' v (Z0Q 10 2 5 3 exL [0,2,3])∧Ext w w':=by
 have h2:=Z5Z 10 2 5 3 (some ⟨B,0,none⟩) 7 7 exL ad 3 3 [0,2,3] w rfl (by decide) rfl (by decide) (by decide) hM hS hI
 rw[v_ap.2.1] at h2
 exact h2
theorem ZdC(B:Nat)(w:World)(hM:Meas w)(hS:RawA w (some ⟨B,0,none⟩) exL):
 Calls prog 37 #[stkV B] w fun e w'=>∃v1 v2,e= .returned (.tuple #[v1,v2,.int .i64 0])∧Shr w.heap.size w' v1 [[0,1,2],[3,4,5]]∧OwnI w.heap.size w' v2 [6]∧Ext w w':=by
 have h2:=ZbY 10 2 5 3 (some ⟨B,0,none⟩) 7 7 exL w rfl (by decide) hM hS
 rw[v_open0,v_fill,v_left] at h2
 exact h2
theorem Z8I(B:Nat)(w:World)(hM:Meas w)(hS:RawA w (some ⟨B,0,none⟩) exL):
 Calls prog 59 #[stkV B,.int .i64 3] w fun e w'=>e= .returned (.tuple #[.int .i64 1,.int .i64 0])∧Ext w w':=by
 have h2:=Z6S 10 2 5 3 (some ⟨B,0,none⟩) 7 7 exL 3 w rfl (by decide) hM hS
 rw[v_wot.1,v_wot.2] at h2
 exact h2
theorem ZdD(D:Nat)(w:World)(hS:RawS w (some ⟨D,0,none⟩) exS):
 Calls prog 49 #[ZdA D 3 3,.int .i64 2] w fun e w'=>e= .returned (.tuple #[.agg #[.int .i64 93,.int .i64 102],.int .i64 0])∧Ext w w':=by
 have h2:=Z69 2 4 1 2 (some ⟨D,0,none⟩) 3 3 exS 2 w rfl (by decide) hS
 rw[v_wide.1,v_wide.2] at h2
 exact h2
theorem ZaK(a x y:Int)(h:Zv a=0)(hx:Zw 2 4 1 2 exS a=(x,y))(D:Nat)(w:World)(hS:RawS w (some ⟨D,0,none⟩) exS)(hm:Most w):
 Calls prog 45 #[ZdA D 3 3,.int .i64 a] w fun e w'=>e= .returned (.tuple #[.agg #[.int .i64 x,.int .i64 y],.int .i64 0])∧Ext w w':=by
 have h2:=Z86 2 4 1 2 (some ⟨D,0,none⟩) 3 3 w a exS rfl hS hm
 rw[hx,ZaJ a h] at h2
 exact h2
theorem ZaL(k s:Int)(h:Z87 76 k=0)(hx:Z6c 2 4 1 2 exS 25 76 k=s)(D:Nat)(w:World)(hS:RawS w (some ⟨D,0,none⟩) exS)(hm:Most w):
 Calls prog 53 #[ZdA D 3 3,.int .i64 25,.int .i64 76,.int .i64 k] w fun e w'=>e= .returned (.tuple #[.int .i64 s,.int .i64 0])∧Ext w w':=by
 have h2:=Zc7 2 4 1 2 (some ⟨D,0,none⟩) 3 3 w 25 76 k exS rfl hS hm
 rw[hx,v_hF k h] at h2
 exact h2
theorem ZdE(D:Nat)(w:World)(hS:RawS w (some ⟨D,0,none⟩) exS)(hm:Most w):
 Calls prog 51 #[ZdA D 3 3,.int .i64 25] w fun e w'=>e= .returned (.tuple #[.int .i64 76,.int .i64 4,.int .i64 0])∧Ext w w':=by
 have h2:=Zc8 2 4 1 2 (some ⟨D,0,none⟩) 3 3 w 25 exS rfl hS hm
 rw[v_best,ZaJ 25 rfl] at h2
 exact h2
theorem ZaM(D:Nat)(w:World)(hS:RawS w (some ⟨D,0,none⟩) exS)(hm:Most w):
 Calls prog 52 #[ZdA D 3 3,.int .i64 10,.int .i64 30] w fun e w'=>e= .returned (.tuple #[.int .i64 14,.agg #[.int .i64 38,.int .i64 48],.int .i64 0])∧Ext w w':=by
 have h2:=Z8G 2 4 1 2 (some ⟨D,0,none⟩) 3 3 w 10 30 exS rfl hS hm
 rw[v_wid,v_widF] at h2
 exact h2
theorem Zca(D c:Nat)(w:World)(hS:RawS w (some ⟨D,0,none⟩) exS4)(hm:Most w)(hd:Deb w):
 Calls prog 66 #[ZdA D 4 c] w fun e w'=>∃v,e= .returned (.tuple #[v,.int .i64 0])∧OwnI w.heap.size w' v [1,3]∧Ext w w':=by
 have h2:=Zas 2 4 1 2 (some ⟨D,0,none⟩) 4 c exS4 w rfl hS hm hd
 rw[v_clash,v_card4,if_pos rfl] at h2
 exact h2
theorem Zcb(D c:Nat)(w:World)(hS:RawS w (some ⟨D,0,none⟩) exS4)(hm:Most w)(hd:Deb w):
 Calls prog 68 #[ZdA D 4 c] w fun e w'=>∃v,e= .returned (.tuple #[v,.int .i64 0])∧OwnI w.heap.size w' v [0,1,2]∧Ext w w':=by
 have h2:=Zat 2 4 1 2 (some ⟨D,0,none⟩) 4 c exS4 w rfl hS hm hd
 rw[v_trust,v_card4,if_pos rfl] at h2
 exact h2
theorem Z0V{w:World}{b:Nat}{l:List Int}{C:Array Value}(h:w.heap[b]? =some (.cells C 3))(hC:C.toList=l.map (Value.int .i64)):RawI w (some ⟨b,0,none⟩) l:=by
 intro i y hy
 refine⟨b,0,rfl,Z5 h,?_⟩
 rw[Z0 h,Nat.zero_add,←Array.getElem?_toList,hC,List.getElem?_map,hy]
 rfl
theorem ZdF{w:World}{B:Nat}(h:w.heap[B]? =some (.cells exC 51)):RawA w (some ⟨B,0,none⟩) exL:=by
 intro i x hx
 have hi:i<7:=(List.getElem?_eq_some_iff.1 hx).1
 refine⟨B,0,rfl,Z5 h,?_,?_⟩
 ·match i,hi with
  |0,_|1,_|2,_|3,_|4,_|5,_|6,_=>
   obtain rfl:=Option.some.inj hx
   exact⟨by rw[Z0 h];rfl,by rw[Z0 h];rfl,by rw[Z0 h];rfl,by rw[Z0 h];rfl,by rw[Z0 h];rfl,by rw[Z0 h];rfl,by rw[Z0 h];rfl⟩
 ·match i,hi with
  |0,_|1,_|2,_|3,_|4,_|5,_|6,_=>
   obtain rfl:=Option.some.inj hx
   decide
theorem Z6Y{w:World}{B:Nat}{L:List Rs}{C:Array Value}(h:w.heap[B]? =some (.cells C 80))(hC:C.toList.take (L.length*5)=L.flatMap rsC):RawS w (some ⟨B,0,none⟩) L:=by
 have key:∀(L:List Rs)(i j:Nat)(x:Rs),L[i]? =some x→j<5→(L.flatMap rsC)[i*5+j]? =(rsC x)[j]? :=by
  intro L
  induction L with
  |nil=>intro i j x h;simp at h
  |cons y L ih=>
   intro i j x hx hj
   rw[List.flatMap_cons]
   have hl:(rsC y).length=5:=rfl
   cases i with
   |zero=>
    simp at hx
    subst hx
    rw[List.getElem?_append_left (by omega)]
    simp
   |succ i=>
    rw[List.getElem?_append_right (by omega),hl,show(i+1)*5+j - 5=i*5+j by omega]
    exact ih i j x (by simpa using hx) hj
 intro i x hx
 have hi:i<L.length:=(List.getElem?_eq_some_iff.1 hx).1
 have hc:∀j,j<5→w.cell? ⟨B,0+i*5+j,none⟩=(rsC x)[j]? :=by
  intro j hj
  rw[Z0 h,Nat.zero_add,←Array.getElem?_toList,←key L i j x hx hj,←hC,List.getElem?_take,if_pos (by omega)]
 exact⟨B,0,rfl,Z5 h,hc 0 (by omega),hc 1 (by omega),hc 2 (by omega),hc 3 (by omega),hc 4 (by omega)⟩
end Go.Proofs.Tryq
namespace Go.Proofs.Tryq
set_option maxRecDepth 100000
set_option maxHeartbeats 8000000
open Go Go.Nk Go.RowKit
theorem u68:prog.underlying 68=some (.slice 80):=(underlying_eq 68).trans Tryz.underlying68
theorem i80:prog.info? 80=some Tryz.t80:=by kernel_rfl
theorem t80z:Tryz.t80.zero=some (.agg #[.int .i64 0,.int .i64 0,.int .i64 0,.int .i64 0,.int .i64 0]):=by kernel_rfl
theorem t80s:Tryz.t80.size=5:=by kernel_rfl
theorem t80b:Tryz.t80.bytes=40:=by kernel_rfl
theorem ZaN{w:World}{b:Nat}{A:List Ap}{C:Array Value}(h:w.heap[b]? =some (.cells C 46))(hC:C.toList=A.flatMap apC):RawAp w (some ⟨b,0,none⟩) A:=by
 have key:∀(A:List Ap)(i j:Nat)(x:Ap),A[i]? =some x→j<4→(A.flatMap apC)[i*4+j]? =(apC x)[j]? :=by
  intro A
  induction A with
  |nil=>intro i j x h;simp at h
  |cons y A ih=>
   intro i j x hx hj
   rw[List.flatMap_cons]
   have hl:(apC y).length=4:=rfl
   cases i with
   |zero=>
    simp at hx
    subst hx
    rw[List.getElem?_append_left (by omega)]
    simp
   |succ i=>
    rw[List.getElem?_append_right (by omega),hl,show(i+1)*4+j - 4=i*4+j by omega]
    exact ih i j x (by simpa using hx) hj
 intro i x hx
 have hc:∀j,j<4→w.cell? ⟨b,0+i*4+j,none⟩=(apC x)[j]? :=by
  intro j hj
  rw[Z0 h,Nat.zero_add,←Array.getElem?_toList,hC,key A i j x hx hj]
 exact⟨b,0,rfl,Z5 h,hc 0 (by omega),hc 1 (by omega),hc 2 (by omega),hc 3 (by omega)⟩
theorem Zcc{w:World}{b:Nat}{x0 x1 x2 y0 y1 y2:Int}(h0:w.heap[b]? =some (.cells #[.int .i64 x0,.int .i64 x1,.int .i64 x2] 3))(h1:w.heap[b+1]? =some (.cells #[.int .i64 y0,.int .i64 y1,.int .i64 y2] 3))
 (h2:w.heap[b+1+1]? =some (.cells #[.slice (some ⟨b,0,none⟩) 3 3,.slice (some ⟨b+1,0,none⟩) 3 3] 27)):RawL w (some ⟨b+1+1,0,none⟩) [[x0,x1,x2],[y0,y1,y2]]:=by
 intro i l hl
 match i,hl with
 |0,hl=>
  obtain rfl:=Option.some.inj hl
  exact⟨b+1+1,0,_,3,rfl,Z5 h2,by rw[Z0 h2];rfl,by simp,Z0V h0 rfl⟩
 |1,hl=>
  obtain rfl:=Option.some.inj hl
  exact⟨b+1+1,0,_,3,rfl,Z5 h2,by rw[Z0 h2];rfl,by simp,Z0V h1 rfl⟩
theorem Zcd{w:World}{b base:Nat}(h:w.heap[b]? =some (.cells #[] 80))(hb:base≤b):w.ownsRow base 80 5 (.slice (some ⟨b,0,none⟩) 0 0) 0 []:=⟨rfl,.inr ⟨b,0,#[],rfl,hb,h,Nat.le_refl _,by simp[maxLen],rfl,rfl⟩⟩
theorem OwnAp.rawAp{b:Nat}{w:World}{v:Value}{A:List Ap}(h:OwnAp b w v A):∃ao cp,v= .slice ao A.length cp∧RawAp w ao A:=by
 by_cases h0:A=[]
 ·subst h0
  rcases h.2 with⟨rfl,_⟩|⟨g,cp,_,rfl,_⟩
  ·exact⟨none,0,rfl,fun i x hx=>by simp at hx⟩
  ·exact⟨_,cp,rfl,fun i x hx=>by simp at hx⟩
 ·have hp:0<A.length:=List.length_pos_iff.2 h0
  obtain⟨g,cp,rfl,_,hg⟩:=World.ownsRow.form h hp
  refine⟨_,cp,rfl,fun i x hx=> ?_⟩
  have key:∀(A:List Ap)(i j:Nat)(x:Ap),A[i]? =some x→j<4→(A.flatMap apC)[i*4+j]? =(apC x)[j]? :=by
   intro A
   induction A with
   |nil=>intro i j x h;simp at h
   |cons y A ih=>
    intro i j x hx hj
    rw[List.flatMap_cons]
    have hl:(apC y).length=4:=rfl
    cases i with
    |zero=>
     simp at hx
     subst hx
     rw[List.getElem?_append_left (by omega)]
     simp
    |succ i=>
     rw[List.getElem?_append_right (by omega),hl,show(i+1)*4+j - 4=i*4+j by omega]
     exact ih i j x (by simpa using hx) hj
  have hc:∀j u,j<4→(apC x)[j]? =some u→w.cell? ⟨g,0+i*4+j,none⟩=some u:=by
   intro j u hj hu
   have h2:=h.cells (g:=g) rfl (i*4+j) u (by rw[key A i j x hx hj];exact hu)
   rw[Z0c] at h2
   rw[Nat.zero_add]
   exact h2
  exact⟨g,0,rfl,hg,hc 0 _ (by omega) rfl,hc 1 _ (by omega) rfl,hc 2 _ (by omega) rfl,hc 3 _ (by omega) rfl⟩
theorem Zce(w:World)(hM:Meas w)(hmo:Most w)(hd:Deb w):Calls prog 22 #[] w fun e w'=>e= .returned (.bool true)∧Ext w w':=by
 go_enter func22,ntmps22
 go_wp2_with fail
 refine(Z6U _).mono ?_
 rintro e wA ⟨B,rfl,hBe,hEA⟩
 rename_i Q K hK
 refine hK _ _ ?_
 clear hK
 go_wp2_with fail
 refine(Zar _).mono ?_
 rintro e w0 ⟨D,rfl,hDe,hEB⟩
 have hEw:=hEA.trans hEB
 have hS0:=ZdF (hEB.get hBe)
 have hC0:RawS w0 (some ⟨D,0,none⟩) exS:=Z6Y hDe rfl
 have hM0:=hM.ext hEw;have hm0:=hmo.ext hEw;have hd0:=hd.ext hEw
 have hc0:=Ext.rfl' w0
 rename_i Q K hK
 refine hK _ _ ?_
 clear hK
 go_wp2_with fail
 refine(Z59 [0,1,2] 3 1 rfl (by decide) v_m1 B _ _ (hM0.ext ((((hc0.alloc _).alloc _).alloc _))) (hS0.ext ((((hc0.alloc _).alloc _).alloc _))) (Z0V (l:=[0,1,2]) (by simp only[Z3,Z2];exact if_pos trivial) rfl)).mono ?_
 rintro e w1 ⟨rfl,hE⟩
 have hs1:Ext w0 w1:=((((Ext.rfl' w0).alloc _).alloc _).alloc _).trans hE
 have gs1:w1.heap[w0.heap.size]? =some (.cells #[.int .i64 10,.int .i64 2,.int .i64 5,.int .i64 3,.slice (some ⟨B,0,none⟩) 7 7] 26):=hE.get (by simp only[Z3,Z2];rw[if_neg (by omega),if_neg (by omega),if_pos trivial])
 have gc1:w1.heap[w0.heap.size+1]? =some (.cells #[.int .i64 2,.int .i64 4,.int .i64 1,.int .i64 2,.slice (some ⟨D,0,none⟩) 3 3] 70):=hE.get (by simp only[Z3,Z2];rw[if_neg (by omega),if_pos trivial])
 have hc1:=hc0.trans hs1
 clear hE
 have hlt1:=Z5 gc1;have hlu1:=Z5 gs1
 have q0:=Z0 gs1 0;have q1:=Z0 gs1 1;have q2:=Z0 gs1 2;have q3:=Z0 gs1 3;have q4:=Z0 gs1 4
 have r0:=Z0 gc1 0;have r1:=Z0 gc1 1;have r2:=Z0 gc1 2;have r3:=Z0 gc1 3;have r4:=Z0 gc1 4
 simp only[List.getElem?_toArray,List.getElem?_cons_zero,List.getElem?_cons_succ] at q0 r0 q1 r1 q2 r2 q3 r3 q4 r4
 rename_i Q K hK
 refine hK _ _ ?_
 clear hK
 go_wp2_with fail
 refine(Z59 [0,3] 2 0 rfl (by decide) v_m2 B _ _ (hM0.ext ((hc1.alloc _))) (hS0.ext ((hc1.alloc _))) (Z0V (l:=[0,3]) (by simp only[Z3,Z2];exact if_pos trivial) rfl)).mono ?_
 rintro e w2 ⟨rfl,hE⟩
 have hs2:Ext w1 w2:=((Ext.rfl' w1).alloc _).trans hE
 have gs2:=hs2.get gs1;have gc2:=hs2.get gc1
 have hc2:=hc1.trans hs2
 clear hE
 have hlt2:=Z5 gc2;have hlu2:=Z5 gs2
 clear hlt1 hlu1
 clear q0 r0 q1 r1 q2 r2 q3 r3 q4 r4
 have q0:=Z0 gs2 0;have q1:=Z0 gs2 1;have q2:=Z0 gs2 2;have q3:=Z0 gs2 3;have q4:=Z0 gs2 4
 have r0:=Z0 gc2 0;have r1:=Z0 gc2 1;have r2:=Z0 gc2 2;have r3:=Z0 gc2 3;have r4:=Z0 gc2 4
 simp only[List.getElem?_toArray,List.getElem?_cons_zero,List.getElem?_cons_succ] at q0 r0 q1 r1 q2 r2 q3 r3 q4 r4
 rename_i Q K hK
 refine hK _ _ ?_
 clear hK
 go_wp2_with fail
 refine(Z59 [0,6] 2 2 rfl (by decide) v_m3 B _ _ (hM0.ext ((hc2.alloc _))) (hS0.ext ((hc2.alloc _))) (Z0V (l:=[0,6]) (by simp only[Z3,Z2];exact if_pos trivial) rfl)).mono ?_
 rintro e w3 ⟨rfl,hE⟩
 have hs3:Ext w2 w3:=((Ext.rfl' w2).alloc _).trans hE
 have gs3:=hs3.get gs2;have gc3:=hs3.get gc2
 have hc3:=hc2.trans hs3
 clear hE
 have hlt3:=Z5 gc3;have hlu3:=Z5 gs3
 clear hlt2 hlu2
 clear q0 r0 q1 r1 q2 r2 q3 r3 q4 r4
 have q0:=Z0 gs3 0;have q1:=Z0 gs3 1;have q2:=Z0 gs3 2;have q3:=Z0 gs3 3;have q4:=Z0 gs3 4
 have r0:=Z0 gc3 0;have r1:=Z0 gc3 1;have r2:=Z0 gc3 2;have r3:=Z0 gc3 3;have r4:=Z0 gc3 4
 simp only[List.getElem?_toArray,List.getElem?_cons_zero,List.getElem?_cons_succ] at q0 r0 q1 r1 q2 r2 q3 r3 q4 r4
 rename_i Q K hK
 refine hK _ _ ?_
 clear hK
 go_wp2_with fail
 refine(Zc9 B _ _ (hM0.ext ((hc3.alloc _))) (hS0.ext ((hc3.alloc _))) (Z0V (l:=[0,2,3]) (by simp only[Z3,Z2];exact if_pos trivial) rfl)).mono ?_
 rintro e w4 ⟨v9,rfl,hv9,hE⟩
 have hs4:Ext w3 w4:=((Ext.rfl' w3).alloc _).trans hE
 have gs4:=hs4.get gs3;have gc4:=hs4.get gc3
 have hc4:=hc3.trans hs4
 obtain⟨a9,c9,rfl,hr9⟩:=hv9.rawAp
 rw[v_ap.2.2]
 clear hE
 have hlt4:=Z5 gc4;have hlu4:=Z5 gs4
 clear hlt3 hlu3
 clear q0 r0 q1 r1 q2 r2 q3 r3 q4 r4
 have q0:=Z0 gs4 0;have q1:=Z0 gs4 1;have q2:=Z0 gs4 2;have q3:=Z0 gs4 3;have q4:=Z0 gs4 4
 have r0:=Z0 gc4 0;have r1:=Z0 gc4 1;have r2:=Z0 gc4 2;have r3:=Z0 gc4 3;have r4:=Z0 gc4 4
 simp only[List.getElem?_toArray,List.getElem?_cons_zero,List.getElem?_cons_succ] at q0 r0 q1 r1 q2 r2 q3 r3 q4 r4
 rename_i Q K hK
 refine hK _ _ ?_
 clear hK
 go_wp2_with fail
 refine(ZdC B _ (hM0.ext hc4) (hS0.ext hc4)).mono ?_
 rintro e w5 ⟨v11,v12,rfl,hv11,hv12,hE⟩
 have hs5:Ext w4 w5:=hE
 have gs5:=hs5.get gs4;have gc5:=hs5.get gc4
 have hc5:=hc4.trans hs5
 obtain⟨a11,c11,rfl,hr11⟩:=hv11.rawL (by decide)
 obtain⟨a12,c12,rfl,hr12,hx12⟩:=hv12.rawI
 clear hx12
 clear hE
 have hlt5:=Z5 gc5;have hlu5:=Z5 gs5
 clear hlt4 hlu4
 clear q0 r0 q1 r1 q2 r2 q3 r3 q4 r4
 have q0:=Z0 gs5 0;have q1:=Z0 gs5 1;have q2:=Z0 gs5 2;have q3:=Z0 gs5 3;have q4:=Z0 gs5 4
 have r0:=Z0 gc5 0;have r1:=Z0 gc5 1;have r2:=Z0 gc5 2;have r3:=Z0 gc5 3;have r4:=Z0 gc5 4
 simp only[List.getElem?_toArray,List.getElem?_cons_zero,List.getElem?_cons_succ] at q0 r0 q1 r1 q2 r2 q3 r3 q4 r4
 rename_i Q K hK
 refine hK _ _ ?_
 clear hK
 go_wp2_with fail
 refine(Z8I B _ (hM0.ext hc5) (hS0.ext hc5)).mono ?_
 rintro e w6 ⟨rfl,hE⟩
 have hs6:Ext w5 w6:=hE
 have gs6:=hs6.get gs5;have gc6:=hs6.get gc5
 have hc6:=hc5.trans hs6
 clear hE
 have hlt6:=Z5 gc6;have hlu6:=Z5 gs6
 clear hlt5 hlu5
 clear q0 r0 q1 r1 q2 r2 q3 r3 q4 r4
 have q0:=Z0 gs6 0;have q1:=Z0 gs6 1;have q2:=Z0 gs6 2;have q3:=Z0 gs6 3;have q4:=Z0 gs6 4
 have r0:=Z0 gc6 0;have r1:=Z0 gc6 1;have r2:=Z0 gc6 2;have r3:=Z0 gc6 3;have r4:=Z0 gc6 4
 simp only[List.getElem?_toArray,List.getElem?_cons_zero,List.getElem?_cons_succ] at q0 r0 q1 r1 q2 r2 q3 r3 q4 r4
 rename_i Q K hK
 refine hK _ _ ?_
 clear hK
 go_wp2_with fail
 refine(ZdD D _ (hC0.ext hc6)).mono ?_
 rintro e w7 ⟨rfl,hE⟩
 have hs7:Ext w6 w7:=hE
 have gs7:=hs7.get gs6;have gc7:=hs7.get gc6
 have hc7:=hc6.trans hs7
 clear hE
 have hlt7:=Z5 gc7;have hlu7:=Z5 gs7
 clear hlt6 hlu6
 clear q0 r0 q1 r1 q2 r2 q3 r3 q4 r4
 have q0:=Z0 gs7 0;have q1:=Z0 gs7 1;have q2:=Z0 gs7 2;have q3:=Z0 gs7 3;have q4:=Z0 gs7 4
 have r0:=Z0 gc7 0;have r1:=Z0 gc7 1;have r2:=Z0 gc7 2;have r3:=Z0 gc7 3;have r4:=Z0 gc7 4
 simp only[List.getElem?_toArray,List.getElem?_cons_zero,List.getElem?_cons_succ] at q0 r0 q1 r1 q2 r2 q3 r3 q4 r4
 rename_i Q K hK
 refine hK _ _ ?_
 clear hK
 go_wp2_with fail
 refine(ZaK 30 93 100 rfl v_mk1 D _ (hC0.ext ((hc7.alloc _))) (hm0.ext ((hc7.alloc _)))).mono ?_
 rintro e w8 ⟨rfl,hE⟩
 have hs8:Ext w7 w8:=((Ext.rfl' w7).alloc _).trans hE
 have gs8:=hs8.get gs7;have gc8:=hs8.get gc7
 have hc8:=hc7.trans hs8
 have gp8:w8.heap[w7.heap.size]? =some (.cells #[.int .i64 93,.int .i64 102] 48):=hE.get (by simp only[Z3,Z2];exact if_pos trivial)
 clear hE
 have hlt8:=Z5 gc8;have hlu8:=Z5 gs8
 clear hlt7 hlu7
 clear q0 r0 q1 r1 q2 r2 q3 r3 q4 r4
 have q0:=Z0 gs8 0;have q1:=Z0 gs8 1;have q2:=Z0 gs8 2;have q3:=Z0 gs8 3;have q4:=Z0 gs8 4
 have r0:=Z0 gc8 0;have r1:=Z0 gc8 1;have r2:=Z0 gc8 2;have r3:=Z0 gc8 3;have r4:=Z0 gc8 4
 simp only[List.getElem?_toArray,List.getElem?_cons_zero,List.getElem?_cons_succ] at q0 r0 q1 r1 q2 r2 q3 r3 q4 r4
 rename_i Q K hK
 refine hK _ _ ?_
 clear hK
 go_wp2_with fail
 refine(ZaK 25 73 80 rfl v_mk2 D _ (hC0.ext ((hc8.alloc _))) (hm0.ext ((hc8.alloc _)))).mono ?_
 rintro e w9 ⟨rfl,hE⟩
 have hs9:Ext w8 w9:=((Ext.rfl' w8).alloc _).trans hE
 have gs9:=hs9.get gs8;have gc9:=hs9.get gc8
 have hc9:=hc8.trans hs9
 have gp9:w9.heap[w8.heap.size]? =some (.cells #[.int .i64 93,.int .i64 100] 48):=hE.get (by simp only[Z3,Z2];exact if_pos trivial)
 clear hE
 have hlt9:=Z5 gc9;have hlu9:=Z5 gs9
 clear hlt8 hlu8
 clear q0 r0 q1 r1 q2 r2 q3 r3 q4 r4
 have q0:=Z0 gs9 0;have q1:=Z0 gs9 1;have q2:=Z0 gs9 2;have q3:=Z0 gs9 3;have q4:=Z0 gs9 4
 have r0:=Z0 gc9 0;have r1:=Z0 gc9 1;have r2:=Z0 gc9 2;have r3:=Z0 gc9 3;have r4:=Z0 gc9 4
 simp only[List.getElem?_toArray,List.getElem?_cons_zero,List.getElem?_cons_succ] at q0 r0 q1 r1 q2 r2 q3 r3 q4 r4
 rename_i Q K hK
 refine hK _ _ ?_
 clear hK
 go_wp2_with fail
 refine(ZaL 4 1 rfl v_h1 D _ (hC0.ext ((hc9.alloc _))) (hm0.ext ((hc9.alloc _)))).mono ?_
 rintro e w10 ⟨rfl,hE⟩
 have hs10:Ext w9 w10:=((Ext.rfl' w9).alloc _).trans hE
 have gs10:=hs10.get gs9;have gc10:=hs10.get gc9
 have hc10:=hc9.trans hs10
 have gp10:w10.heap[w9.heap.size]? =some (.cells #[.int .i64 73,.int .i64 80] 48):=hE.get (by simp only[Z3,Z2];exact if_pos trivial)
 clear hE
 have hlt10:=Z5 gc10;have hlu10:=Z5 gs10
 clear hlt9 hlu9
 clear q0 r0 q1 r1 q2 r2 q3 r3 q4 r4
 have q0:=Z0 gs10 0;have q1:=Z0 gs10 1;have q2:=Z0 gs10 2;have q3:=Z0 gs10 3;have q4:=Z0 gs10 4
 have r0:=Z0 gc10 0;have r1:=Z0 gc10 1;have r2:=Z0 gc10 2;have r3:=Z0 gc10 3;have r4:=Z0 gc10 4
 simp only[List.getElem?_toArray,List.getElem?_cons_zero,List.getElem?_cons_succ] at q0 r0 q1 r1 q2 r2 q3 r3 q4 r4
 rename_i Q K hK
 refine hK _ _ ?_
 clear hK
 go_wp2_with fail
 refine(ZaL 3 0 rfl v_h2 D _ (hC0.ext hc10) (hm0.ext hc10)).mono ?_
 rintro e w11 ⟨rfl,hE⟩
 have hs11:Ext w10 w11:=hE
 have gs11:=hs11.get gs10;have gc11:=hs11.get gc10
 have hc11:=hc10.trans hs11
 clear hE
 have hlt11:=Z5 gc11;have hlu11:=Z5 gs11
 clear hlt10 hlu10
 clear q0 r0 q1 r1 q2 r2 q3 r3 q4 r4
 have q0:=Z0 gs11 0;have q1:=Z0 gs11 1;have q2:=Z0 gs11 2;have q3:=Z0 gs11 3;have q4:=Z0 gs11 4
 have r0:=Z0 gc11 0;have r1:=Z0 gc11 1;have r2:=Z0 gc11 2;have r3:=Z0 gc11 3;have r4:=Z0 gc11 4
 simp only[List.getElem?_toArray,List.getElem?_cons_zero,List.getElem?_cons_succ] at q0 r0 q1 r1 q2 r2 q3 r3 q4 r4
 rename_i Q K hK
 refine hK _ _ ?_
 clear hK
 go_wp2_with fail
 refine(ZdE D _ (hC0.ext hc11) (hm0.ext hc11)).mono ?_
 rintro e w12 ⟨rfl,hE⟩
 have hs12:Ext w11 w12:=hE
 have gs12:=hs12.get gs11;have gc12:=hs12.get gc11
 have hc12:=hc11.trans hs12
 clear hE
 have hlt12:=Z5 gc12;have hlu12:=Z5 gs12
 clear hlt11 hlu11
 clear q0 r0 q1 r1 q2 r2 q3 r3 q4 r4
 have q0:=Z0 gs12 0;have q1:=Z0 gs12 1;have q2:=Z0 gs12 2;have q3:=Z0 gs12 3;have q4:=Z0 gs12 4
 have r0:=Z0 gc12 0;have r1:=Z0 gc12 1;have r2:=Z0 gc12 2;have r3:=Z0 gc12 3;have r4:=Z0 gc12 4
 simp only[List.getElem?_toArray,List.getElem?_cons_zero,List.getElem?_cons_succ] at q0 r0 q1 r1 q2 r2 q3 r3 q4 r4
 rename_i Q K hK
 refine hK _ _ ?_
 clear hK
 go_wp2_with fail
 refine(ZaM D _ (hC0.ext hc12) (hm0.ext hc12)).mono ?_
 rintro e w13 ⟨rfl,hE⟩
 have hs13:Ext w12 w13:=hE
 have gs13:=hs13.get gs12;have gc13:=hs13.get gc12
 have hc13:=hc12.trans hs13
 clear hE
 have hlt13:=Z5 gc13;have hlu13:=Z5 gs13
 clear hlt12 hlu12
 clear q0 r0 q1 r1 q2 r2 q3 r3 q4 r4
 have q0:=Z0 gs13 0;have q1:=Z0 gs13 1;have q2:=Z0 gs13 2;have q3:=Z0 gs13 3;have q4:=Z0 gs13 4
 have r0:=Z0 gc13 0;have r1:=Z0 gc13 1;have r2:=Z0 gc13 2;have r3:=Z0 gc13 3;have r4:=Z0 gc13 4
 simp only[List.getElem?_toArray,List.getElem?_cons_zero,List.getElem?_cons_succ] at q0 r0 q1 r1 q2 r2 q3 r3 q4 r4
 rename_i Q K hK
 refine hK _ _ ?_
 clear hK
 have hsz13:=hc13.size
 have hDW:∀W,Ext w13 W→∀(j:Nat) u,(exS.flatMap rsC)[j]? =some u→W.cell? ((⟨D,0,none⟩:Addr).add j)=some u:=by
  intro W hW j u hu
  rw[Z0c,Z0 (hW.get (hc13.get hDe)),←Array.getElem?_toList]
  exact hu
 go_wp2_with (
  at_builtin
  go_loud (refine wpList_append_own _ rfl _ _ _ rfl (w13.heap.size+1+1) 80 Tryz.t80 (.agg #[.int .i64 0,.int .i64 0,.int .i64 0,.int .i64 0,.int .i64 0]) 5 40 u68 i80 t80z t80s t80b rfl (by omega) (.slice (some ⟨w13.heap.size+1+1,0,none⟩) 0 0) 0 [] rfl (Zcd (by simp only[Z3,Z2];exact if_pos trivial) (Nat.le_refl _)) ⟨D,0,none⟩ 3 3 (exS.flatMap rsC) rfl rfl (hDW _ ((((Ext.rfl' w13).alloc _).alloc _).alloc _)) (by decide) (by simp[maxLen]) (by omega) (by simp only[Z2];omega) ?_)
  intro v' w14 hown14 hgrow14 _
  obtain⟨g14,cp14,rfl,hg14,hg14'⟩:=World.ownsRow.form hown14 (by omega)
  have hE14:Ext w13 w14:=Ext.grown ((((Ext.rfl' w13).alloc _).alloc _).alloc _) hgrow14 (fun k hk=>by simp[Value.ownBlock] at hk<;>omega)
  have gp14:w14.heap[w13.heap.size]? =some (.cells #[.int .i64 38,.int .i64 48] 48):=Z0m hgrow14 (fun e=>by simp[Value.ownBlock] at e<;>omega) (by simp only[Z3,Z2];rw[if_neg (by omega),if_neg (by omega),if_pos trivial])
  have gk14:w14.heap[w13.heap.size+1]? =some (.cells #[.int .i64 2,.int .i64 4,.int .i64 1,.int .i64 2,.slice (some ⟨D,0,none⟩) 3 3] 70):=Z0m hgrow14 (fun e=>by simp[Value.ownBlock] at e<;>omega) (by simp only[Z3,Z2];rw[if_neg (by omega),if_pos trivial])
  clear hgrow14)
 refine(Z3P _ _ _).mono ?_
 rintro e w15 ⟨rfl,hs15⟩
 have hE15:=hE14.trans hs15
 have gp15:=hs15.get gp14;have gk15:=hs15.get gk14
 have hown15:=Z00 hown14 hs15
 rename_i Q K hK
 refine hK _ _ ?_
 clear hK
 go_wp2_with (
  at_builtin
  go_loud (refine wpList_append_own _ rfl _ _ _ rfl (w13.heap.size+1+1) 80 Tryz.t80 (.agg #[.int .i64 0,.int .i64 0,.int .i64 0,.int .i64 0,.int .i64 0]) 5 40 u68 i80 t80z t80s t80b rfl (by omega) (.slice (some ⟨g14,0,none⟩) 3 cp14) 3 (exS.flatMap rsC) rfl (hown15.alloc _) ⟨w15.heap.size,0,none⟩ 1 1 (rsC ⟨20,70,70,0,0⟩) rfl rfl ?_ (by decide) (by simp[maxLen]) (by omega) (by simp only[Z2];have:=hs15.size;omega) ?_)
  ·intro j u hu
   rw[Z0c,Z0 (by rw[Z3,if_pos rfl]),←Array.getElem?_toList]
   exact hu
  intro v' w16 hown16 hgrow16 _
  obtain⟨g16,c16,cur,rfl,hg16,hh16,ht16⟩:∃g c cur,v'= .slice (some ⟨g,0,none⟩) (3+1) c∧w13.heap.size+1+1≤g∧w16.heap[g]? =some (.cells cur 80)∧cur.toList.take ((3+1)*5)=exS.flatMap rsC++rsC ⟨20,70,70,0,0⟩:=by
   obtain⟨_,⟨_,h⟩|⟨g,c,cur,h1,h2,h3,_,_,_,h4⟩⟩:=hown16
   ·omega
   ·exact⟨g,c,cur,h1,h2,h3,h4⟩
  have hE16:Ext w13 w16:=Ext.grown (hE15.alloc _) hgrow16 (fun k hk=>by simp[Value.ownBlock] at hk<;>omega)
  have gp16:w16.heap[w13.heap.size]? =some (.cells #[.int .i64 38,.int .i64 48] 48):=Z0m hgrow16 (fun e=>by simp[Value.ownBlock] at e<;>omega) (((Ext.rfl' w15).alloc _).get gp15)
  have gk16:w16.heap[w13.heap.size+1]? =some (.cells #[.int .i64 2,.int .i64 4,.int .i64 1,.int .i64 2,.slice (some ⟨D,0,none⟩) 3 3] 70):=Z0m hgrow16 (fun e=>by simp[Value.ownBlock] at e<;>omega) (((Ext.rfl' w15).alloc _).get gk15)
  clear hgrow16
  have y0:=Z0 gk16 0;have y1:=Z0 gk16 1;have y2:=Z0 gk16 2;have y3:=Z0 gk16 3;have y4:=Z0 gk16 4
  have z4:=Z8 gk16 4
  have hlt16:=Z5 gk16
  simp only[List.getElem?_toArray,List.getElem?_cons_zero,List.getElem?_cons_succ] at y0 y1 y2 y3 y4)
 have hEs:=hE16.setCell ⟨w13.heap.size+1,4,none⟩ (.slice (some ⟨g16,0,none⟩) 4 c16) (by simp only;omega)
 have hgs:(w16.setCell ⟨w13.heap.size+1,4,none⟩ (.slice (some ⟨g16,0,none⟩) 4 c16)).heap[g16]? =some (.cells cur 80):=(set_ne (by simp only;omega) _).trans hh16
 have gks:=Zb gk16 (i:=4) (.slice (some ⟨g16,0,none⟩) 4 c16)
 have gps:(w16.setCell ⟨w13.heap.size+1,4,none⟩ (.slice (some ⟨g16,0,none⟩) 4 c16)).heap[w13.heap.size]? =some (.cells #[.int .i64 38,.int .i64 48] 48):=(set_ne (by simp only;omega) _).trans gp16
 replace gks:(w16.setCell ⟨w13.heap.size+1,4,none⟩ (.slice (some ⟨g16,0,none⟩) 4 c16)).heap[w13.heap.size+1]? =some (.cells #[.int .i64 2,.int .i64 4,.int .i64 1,.int .i64 2,.slice (some ⟨g16,0,none⟩) 4 c16] 70):=gks
 generalize (w16.setCell ⟨w13.heap.size+1,4,none⟩ (.slice (some ⟨g16,0,none⟩) 4 c16))=ws at hEs hgs gks gps⊢
 have hcs:=hc13.trans hEs
 refine(Zca g16 c16 ws (Z6Y (L:=exS4) hgs (ht16.trans (by rfl))) (hm0.ext hcs) (hd0.ext hcs)).mono ?_
 rintro e w17 ⟨v33,rfl,hv33,hs17⟩
 obtain⟨a33,c33,rfl,hr33,hx33⟩:=hv33.rawI
 have gk17:=hs17.get gks
 have gp17:=hs17.get gps
 have hg17:=hs17.get hgs
 have hc17:=hcs.trans hs17
 clear hx33 y0 y1 y2 y3 y4 z4
 have y0:=Z0 gk17 0;have y1:=Z0 gk17 1;have y2:=Z0 gk17 2;have y3:=Z0 gk17 3;have y4:=Z0 gk17 4
 simp only[List.getElem?_toArray,List.getElem?_cons_zero,List.getElem?_cons_succ] at y0 y1 y2 y3 y4
 rename_i Q K hK
 refine hK _ _ ?_
 clear hK
 go_wp2_with fail
 refine(Zcb g16 c16 w17 (Z6Y (L:=exS4) hg17 (ht16.trans (by rfl))) (hm0.ext hc17) (hd0.ext hc17)).mono ?_
 rintro e w18 ⟨v35,rfl,hv35,hs18⟩
 obtain⟨a35,c35,rfl,hr35,hx35⟩:=hv35.rawI
 have hr33z:=hr33.ext hs18
 have hE18:=hEs.trans (hs17.trans hs18)
 have hE12:=hs13.trans hE18;have hE11:=hs12.trans hE12;have hE10:=hs11.trans hE11;have hE9:=hs10.trans hE10;have hE8:=hs9.trans hE9;have hE7:=hs8.trans hE8;have hE6:=hs7.trans hE7;have hE5:=hs6.trans hE6;have hE4:=hs5.trans hE5
 have hr9z:=hr9.ext hE4;have hr11z:=hr11.ext hE5;have hr12z:=hr12.ext hE5
 have gp8z:=hE8.get gp8;have gp9z:=hE9.get gp9;have gp10z:=hE10.get gp10;have gp18z:=hs18.get gp17
 have hcz:=hc17.trans hs18
 clear hx35 y0 y1 y2 y3 y4 q0 q1 q2 q3 q4 r0 r1 r2 r3 r4 hE4 hE5 hE6 hE7 hE8 hE9 hE10 hE11 hE12 hs1 hs2 hs3 hs4 hs5 hs6 hs7 hs8 hs9 hs10 hs11 hs12 hs13 hc1 hc2 hc3 hc4 hc5 hc6 hc7 hc8 hc9 hc10 hc11 hc12
 rename_i Q K hK
 refine hK _ _ ?_
 clear hK
 go_wp2_with fail
 refine(Z25 a9 3 c9 (Z0Q 10 2 5 3 exL [0,2,3]) _ 3 3 exA _ v_ap.2.2 rfl (by decide) (hr9z.ext ((Ext.rfl' w18).alloc _)) (ZaN (by simp only[Z3,Z2];exact if_pos trivial) rfl)).mono ?_
 rintro e w19 ⟨rfl,hE⟩
 have hs19:=((Ext.rfl' w18).alloc _).trans hE
 rw[v_ap.1]
 clear hE
 rename_i Q K hK
 refine hK _ _ ?_
 clear hK
 go_wp2_with fail
 refine(Z55 a11 2 c11 [[0,1,2],[3,4,5]] _ 2 2 [[0,1,2],[3,4,5]] _ rfl rfl (by decide) (hr11z.ext (((hs19.alloc _).alloc _).alloc _)) (Zcc (b:=w19.heap.size) (by simp only[Z3,Z2];rw[if_neg (by omega),if_neg (by omega),if_pos trivial]) (by simp only[Z3,Z2];rw[if_neg (by omega),if_pos trivial]) (by simp only[Z3,Z2];exact if_pos trivial))).mono ?_
 rintro e w20 ⟨rfl,hE⟩
 have hs20:=hs19.trans (((((Ext.rfl' w19).alloc _).alloc _).alloc _).trans hE)
 rw[show decide (([[0,1,2],[3,4,5]]:List (List Int))=[[0,1,2],[3,4,5]])=true from by decide]
 clear hE
 rename_i Q K hK
 refine hK _ _ ?_
 clear hK
 go_wp2_with fail
 refine(Z1d a12 1 c12 [6] _ 1 1 [6] _ rfl rfl (by decide) (hr12z.ext (hs20.alloc _)) (Z0V (by simp only[Z3,Z2];exact if_pos trivial) rfl)).mono ?_
 rintro e w21 ⟨rfl,hE⟩
 have hs21:=hs20.trans (((Ext.rfl' w20).alloc _).trans hE)
 rw[show decide (([6]:List Int)=[6])=true from by decide]
 clear hE
 rename_i Q K hK
 refine hK _ _ ?_
 clear hK
 go_wp2_with fail
 obtain⟨w1,hw1⟩:∃w1:World,w1=w21:=⟨_,rfl⟩
 have gp8w:=hs21.get gp8z;have gp9w:=hs21.get gp9z;have gp10w:=hs21.get gp10z;have gp18w:=hs21.get gp18z
 have hr33w:=hr33z.ext hs21;have hr35w:=hr35.ext hs21
 have hcw:=hcz.trans hs21
 rw[←hw1] at gp8w gp9w gp10w gp18w hr33w hr35w hcw⊢
 clear hw1
 have z8:=Zc gp8w;have gz8:=Zet z8.1;have gy8:=Zet z8.2.1;clear z8
 have z9:=Zc gp9w;have gz9:=Zet z9.1;have gy9:=Zet z9.2.1;clear z9
 have z10:=Zc gp10w;have gz10:=Zet z10.1;have gy10:=Zet z10.2.1;clear z10
 have z18:=Zc gp18w;have gz18:=Zet z18.1;have gy18:=Zet z18.2.1;clear z18
 refine ZeG 49 (by kernel_rfl) ?_
 refine ZeB [0] (by kernel_rfl) (by kernel_rfl) ?_
 simp only[ZeD,List.getElem?_cons_succ,List.getElem?_cons_zero,List.cons_append,List.nil_append]
 repeat (go_big_quiet_step (fail))
 refine wpQuiet_nil ?_
 refine ZeX 1 (f:=34) (args:= #[.int .i64 93,.int .i64 102]) (v:= .agg #[.int .i64 93,.int .i64 102]) (by kernel_rfl) rfl (by kernel_rfl) rfl (fun W=>by simp[go_sem,execOp,Act.eval]) (fun W _=>Z3P 93 102 W) ?_
 go_simp
 refine ZeB [2,3,4] (by kernel_rfl) (by kernel_rfl) ?_
 simp only[ZeD,List.getElem?_cons_succ,List.getElem?_cons_zero,List.cons_append,List.nil_append]
 repeat (go_big_quiet_step (fail))
 refine wpQuiet_nil ?_
 refine ZeX 5 (f:=34) (args:= #[.int .i64 93,.int .i64 100]) (v:= .agg #[.int .i64 93,.int .i64 100]) (by kernel_rfl) rfl (by kernel_rfl) rfl (fun W=>by simp[go_sem,execOp,Act.eval]) (fun W _=>Z3P 93 100 W) ?_
 go_simp
 refine ZeB [6,7,8,9] (by kernel_rfl) (by kernel_rfl) ?_
 simp only[ZeD,List.getElem?_cons_succ,List.getElem?_cons_zero,List.cons_append,List.nil_append]
 repeat (go_big_quiet_step (fail))
 refine wpQuiet_nil ?_
 refine ZeX 10 (f:=34) (args:= #[.int .i64 73,.int .i64 80]) (v:= .agg #[.int .i64 73,.int .i64 80]) (by kernel_rfl) rfl (by kernel_rfl) rfl (fun W=>by simp[go_sem,execOp,Act.eval]) (fun W _=>Z3P 73 80 W) ?_
 go_simp
 refine ZeB [11,12,13,14,15,16,17,18,19,20,21,22,23,24,25,26,27,28,29,30,31,32,33,34] (by kernel_rfl) (by kernel_rfl) ?_
 simp only[ZeD,List.getElem?_cons_succ,List.getElem?_cons_zero,List.cons_append,List.nil_append]
 repeat (go_big_quiet_step (fail))
 refine wpQuiet_nil ?_
 refine ZeX 35 (f:=34) (args:= #[.int .i64 38,.int .i64 48]) (v:= .agg #[.int .i64 38,.int .i64 48]) (by kernel_rfl) rfl (by kernel_rfl) rfl (fun W=>by simp[go_sem,execOp,Act.eval]) (fun W _=>Z3P 38 48 W) ?_
 go_simp
 refine ZeB [36,37,38,39] (by kernel_rfl) (by kernel_rfl) ?_
 simp only[ZeD,List.getElem?_cons_succ,List.getElem?_cons_zero,List.cons_append,List.nil_append]
 repeat (go_big_quiet_step (fail))
 refine wpQuiet_nil ?_
 refine Zfa 40 rfl (by kernel_rfl) rfl (fun W hW=>Zf3 ⟨.slice (some ⟨W.heap.size,0,none⟩) 2 2,W.alloc (.cells #[.int .i64 1,.int .i64 3] 3),by simp[go_sem,execOp,Act.eval],(Ext.rfl' W).alloc _,?_⟩)
 have m9:RawI (W.alloc (.cells #[.int .i64 1,.int .i64 3] 3)) (some ⟨W.heap.size,0,none⟩) [1,3]:=Z0V ((Z3 _ _ _).trans (if_pos rfl)) rfl
 have e9:=hW.alloc (.cells #[.int .i64 1,.int .i64 3] 3)
 obtain⟨b9,hb9⟩:∃b,b=W.heap.size:=⟨_,rfl⟩
 rw[←hb9] at m9;rw[←hb9]
 generalize W.alloc _=W9 at m9 e9⊢
 clear hb9 hW
 clear W
 go_simp
 refine ZeX 41 (f:=58) (args:= #[.slice a33 2 c33,.slice (some ⟨b9,0,none⟩) 2 2]) (v:= .bool true) (by kernel_rfl) rfl (by kernel_rfl) rfl (fun W=>by simp[go_sem,execOp,Act.eval]) (fun W hW=>by
  have:=Z1d a33 2 c33 [1,3] (some ⟨b9,0,none⟩) 2 2 [1,3] W rfl rfl (by decide) (hr33w.ext (e9.trans hW)) (m9.ext hW)
  rwa [decide_eq_true rfl] at this) ?_
 go_simp
 refine ZeB [42,43,44] (by kernel_rfl) (by kernel_rfl) ?_
 simp only[ZeD,List.getElem?_cons_succ,List.getElem?_cons_zero,List.cons_append,List.nil_append]
 repeat (go_big_quiet_step (fail))
 refine wpQuiet_nil ?_
 refine Zfa 45 rfl (by kernel_rfl) rfl (fun W hW=>Zf3 ⟨.slice (some ⟨W.heap.size,0,none⟩) 3 3,W.alloc (.cells #[.int .i64 0,.int .i64 1,.int .i64 2] 3),by simp[go_sem,execOp,Act.eval],(Ext.rfl' W).alloc _,?_⟩)
 clear m9
 have m9:RawI (W.alloc (.cells #[.int .i64 0,.int .i64 1,.int .i64 2] 3)) (some ⟨W.heap.size,0,none⟩) [0,1,2]:=Z0V ((Z3 _ _ _).trans (if_pos rfl)) rfl
 have e9:=(e9.trans hW).alloc (.cells #[.int .i64 0,.int .i64 1,.int .i64 2] 3)
 obtain⟨b9,hb9⟩:∃b,b=W.heap.size:=⟨_,rfl⟩
 rw[←hb9] at m9;rw[←hb9]
 generalize W.alloc _=W9 at m9 e9⊢
 clear hb9 hW
 clear W
 go_simp
 refine ZeX 46 (f:=58) (args:= #[.slice a35 3 c35,.slice (some ⟨b9,0,none⟩) 3 3]) (v:= .bool true) (by kernel_rfl) rfl (by kernel_rfl) rfl (fun W=>by simp[go_sem,execOp,Act.eval]) (fun W hW=>by
  have:=Z1d a35 3 c35 [0,1,2] (some ⟨b9,0,none⟩) 3 3 [0,1,2] W rfl rfl (by decide) (hr35w.ext (e9.trans hW)) (m9.ext hW)
  rwa [decide_eq_true rfl] at this) ?_
 go_simp
 refine ZeB [47,48] (by kernel_rfl) (by kernel_rfl) ?_
 simp only[ZeD,List.getElem?_cons_succ,List.getElem?_cons_zero,List.cons_append,List.nil_append]
 repeat (go_big_quiet_step (fail))
 refine wpQuiet_nil ?_
 refine Zf6 (by kernel_rfl) (fun W hW=> ?_)
 have hEf:=hEw.trans (hcw.trans (e9.trans hW))
 go_wp2
 go_ret
 exact⟨rfl,hEf⟩
end Go.Proofs.Tryq
namespace Go.Proofs.Tryq
open Go Go.Nk Go.RowKit
set_option linter.all false
theorem Zhv{X:Nat→Prop}{w w':World}{ow:Option Nat}(h:w.grownBy w' ow)(hX:∀k,ow=some k→X k):ExtX X w w':=
 ⟨h.size,fun b hb hn=>h.block b hb (fun e=>hn (hX b e.symm)),h.tape,h.os,h.output⟩
end Go.Proofs.Tryq
namespace Go.Proofs.Tryq
set_option maxRecDepth 100000
set_option maxHeartbeats 8000000
open Go Go.Nk Go.RowKit
set_option linter.all false
theorem ZhB(x:Int)(t:List Int):(chooseR (x::t)).tail=(chooseR t).map (x::·)++(chooseR t).tail:=rfl
theorem chooseR_len:∀l:List Int,(chooseR l).length=2 ^ l.length
 |[]=>rfl
 |x::t=>by
  have ih:=chooseR_len t
  have h1:(chooseR t).length=(chooseR t).tail.length+1:=by
   have:=congrArg List.length (chooseR_head t)
   simpa using this
  show([]::((chooseR t).map (x::·)++(chooseR t).tail)).length=_
  rw[List.length_cons,List.length_append,List.length_map,List.length_cons,Nat.pow_succ]
  omega
theorem chooseR_each:∀(l s:List Int),s∈chooseR l→s.length≤l.length
 |[],s,h=>by cases List.mem_singleton.1 h;simp
 |x::t,s,h=>by
  rcases List.mem_cons.1 (show s∈[]::((chooseR t).map (x::·)++(chooseR t).tail) from h) with rfl|h
  ·simp
  ·rcases List.mem_append.1 h with h|h
   ·obtain⟨c,hc,rfl⟩:=List.mem_map.1 h
    have:=chooseR_each t c hc
    simp;omega
   ·have:=chooseR_each t s (List.mem_of_mem_tail h)
    simp;omega
theorem Zhw(w:World)(v:Value)(t:TypeId):(w.alloc (.cells #[v] t)).cell? ⟨w.heap.size,0,none⟩=some v∧True:=by
 have h:(w.alloc (.cells #[v] t)).heap[w.heap.size]? =some (.cells #[v] t):=by rw[Z3,if_pos rfl]
 exact⟨Z0 h 0,trivial⟩
theorem RawI.drop{w:World}{b o:Nat}{l:List Int}(h:RawI w (some ⟨b,o,none⟩) l)(i:Nat):RawI w (some ⟨b,o+i,none⟩) (l.drop i):=by
 intro j x hx
 rw[List.getElem?_drop] at hx
 obtain⟨b',o',e,h1,h2⟩:=h (i+j) x hx
 obtain⟨rfl,rfl⟩:b=b'∧o=o':=by simpa using e
 exact⟨b,o+i,rfl,h1,by rw[Nat.add_assoc];exact h2⟩
theorem Zhs(k:Nat):∀(l:List Int)(bl:Option Addr)(cl:Nat)(W:World),l.length=k→k≤9→k≤cl→RawI W bl l→
 Calls prog 127 #[.slice bl k cl] W fun e w'=>∃v,e= .returned v∧Shr W.heap.size w' v (chooseR l)∧Ext W w':=by
 induction k using Nat.strongRecOn with
 |_ k ih=>
 intro l bl cl W hk hk9 hcl hl
 have hlen:Hid ((chooseR l).length≤512):=by
  show _≤_
  rw[chooseR_len,hk]
  exact Nat.pow_le_pow_right (n:=2) (by omega) hk9
 replace hk:Hid (l.length=k):=hk
 have hl2:Hid (RawI W bl l):=hl
 have ih2:Hid (∀m<k,∀(l:List Int)(bl:Option Addr)(cl:Nat)(W:World),l.length=m→m≤9→m≤cl→RawI W bl l→Calls prog 127 #[.slice bl m cl] W fun e w'=>∃v,e= .returned v∧Shr W.heap.size w' v (chooseR l)∧Ext W w'):=ih
 clear ih hl
 obtain⟨N,hN⟩:∃N,N=W.heap.size:=⟨_,rfl⟩
 rw[←hN]
 have hS0:Shr N (W.alloc (.cells #[.slice none 0 0] 27)) (.slice (some ⟨W.heap.size,0,none⟩) 1 1) [[]]:=
  ⟨(fun h=>nomatch h),[Value.slice none 0 0],Z6s W N 27 #[.slice none 0 0] 1 W.heap.size rfl (by omega) rfl (by decide),World.ownsRow_nil _ _ _ _,trivial⟩
 have hE0:=(Ext.rfl' W).alloc (.cells #[.slice none 0 0] 27)
 have H0:Hid (chooseR l=[[]]++(chooseR (l.drop 0)).tail):=chooseR_head l
 go_enter func127,ntmps127
 go_wp2
 generalize W.alloc _=W0 at hS0 hE0⊢
 go_loopw [3,4] (fun v3 v4 wr=>∃(i:Nat)(S:List (List Int)),i≤k∧v4= .int .i64 i∧Ext W wr∧Shr N wr v3 S∧Hid (chooseR l=S++(chooseR (l.drop i)).tail)) (fun _ v4 _=>k - (intOf v4).toNat)
 case atStart=>exact⟨0,[[]],Nat.zero_le _,rfl,hE0,hS0,H0⟩
 case round=>
  clear hS0 hE0 H0
  obtain⟨i,S,hi,rfl,hE,hS,HP⟩:=hrel
  by_cases hik:i=k
  ·have HR:Hid (chooseR l=S):=by show _=_;rw[HP.out,hik,←hk.out,List.drop_length];simp[chooseR]
   subst hik
   clear HP
   go_wp2
   go_ret
   exact⟨_,rfl,by rw[HR.out];exact hS,hE⟩
  ·have hlt:i<k:=by omega
   have hlt2:(i:Int)<(k:Int):=by omega
   have hs1:(0:Int)≤(i:Int)+1:=by omega
   have hs2:(i:Int)+1≤(k:Int):=by omega
   have hs3:(k:Int)≤(cl:Int):=by omega
   obtain⟨x,hx⟩:∃y,l[i]? =some y:=⟨_,List.getElem?_eq_getElem (by have:=hk.out;omega)⟩
   obtain⟨b,o,rfl,hb1,hcx⟩:=hl2.out i x hx
   have HS:Hid (chooseR l=S++((chooseR (l.drop (i+1))).map (x::·)++(chooseR (l.drop (i+1))).tail)):=by
    show _=_
    rw[HP.out,Z0b hx,ZhB]
   have hrd:RawI wr (if cl=i+1 then some ⟨b,o,none⟩ else some ⟨b,o+(i+1),none⟩) (l.drop (i+1)):=by
    split
    ·have:l.drop (i+1)=[]:=List.drop_of_length_le (by have:=hk.out;omega)
     rw[this]
     exact fun j y hy=>by simp at hy
    ·exact(hl2.out.drop (i+1)).ext hE
   obtain⟨A,hA⟩:∃A:Option Addr,(if cl=i+1 then some ⟨b,o,none⟩ else some ⟨b,o+(i+1),none⟩)=A:=⟨_,rfl⟩
   rw[hA] at hrd
   have hrec:=ih2.out (k - (i+1)) (by omega) (l.drop (i+1)) _ (cl - (i+1)) wr (by rw[List.length_drop,hk.out]) (by omega) (by omega) hrd
   clear hx HP
   obtain⟨R,hRe⟩:∃R,R=chooseR (l.drop (i+1)):=⟨_,rfl⟩
   have hne:R≠[]:=by rw[hRe,chooseR_head];simp
   have hRl:R.length≤512∧S.length≤512:=by
    have h1:=congrArg List.length HS.out
    have h2:=hlen.out
    rw[←hRe] at h1
    simp only[List.length_append,List.length_map] at h1
    omega
   have hsl:Hid (∀s∈R,s.length≤9):=by
    intro s hs
    rw[hRe] at hs
    have h1:=chooseR_each _ _ hs
    rw[List.length_drop] at h1
    have:=hk.out
    omega
   rw[←hRe] at hrec HS
   replace hRe:Hid (R=chooseR (l.drop (i+1))):=hRe
   replace hRl:Hid (R.length≤512∧S.length≤512):=hRl
   skip
   obtain⟨wo,rfl⟩:∃wo:World,wo=wr:=⟨_,rfl⟩
   go_wp2_with (
    go_at_call 127;(with_reducible refine hrec.mono ?_);rintro e w2 ⟨rv,rfl,hR,hF⟩
    obtain⟨rg,rc,rfl,hlo,hhi,hrc⟩:=hR.own hne
    have hE2:=hE.trans hF;have hS2:=hS.ext hF
    replace hR:=hR.le (show N≤wo.heap.size by rw[hN];exact hE.size)
    have hno:∀q,u3.ownBlock=some q→q≠rg:=fun q hq=>by have:=(hS.lt hq).2;omega)
   clear hrec hrd hA hF hE hS hlo hhi
   have HS0:Hid (chooseR l=S++((R.drop 0).map (x::·)++R.tail)):=HS
   have HLR:Hid ((chooseR l).length=(S++((R.drop 0).map (x::·)++R.tail)).length):=congrArg List.length HS0.out
   clear HS
   go_loopw [3,6] (fun v3 v6 wr=>∃(j:Nat)(S:List (List Int)),j≤R.length∧v6= .int .i64 j∧Ext W wr∧Shr N wr v3 S∧Shr N wr (.slice (some ⟨rg,0,none⟩) R.length rc) R∧(∀q,v3.ownBlock=some q→q≠rg)∧Hid (chooseR l=S++((R.drop j).map (x::·)++R.tail))) (fun _ v6 _=>R.length - (intOf v6).toNat)
   case atStart=>exact⟨0,S,Nat.zero_le _,rfl,hE2,hS2,hR,hno,HS0⟩
   case round=>
    clear hE2 hS2 hR hno HS0 HLR hRl
    obtain⟨j,S,hj,rfl,hE,hS,hR,hno,HP⟩:=hrel
    by_cases hjr:j=R.length
    ·have HN:Hid (chooseR l=S++(chooseR (l.drop (i+1))).tail):=by show _=_;rw[HP.out,hjr,List.drop_length,←hRe.out];rfl
     subst hjr
     clear HP
     go_wp2
     exact⟨⟨i+1,S,by omega,by push_cast;rfl,hE,hS,HN⟩,by simp[intOf];omega⟩
    ·have hjlt:j<R.length:=by omega
     have hjlt2:(j:Int)<(R.length:Int):=by omega
     obtain⟨s,hs⟩:∃s,R[j]? =some s:=⟨_,List.getElem?_eq_getElem hjlt⟩
     have hs9:=hsl.out s (List.mem_of_getElem? hs)
     have HN:Hid (chooseR l=(S++[x::s])++((R.drop (j+1)).map (x::·)++R.tail)):=by
      show _=_
      rw[HP.out,Z0b hs]
      simp
     have hRl:R.length≤512:=by
      have h1:=congrArg List.length HP.out
      have h2:=hlen.out
      have h3:R.length≤(chooseR l).length:=by
       rw[hRe.out,chooseR_len,chooseR_len]
       exact Nat.pow_le_pow_right (n:=2) (by omega) (by rw[List.length_drop];omega)
      omega
     have hSl:S.length≤512:=by
      have h1:=congrArg List.length HP.out
      have h2:=hlen.out
      simp only[List.length_append] at h1
      omega
     clear HP
     go_wp2_with fail
     refine Zhk (ExtX fun q=>wr.heap.size≤q∨u3.ownBlock=some q) (by kernel_rfl) ?_
     have hD:=(Ext.rfl' wr).drew
     have hEd:=hE.trans hD;have hod:=hS.ext hD;have hRd:=hR.ext hD;have hcd:=hEd.cellS hcx
     obtain⟨sa,sc,hcu,hsn,hsc,hsr⟩:=hRd.cells hs
     obtain⟨M,hM⟩:∃M,M=wr.heap.size:=⟨_,rfl⟩
     have hMd:M≤wr.drew.heap.size:=by rw[hM];exact Nat.le_refl _
     have hNd:N≤wr.drew.heap.size:=by rw[hN];exact hEd.size
     have hcN:¬(M≤b∨u3.ownBlock=some b):=by
      rintro(h|h)
      ·have h1:=hE.size;omega
      ·have:=(hS.lt h).1;omega
     have hrN:¬(M≤rg∨u3.ownBlock=some rg):=by
      rintro(h|h)
      ·have h1:rg<wr.heap.size:=(hR.lt rfl).2
       omega
      ·exact hno _ h rfl
     have hNM:N≤M:=by rw[hM,hN];exact hE.size
     rw[←hM]
     generalize wr.drew=Wd at hEd hod hRd hcd hcu hsr hMd hNd⊢
     clear hE hS hR hM hD hs
     have gc:=GrE.cell (X:=fun q=>M≤q∨u3.ownBlock=some q) hcN hcd
     have gu:=GrE.cell (X:=fun q=>M≤q∨u3.ownBlock=some q) hrN hcu
     refine Zh8 (ExtX.pre _) [0,1,2,3,4,6,7,8,9] (by kernel_rfl) (by kernel_rfl) ?_
     simp only[ZeD,List.getElem?_cons_succ,List.getElem?_cons_zero,List.cons_append,List.nil_append]
     repeat (go_big_quiet_step (fail))
     refine wpQuiet_nil ?_
     refine Zh4 5 rfl (by kernel_rfl) rfl ?_
     clear gc gu
     refine Zf3 ⟨.slice (some ⟨Wd.heap.size,0,none⟩) 1 1,Wd.alloc (.cells #[.int .i64 x] 3),by simp[go_sem,execOp,Act.eval],Go.Nk.Ext.toX ((Ext.rfl' _).alloc _) _,?_⟩
     have h5:OwnI M (Wd.alloc (.cells #[.int .i64 x] 3)) (.slice (some ⟨Wd.heap.size,0,none⟩) 1 1) [x]:=Z6s Wd M 3 #[.int .i64 x] 1 Wd.heap.size rfl hMd rfl (by decide)
     have eA:=(Ext.rfl' Wd).alloc (.cells #[.int .i64 x] 3)
     generalize Wd.alloc _=WA at h5 eA⊢
     go_simp
     refine Zh4 10 rfl (by kernel_rfl) rfl ?_
     refine Zhm _ _ rfl M _ [x] rfl h5 sa sc s rfl hsn (hsr.ext eA) (by simp;omega) (Nat.le_trans hMd eA.size) (fun v6 W6 own6 hg6=>⟨Zhv hg6 (fun k hk=> .inl (h5.lt k hk).1),?_⟩)
     have e6:Ext Wd W6:=eA.grown hg6 (fun k hk=>by cases hk;exact Nat.le_refl _)
     rw[List.singleton_append] at own6
     go_simp
     refine Zh4 11 rfl (by kernel_rfl) rfl ?_
     obtain⟨a6,n6,c6,hv6⟩:∃a n c,v6= .slice a n c:=by
      obtain⟨a,c,h,_⟩:=own6.raw2
      exact⟨_,_,_,h⟩
     subst hv6
     refine Zf3 ⟨.slice (some ⟨W6.heap.size,0,none⟩) 1 1,W6.alloc (.cells #[(.slice a6 n6 c6)] 27),by simp[go_sem,execOp,Act.eval],Go.Nk.Ext.toX ((Ext.rfl' _).alloc _) _,?_⟩
     have hv7:=(Zhw W6 (.slice a6 n6 c6) 27).1
     have e7:=e6.alloc (.cells #[(.slice a6 n6 c6)] 27)
     have e67:=(Ext.rfl' W6).alloc (.cells #[(.slice a6 n6 c6)] 27)
     generalize W6.alloc _=W7 at hv7 e7 e67⊢
     go_simp
     refine Zh4 12 rfl (by kernel_rfl) rfl ?_
     refine ZhP _ _ rfl N u3 S rfl (hod.ext e7) W6.heap.size (.slice a6 n6 c6) (x::s) rfl hv7 ((own6.ext e67).le hNM) (by omega) (Nat.le_trans hNd e7.size) (fun g cap W8 hS8 hg8 hor hlt8=>⟨Zhv hg8 (fun k hk=> .inr hk),?_⟩)
     have hE8:Ext W W8:=(hEd.trans e7).grown hg8 (fun k hk=>by rw[←hN];exact(hod.lt hk).1)
     have hR8:=Shr.grown (hRd.ext e7) (hod.ext e7) hg8 (.inr (fun e=>hno _ e.symm rfl))
     have hno8:∀q,(some g:Option Nat)=some q→q≠rg:=by
      intro q hq e
      have hq2:g=q:=Option.some.inj hq
      rw[←hq2] at e
      rcases hor with h|h
      ·exact hno _ h e
      ·have h1:rg<Wd.heap.size:=(hRd.lt rfl).2
       have:=e7.size;omega
     go_simp
     refine Zh8 (ExtX.pre _) [13] (by kernel_rfl) (by kernel_rfl) ?_
     simp only[ZeD,List.getElem?_cons_succ,List.getElem?_cons_zero,List.cons_append,List.nil_append]
     repeat (go_big_quiet_step (fail))
     refine wpQuiet_nil ?_
     refine ZhF (by kernel_rfl) ?_
     have hjb:(j:Int)<1000:=by omega
     clear hEd hod hRd hcd hcu hsr hcN hrN h5 eA e6 e67 e7 own6 hv7 hg8 hor hMd hNd
     go_wp2
     exact⟨⟨j+1,S++[x::s],by omega,by push_cast;rfl,hE8,by simpa using hS8,hR8,hno8,HN⟩,by simp[intOf];omega⟩
end Go.Proofs.Tryq
namespace Go.Proofs.Tryq
open Go Go.Nk Go.RowKit
set_option linter.all false
set_option linter.all false
theorem Zh3{w:World}{b:Nat}{a0 a1 a2 a3 a4:Value}{t:TypeId}(h:w.heap[b]? =some (.cells #[a0,a1,a2,a3,a4] t)):
 w.cell? ⟨b,0,none⟩=some a0∧w.cell? ⟨b,1,none⟩=some a1∧w.cell? ⟨b,2,none⟩=some a2∧w.cell? ⟨b,3,none⟩=some a3∧w.cell? ⟨b,4,none⟩=some a4:=
 ⟨Z0 h 0,Z0 h 1,Z0 h 2,Z0 h 3,Z0 h 4⟩
theorem Shr.cellsO{B:Nat}{w:World}{g n cp:Nat}{ls:List (List Int)}(h:Shr B w (.slice (some ⟨g,0,none⟩) n cp) ls){j:Nat}{s:List Int}(hs:ls[j]? =some s):∃ao c,w.cell? ⟨g,j,none⟩=some (.slice ao s.length c)∧OwnI B w (.slice ao s.length c) s∧s.length≤c:=by
 obtain⟨_,vs,h1,h2⟩:=h
 obtain⟨u,hu,hou⟩:=h2.get j s hs
 obtain⟨ao,c,rfl,h3,h4,h5⟩:=hou.raw2
 have:=h1.cells (g:=g) rfl j _ hu
 rw[Zh7,Nat.zero_add] at this
 exact⟨ao,c,this,hou,h4⟩
theorem OwnI.rawP{b:Nat}{w:World}{ao:Option Addr}{n c:Nat}{l:List Int}(h:OwnI b w (.slice ao n c) l):RawI w ao l:=by
 obtain⟨ao',c',e,_,_,hr⟩:=h.raw2
 cases e
 exact hr
set_option linter.all false
set_option linter.all false
set_option linter.all false
set_option linter.all false
theorem mem_upLs{n:Nat}{p:Int}:p∈upL n↔0≤p∧p<n:=by
 simp only[upL,List.mem_map,List.mem_range]
 constructor
 ·rintro⟨i,h,rfl⟩;omega
 ·intro h;exact⟨p.toNat,by omega,by omega⟩
end Go.Proofs.Tryq
