import Derived.Test.YtedkbdkbbnemlaaGreatDoorNk27
set_option linter.all false
namespace Go.Proofs.Tryq
set_option maxRecDepth 100000
set_option maxHeartbeats 4000000
open Go Go.Nk Go.RowKit
theorem Z7J(w:World)(a:Addr)(v:Value):(w.setCell a v).heap.size=w.heap.size:=(Go.Conc.aside_setCell w a v).size
def exL:List Sf:=[⟨⟨#[97]⟩,400,405,700,700,250,252⟩,⟨⟨#[98]⟩,404,408,701,701,251,251⟩,⟨⟨#[99]⟩,398,402,700,701,249,250⟩,⟨⟨#[100]⟩,409,412,700,700,255,255⟩,⟨⟨#[101]⟩,402,402,702,702,252,254⟩,⟨⟨#[102]⟩,405,406,701,702,253,253⟩,⟨⟨#[103]⟩,450,450,700,700,250,250⟩]
def exC:Array Value:=(exL.flatMap fun x=>(sfC x).toList).toArray
theorem exC_eq:exC= #[.string ⟨#[97]⟩,.int .i64 400,.int .i64 405,.int .i64 700,.int .i64 700,.int .i64 250,.int .i64 252,.string ⟨#[98]⟩,.int .i64 404,.int .i64 408,.int .i64 701,.int .i64 701,.int .i64 251,.int .i64 251,.string ⟨#[99]⟩,.int .i64 398,.int .i64 402,.int .i64 700,.int .i64 701,.int .i64 249,.int .i64 250,.string ⟨#[100]⟩,.int .i64 409,.int .i64 412,.int .i64 700,.int .i64 700,.int .i64 255,.int .i64 255,.string ⟨#[101]⟩,.int .i64 402,.int .i64 402,.int .i64 702,.int .i64 702,.int .i64 252,.int .i64 254,.string ⟨#[102]⟩,.int .i64 405,.int .i64 406,.int .i64 701,.int .i64 702,.int .i64 253,.int .i64 253,.string ⟨#[103]⟩,.int .i64 450,.int .i64 450,.int .i64 700,.int .i64 700,.int .i64 250,.int .i64 250]:=by rfl
theorem Z6U(w:World):Calls prog 84 #[] w fun e w'=>∃B,e= .returned (.agg #[.int .i64 10,.int .i64 2,.int .i64 5,.int .i64 3,.slice (some ⟨B,0,none⟩) 7 7])∧w'.heap[B]? =some (.cells exC 51)∧Ext w w':=by
 have hEc:=Ext.rfl' (w.alloc (.cells #[.int .i64 0,.int .i64 0,.int .i64 0,.int .i64 0,.slice none 0 0] 26))
 have hg0:(w.alloc (.cells #[.int .i64 0,.int .i64 0,.int .i64 0,.int .i64 0,.slice none 0 0] 26)).heap[w.heap.size]? =some (.cells #[.int .i64 0,.int .i64 0,.int .i64 0,.int .i64 0,.slice none 0 0] 26):=by rw[Z3,if_pos rfl]
 go_enter func84,ntmps84
 go_wp2_with (
  go_at_call 34;refine(Z3P _ _ _).mono ?_;rintro e w2 ⟨rfl,hE2⟩
  replace hEc:=hEc.trans hE2
  clear hE2
  (try clear z0 z1 z2 z3 z4 y0 y1 y2 y3 y4 hlt0)
  have hlt0:=Z5 (hEc.get hg0)
  have z0:=Z8 (hEc.get hg0) 0;have z1:=Z8 (hEc.get hg0) 1;have z2:=Z8 (hEc.get hg0) 2;have z3:=Z8 (hEc.get hg0) 3;have z4:=Z8 (hEc.get hg0) 4
  have y0:=Z0 (hEc.get hg0) 0;have y1:=Z0 (hEc.get hg0) 1;have y2:=Z0 (hEc.get hg0) 2;have y3:=Z0 (hEc.get hg0) 3;have y4:=Z0 (hEc.get hg0) 4
  simp only[List.getElem?_toArray,List.getElem?_cons_zero,List.getElem?_cons_succ] at y0 y1 y2 y3 y4)
 have hEw:Ext w w2:=((Ext.rfl' w).alloc _).trans hEc
 have hb3:=(Zb (Zb (Zb (Zb (Zb (hEc.get hg0) (i:=0) (.int .i64 10)) (i:=1) (.int .i64 2)) (i:=2) (.int .i64 5)) (i:=3) (.int .i64 3)) (i:=4) (.slice (some ⟨w2.heap.size,0,none⟩) 7 7))
 have hE9:=(((((hEw.setCell ⟨w.heap.size,0,none⟩ (.int .i64 10) (Nat.le_refl _)).setCell ⟨w.heap.size,1,none⟩ (.int .i64 2) (Nat.le_refl _)).setCell ⟨w.heap.size,2,none⟩ (.int .i64 5) (Nat.le_refl _)).setCell ⟨w.heap.size,3,none⟩ (.int .i64 3) (Nat.le_refl _)).setCell ⟨w.heap.size,4,none⟩ (.slice (some ⟨w2.heap.size,0,none⟩) 7 7) (Nat.le_refl _))
 have hs9:w2.heap.size=(((((w2.setCell ⟨w.heap.size,0,none⟩ (.int .i64 10)).setCell ⟨w.heap.size,1,none⟩ (.int .i64 2)).setCell ⟨w.heap.size,2,none⟩ (.int .i64 5)).setCell ⟨w.heap.size,3,none⟩ (.int .i64 3)).setCell ⟨w.heap.size,4,none⟩ (.slice (some ⟨w2.heap.size,0,none⟩) 7 7)).heap.size:=by simp only[Z7J]
 have hn9:w2.heap.size≠w.heap.size:=by omega
 generalize World.setCell _ _ _=w9 at hb3 hE9 hs9⊢
 have hb4:=((Ext.rfl' w9).alloc (.cells exC 51)).get hb3
 have s0:=Z0 hb4 0;have s1:=Z0 hb4 1;have s2:=Z0 hb4 2;have s3:=Z0 hb4 3;have s4:=Z0 hb4 4
 simp at s0 s1 s2 s3 s4
 rw[←exC_eq]
 refine bodyPost_ret (v:= .agg #[.int .i64 10,.int .i64 2,.int .i64 5,.int .i64 3,.slice (some ⟨w2.heap.size,0,none⟩) 7 7]) ((Z07 rfl _ _ _).trans ?_) rfl ⟨w2.heap.size,rfl,by rw[Z3,if_pos hs9],hE9.alloc _⟩
 simp[go_sem,s0,s1,s2,s3,s4]
def exS:List Rs:=[⟨10,30,32,0,0⟩,⟨20,55,60,0,0⟩,⟨30,96,99,1,1⟩]
def rsC(x:Rs):List Value:=[.int .i64 x.a,.int .i64 x.m,.int .i64 x.M,.int .i64 x.wi,.int .i64 x.li]
def exD:Array Value:=(exS.flatMap rsC).toArray
theorem exD_eq:exD= #[.int .i64 10,.int .i64 30,.int .i64 32,.int .i64 0,.int .i64 0,.int .i64 20,.int .i64 55,.int .i64 60,.int .i64 0,.int .i64 0,.int .i64 30,.int .i64 96,.int .i64 99,.int .i64 1,.int .i64 1]:=by rfl
theorem Zar(w:World):Calls prog 85 #[] w fun e w'=>∃B,e= .returned (.agg #[.int .i64 2,.int .i64 4,.int .i64 1,.int .i64 2,.slice (some ⟨B,0,none⟩) 3 3])∧w'.heap[B]? =some (.cells exD 80)∧Ext w w':=by
 have hEc:=Ext.rfl' (w.alloc (.cells #[.int .i64 0,.int .i64 0,.int .i64 0,.int .i64 0,.slice none 0 0] 70))
 have hg0:(w.alloc (.cells #[.int .i64 0,.int .i64 0,.int .i64 0,.int .i64 0,.slice none 0 0] 70)).heap[w.heap.size]? =some (.cells #[.int .i64 0,.int .i64 0,.int .i64 0,.int .i64 0,.slice none 0 0] 70):=by rw[Z3,if_pos rfl]
 go_enter func85,ntmps85
 go_wp2_with (
  go_at_call 34;refine(Z3P _ _ _).mono ?_;rintro e w2 ⟨rfl,hE2⟩
  replace hEc:=hEc.trans hE2
  clear hE2
  (try clear z0 z1 z2 z3 z4 y0 y1 y2 y3 y4 hlt0)
  have hlt0:=Z5 (hEc.get hg0)
  have z0:=Z8 (hEc.get hg0) 0;have z1:=Z8 (hEc.get hg0) 1;have z2:=Z8 (hEc.get hg0) 2;have z3:=Z8 (hEc.get hg0) 3;have z4:=Z8 (hEc.get hg0) 4
  have y0:=Z0 (hEc.get hg0) 0;have y1:=Z0 (hEc.get hg0) 1;have y2:=Z0 (hEc.get hg0) 2;have y3:=Z0 (hEc.get hg0) 3;have y4:=Z0 (hEc.get hg0) 4
  simp only[List.getElem?_toArray,List.getElem?_cons_zero,List.getElem?_cons_succ] at y0 y1 y2 y3 y4)
 have hEw:Ext w w2:=((Ext.rfl' w).alloc _).trans hEc
 have hb3:=(Zb (Zb (Zb (Zb (Zb (hEc.get hg0) (i:=0) (.int .i64 2)) (i:=1) (.int .i64 4)) (i:=2) (.int .i64 1)) (i:=3) (.int .i64 2)) (i:=4) (.slice (some ⟨w2.heap.size,0,none⟩) 3 3))
 have hE9:=(((((hEw.setCell ⟨w.heap.size,0,none⟩ (.int .i64 2) (Nat.le_refl _)).setCell ⟨w.heap.size,1,none⟩ (.int .i64 4) (Nat.le_refl _)).setCell ⟨w.heap.size,2,none⟩ (.int .i64 1) (Nat.le_refl _)).setCell ⟨w.heap.size,3,none⟩ (.int .i64 2) (Nat.le_refl _)).setCell ⟨w.heap.size,4,none⟩ (.slice (some ⟨w2.heap.size,0,none⟩) 3 3) (Nat.le_refl _))
 have hs9:w2.heap.size=(((((w2.setCell ⟨w.heap.size,0,none⟩ (.int .i64 2)).setCell ⟨w.heap.size,1,none⟩ (.int .i64 4)).setCell ⟨w.heap.size,2,none⟩ (.int .i64 1)).setCell ⟨w.heap.size,3,none⟩ (.int .i64 2)).setCell ⟨w.heap.size,4,none⟩ (.slice (some ⟨w2.heap.size,0,none⟩) 3 3)).heap.size:=by simp only[Z7J]
 have hn9:w2.heap.size≠w.heap.size:=by omega
 generalize World.setCell _ _ _=w9 at hb3 hE9 hs9⊢
 have hb4:=((Ext.rfl' w9).alloc (.cells exD 80)).get hb3
 have s0:=Z0 hb4 0;have s1:=Z0 hb4 1;have s2:=Z0 hb4 2;have s3:=Z0 hb4 3;have s4:=Z0 hb4 4
 simp at s0 s1 s2 s3 s4
 rw[←exD_eq]
 refine bodyPost_ret (v:= .agg #[.int .i64 2,.int .i64 4,.int .i64 1,.int .i64 2,.slice (some ⟨w2.heap.size,0,none⟩) 3 3]) ((Z07 rfl _ _ _).trans ?_) rfl ⟨w2.heap.size,rfl,by rw[Z3,if_pos hs9],hE9.alloc _⟩
 simp[go_sem,s0,s1,s2,s3,s4]
end Go.Proofs.Tryq
namespace Go.Proofs.Tryq
open Go Go.Nk Go.RowKit
def stkV(B:Nat):Value:= .agg #[.int .i64 10,.int .i64 2,.int .i64 5,.int .i64 3,.slice (some ⟨B,0,none⟩) 7 7]
def ZdA(D n c:Nat):Value:= .agg #[.int .i64 2,.int .i64 4,.int .i64 1,.int .i64 2,.slice (some ⟨D,0,none⟩) n c]
def exS4:List Rs:=exS++[⟨20,70,70,0,0⟩]
theorem v_open0:Zo 10 2 5 3 exL []=0:=by kernel_rfl
theorem v_m1:Z1M 10 2 5 3 exL [0,1,2]=1∧Zo 10 2 5 3 exL [0,1,2]=0:=⟨by kernel_rfl,by kernel_rfl⟩
theorem v_m2:Z1M 10 2 5 3 exL [0,3]=0∧Zo 10 2 5 3 exL [0,3]=0:=⟨by kernel_rfl,by kernel_rfl⟩
theorem v_m3:Z1M 10 2 5 3 exL [0,6]=2∧Zo 10 2 5 3 exL [0,6]=0:=⟨by kernel_rfl,by kernel_rfl⟩
def exA:List Ap:=[⟨0,3,0,0⟩,⟨2,3,0,0⟩,⟨2,3,2,0⟩]
theorem v_ap:apsB (Z0Q 10 2 5 3 exL [0,2,3]) exA=true∧Zo 10 2 5 3 exL [0,2,3]=0∧(Z0Q 10 2 5 3 exL [0,2,3]).length=3:=⟨by kernel_rfl,by kernel_rfl,by kernel_rfl⟩
theorem v_fill:Z66 10 2 5 3 exL=[[0,1,2],[3,4,5]]:=by kernel_rfl
theorem v_left:Z6T 10 2 5 3 exL=[6]:=by rw[Z6T,v_fill];kernel_rfl
theorem v_wot:Z1Y 10 2 5 3 exL 3=1∧Zo 10 2 5 3 exL [3]=0:=⟨by kernel_rfl,by kernel_rfl⟩
theorem v_card:ZC 2 4 1 2 exS=0:=by kernel_rfl
theorem v_card4:ZC 2 4 1 2 exS4=0:=by kernel_rfl
theorem v_wide:Zau 2 4 1 2 exS 2=(93,102)∧Z1e 2 4 1 2 exS 2=0:=⟨by kernel_rfl,by kernel_rfl⟩
theorem v_against:Z1r 2 4 1 2 (exS.map Ze)=0:=by
 have h:=Z6X (Zav v_card) (k:=7) (by decide)
 rw[Z1r]
 rw[List.length_map]
 rw[show((2:Int) ^ exS.length - 1)=((7:Nat):Int) from rfl,h,if_pos (by kernel_rfl)]
theorem ZdB(rs:List Int)(h:firstV (rs++[0,0])=0):firstV (Zy 2 4 1 2 exS rs)=0:=by
 have e:Zy 2 4 1 2 exS rs=0::(rs++[0,0]):=by rw[Zy,v_card,v_against];rfl
 rw[e,firstV,if_pos rfl]
 exact h
theorem ZaJ(a:Int)(h:Zv a=0):ZA 2 4 1 2 exS a=0:=ZdB _ (by rw[h];rfl)
theorem v_mk1:Zw 2 4 1 2 exS 30=(93,100):=by rw[Zw,if_pos (ZaJ 30 rfl)];kernel_rfl
theorem v_mk2:Zw 2 4 1 2 exS 25=(73,80):=by rw[Zw,if_pos (ZaJ 25 rfl)];kernel_rfl
theorem v_hF(k:Int)(h:Z87 76 k=0):Z8F 2 4 1 2 exS 25 76 k=0:=ZdB _ (by rw[h];rfl)
theorem v_h1:Z6c 2 4 1 2 exS 25 76 4=1:=by rw[Z6c,if_pos (v_hF 4 rfl)];kernel_rfl
theorem v_h2:Z6c 2 4 1 2 exS 25 76 3=0:=by rw[Z6c,if_pos (v_hF 3 rfl)];kernel_rfl
theorem v_best:Z8H 2 4 1 2 exS 25=(76,4):=by rw[Z8H,if_pos (ZaJ 25 rfl)];kernel_rfl
theorem v_widF:Z1O 2 4 1 2 exS 10 30=0:=ZdB _ rfl
theorem v_wid:ZaT 2 4 1 2 exS 10 30=(14,38,48):=by rw[ZaT,if_pos v_widF];kernel_rfl
theorem v_clash:Z7L 2 4 1 2 exS4=[1,3]:=by rw[Zc5 (Zav v_card4)];kernel_rfl
theorem v_trust:Z7M 2 4 1 2 exS4=[0,1,2]:=by rw[Zc6 (Zav v_card4)];kernel_rfl
theorem Z59(l:List Int)(k:Nat)(s:Int)(hl:l.length=k)(hk:k≤100)(h:Z1M 10 2 5 3 exL l=s∧Zo 10 2 5 3 exL l=0)(B:Nat)(ad:Option Addr)(w:World)(hM:Meas w)(hS:RawA w (some ⟨B,0,none⟩) exL)(hI:RawI w ad l):
 Calls prog 23 #[stkV B,.slice ad k k] w fun e w'=>e= .returned (.tuple #[.int .i64 s,.int .i64 0])∧Ext w w':=by
 have h2:=Z5Y 10 2 5 3 (some ⟨B,0,none⟩) 7 7 exL ad k k l w rfl (by decide) hl (Nat.le_refl _) hk hM hS hI
 rw[h.1,h.2] at h2
 exact h2
theorem Zc9(B:Nat)(ad:Option Addr)(w:World)(hM:Meas w)(hS:RawA w (some ⟨B,0,none⟩) exL)(hI:RawI w ad [0,2,3]):
 Calls prog 27 #[stkV B,.slice ad 3 3] w fun e w'=>∃v,e= .returned (.tuple #[v,.int .i64 0])∧OwnAp w.heap.size w' v (Z0Q 10 2 5 3 exL [0,2,3])∧Ext w w':=by
 have h2:=Z5Z 10 2 5 3 (some ⟨B,0,none⟩) 7 7 exL ad 3 3 [0,2,3] w rfl (by decide) rfl (by decide) (by decide) hM hS hI
 rw[v_ap.2.1] at h2
 exact h2
theorem ZdC(B:Nat)(w:World)(hM:Meas w)(hS:RawA w (some ⟨B,0,none⟩) exL):
 Calls prog 37 #[stkV B] w fun e w'=>∃v1 v2,e= .returned (.tuple #[v1,v2,.int .i64 0])∧Shr w.heap.size w' v1 [[0,1,2],[3,4,5]]∧OwnI w.heap.size w' v2 [6]∧Ext w w':=by
 have h2:=ZbY 10 2 5 3 (some ⟨B,0,none⟩) 7 7 exL w rfl (by decide) hM hS
 rw[v_open0,v_fill,v_left] at h2
 exact h2
theorem Z8I(B:Nat)(w:World)(hM:Meas w)(hS:RawA w (some ⟨B,0,none⟩) exL):
 Calls prog 59 #[stkV B,.int .i64 3] w fun e w'=>e= .returned (.tuple #[.int .i64 1,.int .i64 0])∧Ext w w':=by
 have h2:=Z6S 10 2 5 3 (some ⟨B,0,none⟩) 7 7 exL 3 w rfl (by decide) hM hS
 rw[v_wot.1,v_wot.2] at h2
 exact h2
theorem ZdD(D:Nat)(w:World)(hS:RawS w (some ⟨D,0,none⟩) exS):
 Calls prog 49 #[ZdA D 3 3,.int .i64 2] w fun e w'=>e= .returned (.tuple #[.agg #[.int .i64 93,.int .i64 102],.int .i64 0])∧Ext w w':=by
 have h2:=Z69 2 4 1 2 (some ⟨D,0,none⟩) 3 3 exS 2 w rfl (by decide) hS
 rw[v_wide.1,v_wide.2] at h2
 exact h2
theorem ZaK(a x y:Int)(h:Zv a=0)(hx:Zw 2 4 1 2 exS a=(x,y))(D:Nat)(w:World)(hS:RawS w (some ⟨D,0,none⟩) exS)(hm:Most w):
 Calls prog 45 #[ZdA D 3 3,.int .i64 a] w fun e w'=>e= .returned (.tuple #[.agg #[.int .i64 x,.int .i64 y],.int .i64 0])∧Ext w w':=by
 have h2:=Z86 2 4 1 2 (some ⟨D,0,none⟩) 3 3 w a exS rfl hS hm
 rw[hx,ZaJ a h] at h2
 exact h2
theorem ZaL(k s:Int)(h:Z87 76 k=0)(hx:Z6c 2 4 1 2 exS 25 76 k=s)(D:Nat)(w:World)(hS:RawS w (some ⟨D,0,none⟩) exS)(hm:Most w):
 Calls prog 53 #[ZdA D 3 3,.int .i64 25,.int .i64 76,.int .i64 k] w fun e w'=>e= .returned (.tuple #[.int .i64 s,.int .i64 0])∧Ext w w':=by
 have h2:=Zc7 2 4 1 2 (some ⟨D,0,none⟩) 3 3 w 25 76 k exS rfl hS hm
 rw[hx,v_hF k h] at h2
 exact h2
theorem ZdE(D:Nat)(w:World)(hS:RawS w (some ⟨D,0,none⟩) exS)(hm:Most w):
 Calls prog 51 #[ZdA D 3 3,.int .i64 25] w fun e w'=>e= .returned (.tuple #[.int .i64 76,.int .i64 4,.int .i64 0])∧Ext w w':=by
 have h2:=Zc8 2 4 1 2 (some ⟨D,0,none⟩) 3 3 w 25 exS rfl hS hm
 rw[v_best,ZaJ 25 rfl] at h2
 exact h2
theorem ZaM(D:Nat)(w:World)(hS:RawS w (some ⟨D,0,none⟩) exS)(hm:Most w):
 Calls prog 52 #[ZdA D 3 3,.int .i64 10,.int .i64 30] w fun e w'=>e= .returned (.tuple #[.int .i64 14,.agg #[.int .i64 38,.int .i64 48],.int .i64 0])∧Ext w w':=by
 have h2:=Z8G 2 4 1 2 (some ⟨D,0,none⟩) 3 3 w 10 30 exS rfl hS hm
 rw[v_wid,v_widF] at h2
 exact h2
theorem Zca(D c:Nat)(w:World)(hS:RawS w (some ⟨D,0,none⟩) exS4)(hm:Most w)(hd:Deb w):
 Calls prog 66 #[ZdA D 4 c] w fun e w'=>∃v,e= .returned (.tuple #[v,.int .i64 0])∧OwnI w.heap.size w' v [1,3]∧Ext w w':=by
 have h2:=Zas 2 4 1 2 (some ⟨D,0,none⟩) 4 c exS4 w rfl hS hm hd
 rw[v_clash,v_card4,if_pos rfl] at h2
 exact h2
theorem Zcb(D c:Nat)(w:World)(hS:RawS w (some ⟨D,0,none⟩) exS4)(hm:Most w)(hd:Deb w):
 Calls prog 68 #[ZdA D 4 c] w fun e w'=>∃v,e= .returned (.tuple #[v,.int .i64 0])∧OwnI w.heap.size w' v [0,1,2]∧Ext w w':=by
 have h2:=Zat 2 4 1 2 (some ⟨D,0,none⟩) 4 c exS4 w rfl hS hm hd
 rw[v_trust,v_card4,if_pos rfl] at h2
 exact h2
theorem Z0V{w:World}{b:Nat}{l:List Int}{C:Array Value}(h:w.heap[b]? =some (.cells C 3))(hC:C.toList=l.map (Value.int .i64)):RawI w (some ⟨b,0,none⟩) l:=by
 intro i y hy
 refine⟨b,0,rfl,Z5 h,?_⟩
 rw[Z0 h,Nat.zero_add,←Array.getElem?_toList,hC,List.getElem?_map,hy]
 rfl
theorem ZdF{w:World}{B:Nat}(h:w.heap[B]? =some (.cells exC 51)):RawA w (some ⟨B,0,none⟩) exL:=by
 intro i x hx
 have hi:i<7:=(List.getElem?_eq_some_iff.1 hx).1
 refine⟨B,0,rfl,Z5 h,?_,?_⟩
 ·match i,hi with
  |0,_|1,_|2,_|3,_|4,_|5,_|6,_=>
   obtain rfl:=Option.some.inj hx
   exact⟨by rw[Z0 h];rfl,by rw[Z0 h];rfl,by rw[Z0 h];rfl,by rw[Z0 h];rfl,by rw[Z0 h];rfl,by rw[Z0 h];rfl,by rw[Z0 h];rfl⟩
 ·match i,hi with
  |0,_|1,_|2,_|3,_|4,_|5,_|6,_=>
   obtain rfl:=Option.some.inj hx
   decide
theorem Z6Y{w:World}{B:Nat}{L:List Rs}{C:Array Value}(h:w.heap[B]? =some (.cells C 80))(hC:C.toList.take (L.length*5)=L.flatMap rsC):RawS w (some ⟨B,0,none⟩) L:=by
 have key:∀(L:List Rs)(i j:Nat)(x:Rs),L[i]? =some x→j<5→(L.flatMap rsC)[i*5+j]? =(rsC x)[j]? :=by
  intro L
  induction L with
  |nil=>intro i j x h;simp at h
  |cons y L ih=>
   intro i j x hx hj
   rw[List.flatMap_cons]
   have hl:(rsC y).length=5:=rfl
   cases i with
   |zero=>
    simp at hx
    subst hx
    rw[List.getElem?_append_left (by omega)]
    simp
   |succ i=>
    rw[List.getElem?_append_right (by omega),hl,show(i+1)*5+j - 5=i*5+j by omega]
    exact ih i j x (by simpa using hx) hj
 intro i x hx
 have hi:i<L.length:=(List.getElem?_eq_some_iff.1 hx).1
 have hc:∀j,j<5→w.cell? ⟨B,0+i*5+j,none⟩=(rsC x)[j]? :=by
  intro j hj
  rw[Z0 h,Nat.zero_add,←Array.getElem?_toList,←key L i j x hx hj,←hC,List.getElem?_take,if_pos (by omega)]
 exact⟨B,0,rfl,Z5 h,hc 0 (by omega),hc 1 (by omega),hc 2 (by omega),hc 3 (by omega),hc 4 (by omega)⟩
end Go.Proofs.Tryq
namespace Go.Proofs.Tryq
set_option maxRecDepth 100000
set_option maxHeartbeats 8000000
open Go Go.Nk Go.RowKit
theorem u68:prog.underlying 68=some (.slice 80):=(underlying_eq 68).trans Tryz.underlying68
theorem i80:prog.info? 80=some Tryz.t80:=by kernel_rfl
theorem t80z:Tryz.t80.zero=some (.agg #[.int .i64 0,.int .i64 0,.int .i64 0,.int .i64 0,.int .i64 0]):=by kernel_rfl
theorem t80s:Tryz.t80.size=5:=by kernel_rfl
theorem t80b:Tryz.t80.bytes=40:=by kernel_rfl
theorem ZaN{w:World}{b:Nat}{A:List Ap}{C:Array Value}(h:w.heap[b]? =some (.cells C 46))(hC:C.toList=A.flatMap apC):RawAp w (some ⟨b,0,none⟩) A:=by
 have key:∀(A:List Ap)(i j:Nat)(x:Ap),A[i]? =some x→j<4→(A.flatMap apC)[i*4+j]? =(apC x)[j]? :=by
  intro A
  induction A with
  |nil=>intro i j x h;simp at h
  |cons y A ih=>
   intro i j x hx hj
   rw[List.flatMap_cons]
   have hl:(apC y).length=4:=rfl
   cases i with
   |zero=>
    simp at hx
    subst hx
    rw[List.getElem?_append_left (by omega)]
    simp
   |succ i=>
    rw[List.getElem?_append_right (by omega),hl,show(i+1)*4+j - 4=i*4+j by omega]
    exact ih i j x (by simpa using hx) hj
 intro i x hx
 have hc:∀j,j<4→w.cell? ⟨b,0+i*4+j,none⟩=(apC x)[j]? :=by
  intro j hj
  rw[Z0 h,Nat.zero_add,←Array.getElem?_toList,hC,key A i j x hx hj]
 exact⟨b,0,rfl,Z5 h,hc 0 (by omega),hc 1 (by omega),hc 2 (by omega),hc 3 (by omega)⟩
theorem Zcc{w:World}{b:Nat}{x0 x1 x2 y0 y1 y2:Int}(h0:w.heap[b]? =some (.cells #[.int .i64 x0,.int .i64 x1,.int .i64 x2] 3))(h1:w.heap[b+1]? =some (.cells #[.int .i64 y0,.int .i64 y1,.int .i64 y2] 3))
 (h2:w.heap[b+1+1]? =some (.cells #[.slice (some ⟨b,0,none⟩) 3 3,.slice (some ⟨b+1,0,none⟩) 3 3] 27)):RawL w (some ⟨b+1+1,0,none⟩) [[x0,x1,x2],[y0,y1,y2]]:=by
 intro i l hl
 match i,hl with
 |0,hl=>
  obtain rfl:=Option.some.inj hl
  exact⟨b+1+1,0,_,3,rfl,Z5 h2,by rw[Z0 h2];rfl,by simp,Z0V h0 rfl⟩
 |1,hl=>
  obtain rfl:=Option.some.inj hl
  exact⟨b+1+1,0,_,3,rfl,Z5 h2,by rw[Z0 h2];rfl,by simp,Z0V h1 rfl⟩
theorem Zcd{w:World}{b base:Nat}(h:w.heap[b]? =some (.cells #[] 80))(hb:base≤b):w.ownsRow base 80 5 (.slice (some ⟨b,0,none⟩) 0 0) 0 []:=⟨rfl,.inr ⟨b,0,#[],rfl,hb,h,Nat.le_refl _,by simp[maxLen],rfl,rfl⟩⟩
theorem OwnAp.rawAp{b:Nat}{w:World}{v:Value}{A:List Ap}(h:OwnAp b w v A):∃ao cp,v= .slice ao A.length cp∧RawAp w ao A:=by
 by_cases h0:A=[]
 ·subst h0
  rcases h.2 with⟨rfl,_⟩|⟨g,cp,_,rfl,_⟩
  ·exact⟨none,0,rfl,fun i x hx=>by simp at hx⟩
  ·exact⟨_,cp,rfl,fun i x hx=>by simp at hx⟩
 ·have hp:0<A.length:=List.length_pos_iff.2 h0
  obtain⟨g,cp,rfl,_,hg⟩:=World.ownsRow.form h hp
  refine⟨_,cp,rfl,fun i x hx=> ?_⟩
  have key:∀(A:List Ap)(i j:Nat)(x:Ap),A[i]? =some x→j<4→(A.flatMap apC)[i*4+j]? =(apC x)[j]? :=by
   intro A
   induction A with
   |nil=>intro i j x h;simp at h
   |cons y A ih=>
    intro i j x hx hj
    rw[List.flatMap_cons]
    have hl:(apC y).length=4:=rfl
    cases i with
    |zero=>
     simp at hx
     subst hx
     rw[List.getElem?_append_left (by omega)]
     simp
    |succ i=>
     rw[List.getElem?_append_right (by omega),hl,show(i+1)*4+j - 4=i*4+j by omega]
     exact ih i j x (by simpa using hx) hj
  have hc:∀j u,j<4→(apC x)[j]? =some u→w.cell? ⟨g,0+i*4+j,none⟩=some u:=by
   intro j u hj hu
   have h2:=h.cells (g:=g) rfl (i*4+j) u (by rw[key A i j x hx hj];exact hu)
   rw[Z0c] at h2
   rw[Nat.zero_add]
   exact h2
  exact⟨g,0,rfl,hg,hc 0 _ (by omega) rfl,hc 1 _ (by omega) rfl,hc 2 _ (by omega) rfl,hc 3 _ (by omega) rfl⟩
theorem Zce(w:World)(hM:Meas w)(hmo:Most w)(hd:Deb w):Calls prog 22 #[] w fun e w'=>e= .returned (.bool true)∧Ext w w':=by
 go_enter func22,ntmps22
 go_wp2_with fail
 refine(Z6U _).mono ?_
 rintro e wA ⟨B,rfl,hBe,hEA⟩
 rename_i Q K hK
 refine hK _ _ ?_
 clear hK
 go_wp2_with fail
 refine(Zar _).mono ?_
 rintro e w0 ⟨D,rfl,hDe,hEB⟩
 have hEw:=hEA.trans hEB
 have hS0:=ZdF (hEB.get hBe)
 have hC0:RawS w0 (some ⟨D,0,none⟩) exS:=Z6Y hDe rfl
 have hM0:=hM.ext hEw;have hm0:=hmo.ext hEw;have hd0:=hd.ext hEw
 have hc0:=Ext.rfl' w0
 rename_i Q K hK
 refine hK _ _ ?_
 clear hK
 go_wp2_with fail
 refine(Z59 [0,1,2] 3 1 rfl (by decide) v_m1 B _ _ (hM0.ext ((((hc0.alloc _).alloc _).alloc _))) (hS0.ext ((((hc0.alloc _).alloc _).alloc _))) (Z0V (l:=[0,1,2]) (by simp only[Z3,Z2];exact if_pos trivial) rfl)).mono ?_
 rintro e w1 ⟨rfl,hE⟩
 have hs1:Ext w0 w1:=((((Ext.rfl' w0).alloc _).alloc _).alloc _).trans hE
 have gs1:w1.heap[w0.heap.size]? =some (.cells #[.int .i64 10,.int .i64 2,.int .i64 5,.int .i64 3,.slice (some ⟨B,0,none⟩) 7 7] 26):=hE.get (by simp only[Z3,Z2];rw[if_neg (by omega),if_neg (by omega),if_pos trivial])
 have gc1:w1.heap[w0.heap.size+1]? =some (.cells #[.int .i64 2,.int .i64 4,.int .i64 1,.int .i64 2,.slice (some ⟨D,0,none⟩) 3 3] 70):=hE.get (by simp only[Z3,Z2];rw[if_neg (by omega),if_pos trivial])
 have hc1:=hc0.trans hs1
 clear hE
 have hlt1:=Z5 gc1;have hlu1:=Z5 gs1
 have q0:=Z0 gs1 0;have q1:=Z0 gs1 1;have q2:=Z0 gs1 2;have q3:=Z0 gs1 3;have q4:=Z0 gs1 4
 have r0:=Z0 gc1 0;have r1:=Z0 gc1 1;have r2:=Z0 gc1 2;have r3:=Z0 gc1 3;have r4:=Z0 gc1 4
 simp only[List.getElem?_toArray,List.getElem?_cons_zero,List.getElem?_cons_succ] at q0 r0 q1 r1 q2 r2 q3 r3 q4 r4
 rename_i Q K hK
 refine hK _ _ ?_
 clear hK
 go_wp2_with fail
 refine(Z59 [0,3] 2 0 rfl (by decide) v_m2 B _ _ (hM0.ext ((hc1.alloc _))) (hS0.ext ((hc1.alloc _))) (Z0V (l:=[0,3]) (by simp only[Z3,Z2];exact if_pos trivial) rfl)).mono ?_
 rintro e w2 ⟨rfl,hE⟩
 have hs2:Ext w1 w2:=((Ext.rfl' w1).alloc _).trans hE
 have gs2:=hs2.get gs1;have gc2:=hs2.get gc1
 have hc2:=hc1.trans hs2
 clear hE
 have hlt2:=Z5 gc2;have hlu2:=Z5 gs2
 clear hlt1 hlu1
 clear q0 r0 q1 r1 q2 r2 q3 r3 q4 r4
 have q0:=Z0 gs2 0;have q1:=Z0 gs2 1;have q2:=Z0 gs2 2;have q3:=Z0 gs2 3;have q4:=Z0 gs2 4
 have r0:=Z0 gc2 0;have r1:=Z0 gc2 1;have r2:=Z0 gc2 2;have r3:=Z0 gc2 3;have r4:=Z0 gc2 4
 simp only[List.getElem?_toArray,List.getElem?_cons_zero,List.getElem?_cons_succ] at q0 r0 q1 r1 q2 r2 q3 r3 q4 r4
 rename_i Q K hK
 refine hK _ _ ?_
 clear hK
 go_wp2_with fail
 refine(Z59 [0,6] 2 2 rfl (by decide) v_m3 B _ _ (hM0.ext ((hc2.alloc _))) (hS0.ext ((hc2.alloc _))) (Z0V (l:=[0,6]) (by simp only[Z3,Z2];exact if_pos trivial) rfl)).mono ?_
 rintro e w3 ⟨rfl,hE⟩
 have hs3:Ext w2 w3:=((Ext.rfl' w2).alloc _).trans hE
 have gs3:=hs3.get gs2;have gc3:=hs3.get gc2
 have hc3:=hc2.trans hs3
 clear hE
 have hlt3:=Z5 gc3;have hlu3:=Z5 gs3
 clear hlt2 hlu2
 clear q0 r0 q1 r1 q2 r2 q3 r3 q4 r4
 have q0:=Z0 gs3 0;have q1:=Z0 gs3 1;have q2:=Z0 gs3 2;have q3:=Z0 gs3 3;have q4:=Z0 gs3 4
 have r0:=Z0 gc3 0;have r1:=Z0 gc3 1;have r2:=Z0 gc3 2;have r3:=Z0 gc3 3;have r4:=Z0 gc3 4
 simp only[List.getElem?_toArray,List.getElem?_cons_zero,List.getElem?_cons_succ] at q0 r0 q1 r1 q2 r2 q3 r3 q4 r4
 rename_i Q K hK
 refine hK _ _ ?_
 clear hK
 go_wp2_with fail
 refine(Zc9 B _ _ (hM0.ext ((hc3.alloc _))) (hS0.ext ((hc3.alloc _))) (Z0V (l:=[0,2,3]) (by simp only[Z3,Z2];exact if_pos trivial) rfl)).mono ?_
 rintro e w4 ⟨v9,rfl,hv9,hE⟩
 have hs4:Ext w3 w4:=((Ext.rfl' w3).alloc _).trans hE
 have gs4:=hs4.get gs3;have gc4:=hs4.get gc3
 have hc4:=hc3.trans hs4
 obtain⟨a9,c9,rfl,hr9⟩:=hv9.rawAp
 rw[v_ap.2.2]
 clear hE
 have hlt4:=Z5 gc4;have hlu4:=Z5 gs4
 clear hlt3 hlu3
 clear q0 r0 q1 r1 q2 r2 q3 r3 q4 r4
 have q0:=Z0 gs4 0;have q1:=Z0 gs4 1;have q2:=Z0 gs4 2;have q3:=Z0 gs4 3;have q4:=Z0 gs4 4
 have r0:=Z0 gc4 0;have r1:=Z0 gc4 1;have r2:=Z0 gc4 2;have r3:=Z0 gc4 3;have r4:=Z0 gc4 4
 simp only[List.getElem?_toArray,List.getElem?_cons_zero,List.getElem?_cons_succ] at q0 r0 q1 r1 q2 r2 q3 r3 q4 r4
 rename_i Q K hK
 refine hK _ _ ?_
 clear hK
 go_wp2_with fail
 refine(ZdC B _ (hM0.ext hc4) (hS0.ext hc4)).mono ?_
 rintro e w5 ⟨v11,v12,rfl,hv11,hv12,hE⟩
 have hs5:Ext w4 w5:=hE
 have gs5:=hs5.get gs4;have gc5:=hs5.get gc4
 have hc5:=hc4.trans hs5
 obtain⟨a11,c11,rfl,hr11⟩:=hv11.rawL (by decide)
 obtain⟨a12,c12,rfl,hr12,hx12⟩:=hv12.rawI
 clear hx12
 clear hE
 have hlt5:=Z5 gc5;have hlu5:=Z5 gs5
 clear hlt4 hlu4
 clear q0 r0 q1 r1 q2 r2 q3 r3 q4 r4
 have q0:=Z0 gs5 0;have q1:=Z0 gs5 1;have q2:=Z0 gs5 2;have q3:=Z0 gs5 3;have q4:=Z0 gs5 4
 have r0:=Z0 gc5 0;have r1:=Z0 gc5 1;have r2:=Z0 gc5 2;have r3:=Z0 gc5 3;have r4:=Z0 gc5 4
 simp only[List.getElem?_toArray,List.getElem?_cons_zero,List.getElem?_cons_succ] at q0 r0 q1 r1 q2 r2 q3 r3 q4 r4
 rename_i Q K hK
 refine hK _ _ ?_
 clear hK
 go_wp2_with fail
 refine(Z8I B _ (hM0.ext hc5) (hS0.ext hc5)).mono ?_
 rintro e w6 ⟨rfl,hE⟩
 have hs6:Ext w5 w6:=hE
 have gs6:=hs6.get gs5;have gc6:=hs6.get gc5
 have hc6:=hc5.trans hs6
 clear hE
 have hlt6:=Z5 gc6;have hlu6:=Z5 gs6
 clear hlt5 hlu5
 clear q0 r0 q1 r1 q2 r2 q3 r3 q4 r4
 have q0:=Z0 gs6 0;have q1:=Z0 gs6 1;have q2:=Z0 gs6 2;have q3:=Z0 gs6 3;have q4:=Z0 gs6 4
 have r0:=Z0 gc6 0;have r1:=Z0 gc6 1;have r2:=Z0 gc6 2;have r3:=Z0 gc6 3;have r4:=Z0 gc6 4
 simp only[List.getElem?_toArray,List.getElem?_cons_zero,List.getElem?_cons_succ] at q0 r0 q1 r1 q2 r2 q3 r3 q4 r4
 rename_i Q K hK
 refine hK _ _ ?_
 clear hK
 go_wp2_with fail
 refine(ZdD D _ (hC0.ext hc6)).mono ?_
 rintro e w7 ⟨rfl,hE⟩
 have hs7:Ext w6 w7:=hE
 have gs7:=hs7.get gs6;have gc7:=hs7.get gc6
 have hc7:=hc6.trans hs7
 clear hE
 have hlt7:=Z5 gc7;have hlu7:=Z5 gs7
 clear hlt6 hlu6
 clear q0 r0 q1 r1 q2 r2 q3 r3 q4 r4
 have q0:=Z0 gs7 0;have q1:=Z0 gs7 1;have q2:=Z0 gs7 2;have q3:=Z0 gs7 3;have q4:=Z0 gs7 4
 have r0:=Z0 gc7 0;have r1:=Z0 gc7 1;have r2:=Z0 gc7 2;have r3:=Z0 gc7 3;have r4:=Z0 gc7 4
 simp only[List.getElem?_toArray,List.getElem?_cons_zero,List.getElem?_cons_succ] at q0 r0 q1 r1 q2 r2 q3 r3 q4 r4
 rename_i Q K hK
 refine hK _ _ ?_
 clear hK
 go_wp2_with fail
 refine(ZaK 30 93 100 rfl v_mk1 D _ (hC0.ext ((hc7.alloc _))) (hm0.ext ((hc7.alloc _)))).mono ?_
 rintro e w8 ⟨rfl,hE⟩
 have hs8:Ext w7 w8:=((Ext.rfl' w7).alloc _).trans hE
 have gs8:=hs8.get gs7;have gc8:=hs8.get gc7
 have hc8:=hc7.trans hs8
 have gp8:w8.heap[w7.heap.size]? =some (.cells #[.int .i64 93,.int .i64 102] 48):=hE.get (by simp only[Z3,Z2];exact if_pos trivial)
 clear hE
 have hlt8:=Z5 gc8;have hlu8:=Z5 gs8
 clear hlt7 hlu7
 clear q0 r0 q1 r1 q2 r2 q3 r3 q4 r4
 have q0:=Z0 gs8 0;have q1:=Z0 gs8 1;have q2:=Z0 gs8 2;have q3:=Z0 gs8 3;have q4:=Z0 gs8 4
 have r0:=Z0 gc8 0;have r1:=Z0 gc8 1;have r2:=Z0 gc8 2;have r3:=Z0 gc8 3;have r4:=Z0 gc8 4
 simp only[List.getElem?_toArray,List.getElem?_cons_zero,List.getElem?_cons_succ] at q0 r0 q1 r1 q2 r2 q3 r3 q4 r4
 rename_i Q K hK
 refine hK _ _ ?_
 clear hK
 go_wp2_with fail
 refine(ZaK 25 73 80 rfl v_mk2 D _ (hC0.ext ((hc8.alloc _))) (hm0.ext ((hc8.alloc _)))).mono ?_
 rintro e w9 ⟨rfl,hE⟩
 have hs9:Ext w8 w9:=((Ext.rfl' w8).alloc _).trans hE
 have gs9:=hs9.get gs8;have gc9:=hs9.get gc8
 have hc9:=hc8.trans hs9
 have gp9:w9.heap[w8.heap.size]? =some (.cells #[.int .i64 93,.int .i64 100] 48):=hE.get (by simp only[Z3,Z2];exact if_pos trivial)
 clear hE
 have hlt9:=Z5 gc9;have hlu9:=Z5 gs9
 clear hlt8 hlu8
 clear q0 r0 q1 r1 q2 r2 q3 r3 q4 r4
 have q0:=Z0 gs9 0;have q1:=Z0 gs9 1;have q2:=Z0 gs9 2;have q3:=Z0 gs9 3;have q4:=Z0 gs9 4
 have r0:=Z0 gc9 0;have r1:=Z0 gc9 1;have r2:=Z0 gc9 2;have r3:=Z0 gc9 3;have r4:=Z0 gc9 4
 simp only[List.getElem?_toArray,List.getElem?_cons_zero,List.getElem?_cons_succ] at q0 r0 q1 r1 q2 r2 q3 r3 q4 r4
 rename_i Q K hK
 refine hK _ _ ?_
 clear hK
 go_wp2_with fail
 refine(ZaL 4 1 rfl v_h1 D _ (hC0.ext ((hc9.alloc _))) (hm0.ext ((hc9.alloc _)))).mono ?_
 rintro e w10 ⟨rfl,hE⟩
 have hs10:Ext w9 w10:=((Ext.rfl' w9).alloc _).trans hE
 have gs10:=hs10.get gs9;have gc10:=hs10.get gc9
 have hc10:=hc9.trans hs10
 have gp10:w10.heap[w9.heap.size]? =some (.cells #[.int .i64 73,.int .i64 80] 48):=hE.get (by simp only[Z3,Z2];exact if_pos trivial)
 clear hE
 have hlt10:=Z5 gc10;have hlu10:=Z5 gs10
 clear hlt9 hlu9
 clear q0 r0 q1 r1 q2 r2 q3 r3 q4 r4
 have q0:=Z0 gs10 0;have q1:=Z0 gs10 1;have q2:=Z0 gs10 2;have q3:=Z0 gs10 3;have q4:=Z0 gs10 4
 have r0:=Z0 gc10 0;have r1:=Z0 gc10 1;have r2:=Z0 gc10 2;have r3:=Z0 gc10 3;have r4:=Z0 gc10 4
 simp only[List.getElem?_toArray,List.getElem?_cons_zero,List.getElem?_cons_succ] at q0 r0 q1 r1 q2 r2 q3 r3 q4 r4
 rename_i Q K hK
 refine hK _ _ ?_
 clear hK
 go_wp2_with fail
 refine(ZaL 3 0 rfl v_h2 D _ (hC0.ext hc10) (hm0.ext hc10)).mono ?_
 rintro e w11 ⟨rfl,hE⟩
 have hs11:Ext w10 w11:=hE
 have gs11:=hs11.get gs10;have gc11:=hs11.get gc10
 have hc11:=hc10.trans hs11
 clear hE
 have hlt11:=Z5 gc11;have hlu11:=Z5 gs11
 clear hlt10 hlu10
 clear q0 r0 q1 r1 q2 r2 q3 r3 q4 r4
 have q0:=Z0 gs11 0;have q1:=Z0 gs11 1;have q2:=Z0 gs11 2;have q3:=Z0 gs11 3;have q4:=Z0 gs11 4
 have r0:=Z0 gc11 0;have r1:=Z0 gc11 1;have r2:=Z0 gc11 2;have r3:=Z0 gc11 3;have r4:=Z0 gc11 4
 simp only[List.getElem?_toArray,List.getElem?_cons_zero,List.getElem?_cons_succ] at q0 r0 q1 r1 q2 r2 q3 r3 q4 r4
 rename_i Q K hK
 refine hK _ _ ?_
 clear hK
 go_wp2_with fail
 refine(ZdE D _ (hC0.ext hc11) (hm0.ext hc11)).mono ?_
 rintro e w12 ⟨rfl,hE⟩
 have hs12:Ext w11 w12:=hE
 have gs12:=hs12.get gs11;have gc12:=hs12.get gc11
 have hc12:=hc11.trans hs12
 clear hE
 have hlt12:=Z5 gc12;have hlu12:=Z5 gs12
 clear hlt11 hlu11
 clear q0 r0 q1 r1 q2 r2 q3 r3 q4 r4
 have q0:=Z0 gs12 0;have q1:=Z0 gs12 1;have q2:=Z0 gs12 2;have q3:=Z0 gs12 3;have q4:=Z0 gs12 4
 have r0:=Z0 gc12 0;have r1:=Z0 gc12 1;have r2:=Z0 gc12 2;have r3:=Z0 gc12 3;have r4:=Z0 gc12 4
 simp only[List.getElem?_toArray,List.getElem?_cons_zero,List.getElem?_cons_succ] at q0 r0 q1 r1 q2 r2 q3 r3 q4 r4
 rename_i Q K hK
 refine hK _ _ ?_
 clear hK
 go_wp2_with fail
 refine(ZaM D _ (hC0.ext hc12) (hm0.ext hc12)).mono ?_
 rintro e w13 ⟨rfl,hE⟩
 have hs13:Ext w12 w13:=hE
 have gs13:=hs13.get gs12;have gc13:=hs13.get gc12
 have hc13:=hc12.trans hs13
 clear hE
 have hlt13:=Z5 gc13;have hlu13:=Z5 gs13
 clear hlt12 hlu12
 clear q0 r0 q1 r1 q2 r2 q3 r3 q4 r4
 have q0:=Z0 gs13 0;have q1:=Z0 gs13 1;have q2:=Z0 gs13 2;have q3:=Z0 gs13 3;have q4:=Z0 gs13 4
 have r0:=Z0 gc13 0;have r1:=Z0 gc13 1;have r2:=Z0 gc13 2;have r3:=Z0 gc13 3;have r4:=Z0 gc13 4
 simp only[List.getElem?_toArray,List.getElem?_cons_zero,List.getElem?_cons_succ] at q0 r0 q1 r1 q2 r2 q3 r3 q4 r4
 rename_i Q K hK
 refine hK _ _ ?_
 clear hK
 have hsz13:=hc13.size
 have hDW:∀W,Ext w13 W→∀(j:Nat) u,(exS.flatMap rsC)[j]? =some u→W.cell? ((⟨D,0,none⟩:Addr).add j)=some u:=by
  intro W hW j u hu
  rw[Z0c,Z0 (hW.get (hc13.get hDe)),←Array.getElem?_toList]
  exact hu
 go_wp2_with (
  at_builtin
  go_loud (refine wpList_append_own _ rfl _ _ _ rfl (w13.heap.size+1+1) 80 Tryz.t80 (.agg #[.int .i64 0,.int .i64 0,.int .i64 0,.int .i64 0,.int .i64 0]) 5 40 u68 i80 t80z t80s t80b rfl (by omega) (.slice (some ⟨w13.heap.size+1+1,0,none⟩) 0 0) 0 [] rfl (Zcd (by simp only[Z3,Z2];exact if_pos trivial) (Nat.le_refl _)) ⟨D,0,none⟩ 3 3 (exS.flatMap rsC) rfl rfl (hDW _ ((((Ext.rfl' w13).alloc _).alloc _).alloc _)) (by decide) (by simp[maxLen]) (by omega) (by simp only[Z2];omega) ?_)
  intro v' w14 hown14 hgrow14 _
  obtain⟨g14,cp14,rfl,hg14,hg14'⟩:=World.ownsRow.form hown14 (by omega)
  have hE14:Ext w13 w14:=Ext.grown ((((Ext.rfl' w13).alloc _).alloc _).alloc _) hgrow14 (fun k hk=>by simp[Value.ownBlock] at hk<;>omega)
  have gp14:w14.heap[w13.heap.size]? =some (.cells #[.int .i64 38,.int .i64 48] 48):=Z0m hgrow14 (fun e=>by simp[Value.ownBlock] at e<;>omega) (by simp only[Z3,Z2];rw[if_neg (by omega),if_neg (by omega),if_pos trivial])
  have gk14:w14.heap[w13.heap.size+1]? =some (.cells #[.int .i64 2,.int .i64 4,.int .i64 1,.int .i64 2,.slice (some ⟨D,0,none⟩) 3 3] 70):=Z0m hgrow14 (fun e=>by simp[Value.ownBlock] at e<;>omega) (by simp only[Z3,Z2];rw[if_neg (by omega),if_pos trivial])
  clear hgrow14)
 refine(Z3P _ _ _).mono ?_
 rintro e w15 ⟨rfl,hs15⟩
 have hE15:=hE14.trans hs15
 have gp15:=hs15.get gp14;have gk15:=hs15.get gk14
 have hown15:=Z00 hown14 hs15
 rename_i Q K hK
 refine hK _ _ ?_
 clear hK
 go_wp2_with (
  at_builtin
  go_loud (refine wpList_append_own _ rfl _ _ _ rfl (w13.heap.size+1+1) 80 Tryz.t80 (.agg #[.int .i64 0,.int .i64 0,.int .i64 0,.int .i64 0,.int .i64 0]) 5 40 u68 i80 t80z t80s t80b rfl (by omega) (.slice (some ⟨g14,0,none⟩) 3 cp14) 3 (exS.flatMap rsC) rfl (hown15.alloc _) ⟨w15.heap.size,0,none⟩ 1 1 (rsC ⟨20,70,70,0,0⟩) rfl rfl ?_ (by decide) (by simp[maxLen]) (by omega) (by simp only[Z2];have:=hs15.size;omega) ?_)
  ·intro j u hu
   rw[Z0c,Z0 (by rw[Z3,if_pos rfl]),←Array.getElem?_toList]
   exact hu
  intro v' w16 hown16 hgrow16 _
  obtain⟨g16,c16,cur,rfl,hg16,hh16,ht16⟩:∃g c cur,v'= .slice (some ⟨g,0,none⟩) (3+1) c∧w13.heap.size+1+1≤g∧w16.heap[g]? =some (.cells cur 80)∧cur.toList.take ((3+1)*5)=exS.flatMap rsC++rsC ⟨20,70,70,0,0⟩:=by
   obtain⟨_,⟨_,h⟩|⟨g,c,cur,h1,h2,h3,_,_,_,h4⟩⟩:=hown16
   ·omega
   ·exact⟨g,c,cur,h1,h2,h3,h4⟩
  have hE16:Ext w13 w16:=Ext.grown (hE15.alloc _) hgrow16 (fun k hk=>by simp[Value.ownBlock] at hk<;>omega)
  have gp16:w16.heap[w13.heap.size]? =some (.cells #[.int .i64 38,.int .i64 48] 48):=Z0m hgrow16 (fun e=>by simp[Value.ownBlock] at e<;>omega) (((Ext.rfl' w15).alloc _).get gp15)
  have gk16:w16.heap[w13.heap.size+1]? =some (.cells #[.int .i64 2,.int .i64 4,.int .i64 1,.int .i64 2,.slice (some ⟨D,0,none⟩) 3 3] 70):=Z0m hgrow16 (fun e=>by simp[Value.ownBlock] at e<;>omega) (((Ext.rfl' w15).alloc _).get gk15)
  clear hgrow16
  have y0:=Z0 gk16 0;have y1:=Z0 gk16 1;have y2:=Z0 gk16 2;have y3:=Z0 gk16 3;have y4:=Z0 gk16 4
  have z4:=Z8 gk16 4
  have hlt16:=Z5 gk16
  simp only[List.getElem?_toArray,List.getElem?_cons_zero,List.getElem?_cons_succ] at y0 y1 y2 y3 y4)
 have hEs:=hE16.setCell ⟨w13.heap.size+1,4,none⟩ (.slice (some ⟨g16,0,none⟩) 4 c16) (by simp only;omega)
 have hgs:(w16.setCell ⟨w13.heap.size+1,4,none⟩ (.slice (some ⟨g16,0,none⟩) 4 c16)).heap[g16]? =some (.cells cur 80):=(set_ne (by simp only;omega) _).trans hh16
 have gks:=Zb gk16 (i:=4) (.slice (some ⟨g16,0,none⟩) 4 c16)
 have gps:(w16.setCell ⟨w13.heap.size+1,4,none⟩ (.slice (some ⟨g16,0,none⟩) 4 c16)).heap[w13.heap.size]? =some (.cells #[.int .i64 38,.int .i64 48] 48):=(set_ne (by simp only;omega) _).trans gp16
 replace gks:(w16.setCell ⟨w13.heap.size+1,4,none⟩ (.slice (some ⟨g16,0,none⟩) 4 c16)).heap[w13.heap.size+1]? =some (.cells #[.int .i64 2,.int .i64 4,.int .i64 1,.int .i64 2,.slice (some ⟨g16,0,none⟩) 4 c16] 70):=gks
 generalize (w16.setCell ⟨w13.heap.size+1,4,none⟩ (.slice (some ⟨g16,0,none⟩) 4 c16))=ws at hEs hgs gks gps⊢
 have hcs:=hc13.trans hEs
 refine(Zca g16 c16 ws (Z6Y (L:=exS4) hgs (ht16.trans (by rfl))) (hm0.ext hcs) (hd0.ext hcs)).mono ?_
 rintro e w17 ⟨v33,rfl,hv33,hs17⟩
 obtain⟨a33,c33,rfl,hr33,hx33⟩:=hv33.rawI
 have gk17:=hs17.get gks
 have gp17:=hs17.get gps
 have hg17:=hs17.get hgs
 have hc17:=hcs.trans hs17
 clear hx33 y0 y1 y2 y3 y4 z4
 have y0:=Z0 gk17 0;have y1:=Z0 gk17 1;have y2:=Z0 gk17 2;have y3:=Z0 gk17 3;have y4:=Z0 gk17 4
 simp only[List.getElem?_toArray,List.getElem?_cons_zero,List.getElem?_cons_succ] at y0 y1 y2 y3 y4
 rename_i Q K hK
 refine hK _ _ ?_
 clear hK
 go_wp2_with fail
 refine(Zcb g16 c16 w17 (Z6Y (L:=exS4) hg17 (ht16.trans (by rfl))) (hm0.ext hc17) (hd0.ext hc17)).mono ?_
 rintro e w18 ⟨v35,rfl,hv35,hs18⟩
 obtain⟨a35,c35,rfl,hr35,hx35⟩:=hv35.rawI
 have hr33z:=hr33.ext hs18
 have hE18:=hEs.trans (hs17.trans hs18)
 have hE12:=hs13.trans hE18;have hE11:=hs12.trans hE12;have hE10:=hs11.trans hE11;have hE9:=hs10.trans hE10;have hE8:=hs9.trans hE9;have hE7:=hs8.trans hE8;have hE6:=hs7.trans hE7;have hE5:=hs6.trans hE6;have hE4:=hs5.trans hE5
 have hr9z:=hr9.ext hE4;have hr11z:=hr11.ext hE5;have hr12z:=hr12.ext hE5
 have gp8z:=hE8.get gp8;have gp9z:=hE9.get gp9;have gp10z:=hE10.get gp10;have gp18z:=hs18.get gp17
 have hcz:=hc17.trans hs18
 clear hx35 y0 y1 y2 y3 y4 q0 q1 q2 q3 q4 r0 r1 r2 r3 r4 hE4 hE5 hE6 hE7 hE8 hE9 hE10 hE11 hE12 hs1 hs2 hs3 hs4 hs5 hs6 hs7 hs8 hs9 hs10 hs11 hs12 hs13 hc1 hc2 hc3 hc4 hc5 hc6 hc7 hc8 hc9 hc10 hc11 hc12
 rename_i Q K hK
 refine hK _ _ ?_
 clear hK
 go_wp2_with fail
 refine(Z25 a9 3 c9 (Z0Q 10 2 5 3 exL [0,2,3]) _ 3 3 exA _ v_ap.2.2 rfl (by decide) (hr9z.ext ((Ext.rfl' w18).alloc _)) (ZaN (by simp only[Z3,Z2];exact if_pos trivial) rfl)).mono ?_
 rintro e w19 ⟨rfl,hE⟩
 have hs19:=((Ext.rfl' w18).alloc _).trans hE
 rw[v_ap.1]
 clear hE
 rename_i Q K hK
 refine hK _ _ ?_
 clear hK
 go_wp2_with fail
 refine(Z55 a11 2 c11 [[0,1,2],[3,4,5]] _ 2 2 [[0,1,2],[3,4,5]] _ rfl rfl (by decide) (hr11z.ext (((hs19.alloc _).alloc _).alloc _)) (Zcc (b:=w19.heap.size) (by simp only[Z3,Z2];rw[if_neg (by omega),if_neg (by omega),if_pos trivial]) (by simp only[Z3,Z2];rw[if_neg (by omega),if_pos trivial]) (by simp only[Z3,Z2];exact if_pos trivial))).mono ?_
 rintro e w20 ⟨rfl,hE⟩
 have hs20:=hs19.trans (((((Ext.rfl' w19).alloc _).alloc _).alloc _).trans hE)
 rw[show decide (([[0,1,2],[3,4,5]]:List (List Int))=[[0,1,2],[3,4,5]])=true from by decide]
 clear hE
 rename_i Q K hK
 refine hK _ _ ?_
 clear hK
 go_wp2_with fail
 refine(Z1d a12 1 c12 [6] _ 1 1 [6] _ rfl rfl (by decide) (hr12z.ext (hs20.alloc _)) (Z0V (by simp only[Z3,Z2];exact if_pos trivial) rfl)).mono ?_
 rintro e w21 ⟨rfl,hE⟩
 have hs21:=hs20.trans (((Ext.rfl' w20).alloc _).trans hE)
 rw[show decide (([6]:List Int)=[6])=true from by decide]
 clear hE
 rename_i Q K hK
 refine hK _ _ ?_
 clear hK
 go_wp2_with fail
 obtain⟨w1,hw1⟩:∃w1:World,w1=w21:=⟨_,rfl⟩
 have gp8w:=hs21.get gp8z;have gp9w:=hs21.get gp9z;have gp10w:=hs21.get gp10z;have gp18w:=hs21.get gp18z
 have hr33w:=hr33z.ext hs21;have hr35w:=hr35.ext hs21
 have hcw:=hcz.trans hs21
 rw[←hw1] at gp8w gp9w gp10w gp18w hr33w hr35w hcw⊢
 clear hw1
 refine Z03 (by kernel_rfl) (by kernel_rfl) (RI 274 [some 226,some 227,some 228,some 229,some 230,some 231,some 232,some 233,some 234,some 235,some 236,some 237,some 238,some 239,some 240,some 241,some 242,some 243,some 244,some 245,some 246,some 247,some 248,some 249,some 250,some 251,some 252,some 253,some 254,some 255,some 256,some 257,some 258,some 259,some 260,some 261,some 262,some 263,some 264,some 265,some 266,some 267,some 268,some 269,some 270,some 271,some 272,some 273,some 0] [some (.agg #[.int .i64 93,.int .i64 102]),some (.agg #[.int .i64 93,.int .i64 102]),some (.bool true),some (.bool true),some (.agg #[.int .i64 93,.int .i64 100]),some (.agg #[.int .i64 93,.int .i64 100]),some (.bool true),some (.bool true),some (.bool true),some (.agg #[.int .i64 73,.int .i64 80]),some (.agg #[.int .i64 73,.int .i64 80]),some (.bool true),some (.bool true),some (.bool true),some (.int .i64 1),some (.bool true),some (.bool true),some (.bool true),some (.int .i64 0),some (.bool true),some (.bool true),some (.bool true),some (.int .i64 76),some (.bool true),some (.bool true),some (.bool true),some (.int .i64 4),some (.bool true),some (.bool true),some (.bool true),some (.int .i64 14),some (.bool true),some (.bool true),some (.bool true),some (.agg #[.int .i64 38,.int .i64 48]),some (.agg #[.int .i64 38,.int .i64 48]),some (.bool true),some (.bool true),some (.bool true),some (.slice a33 2 c33),none,some (.bool true),some (.bool true),some (.bool true),some (.slice a35 3 c35),none,some (.bool true),some (.bool true),some (.bool true)] _ (Sxs w1 [⟨40,266,2,#[.int .i64 1,.int .i64 3],3⟩,⟨45,271,3,#[.int .i64 0,.int .i64 1,.int .i64 2],3⟩])) (RI.start rfl rfl (Sxs.start w1 _ _)) (AllIx.arr ⟨?_,?_,?_,?_,?_,?_,?_,?_,?_,?_,?_,?_,?_,?_,?_,?_,?_,?_,?_,?_,?_,?_,?_,?_,?_,?_,?_,?_,?_,?_,?_,?_,?_,?_,?_,?_,?_,?_,?_,?_,?_,?_,?_,?_,?_,?_,?_,?_,?_,trivial⟩) ?_
 ·intro ℓ aq W hl hp h
  have e16:aq.tmps.getD 16 undef= .pointer (some ⟨w7.heap.size,0,none⟩):=h.at_out 16 rfl
  have c0:=h.mem.1.cellS (by rw[Z0 gp8w];rfl:w1.cell? ⟨_,0,none⟩=some (.int .i64 93))
  have c1:=h.mem.1.cellS (by rw[Z0 gp8w];rfl:w1.cell? ⟨_,1,none⟩=some (.int .i64 102))
  exact h.dg (hg:=Z4 rfl) (r:=by simp[go_sem,execOp,Act.eval,e16,c0,c1]) (m:=h.mem.k)
 ·intro ℓ aq W hl hp h
  refine h.callG rfl (Z4 rfl) rfl (by decide) rfl (by decide) (f:=34) (args:= #[.int .i64 93,.int .i64 102]) (by simp[go_sem,execOp,Act.eval,]) ?_
  refine(Z3P 93 102 W).mono ?_
  rintro e W' ⟨rfl,hE⟩
  exact⟨.agg #[.int .i64 93,.int .i64 102],rfl,(fun v' hv=>Option.some.inj (Option.some.inj hv)),h.mem.keep hE rfl⟩
 ·intro ℓ aq W hl hp h
  have e226:=h.v hp 0 226
  have e227:=h.v hp 1 227
  exact h.dg (hg:=Z4 rfl) (r:=by simp[go_sem,execOp,Act.eval,e226,e227]) (m:=h.mem.k)
 ·intro ℓ aq W hl hp h
  have e228:=h.v hp 2 228
  exact h.dg (hg:=Z4 rfl) (r:=by simp[go_sem,execOp,Act.eval,e228]) (m:=h.mem.k)
 ·intro ℓ aq W hl hp h
  have e18:aq.tmps.getD 18 undef= .pointer (some ⟨w8.heap.size,0,none⟩):=h.at_out 18 rfl
  have c0:=h.mem.1.cellS (by rw[Z0 gp9w];rfl:w1.cell? ⟨_,0,none⟩=some (.int .i64 93))
  have c1:=h.mem.1.cellS (by rw[Z0 gp9w];rfl:w1.cell? ⟨_,1,none⟩=some (.int .i64 100))
  exact h.dg (hg:=Z9 rfl rfl rfl h.size (by decide) (h.v hp 3 229)) (r:=by simp[go_sem,execOp,Act.eval,e18,c0,c1]) (m:=h.mem.k)
 ·intro ℓ aq W hl hp h
  refine h.callG rfl (Z9 rfl rfl rfl h.size (by decide) (h.v hp 3 229)) rfl (by decide) rfl (by decide) (f:=34) (args:= #[.int .i64 93,.int .i64 100]) (by simp[go_sem,execOp,Act.eval,]) ?_
  refine(Z3P 93 100 W).mono ?_
  rintro e W' ⟨rfl,hE⟩
  exact⟨.agg #[.int .i64 93,.int .i64 100],rfl,(fun v' hv=>Option.some.inj (Option.some.inj hv)),h.mem.keep hE rfl⟩
 ·intro ℓ aq W hl hp h
  have e230:=h.v hp 4 230
  have e231:=h.v hp 5 231
  exact h.dg (hg:=Z9 rfl rfl rfl h.size (by decide) (h.v hp 3 229)) (r:=by simp[go_sem,execOp,Act.eval,e230,e231]) (m:=h.mem.k)
 ·intro ℓ aq W hl hp h
  have e229:=h.v hp 3 229
  have e232:=h.v hp 6 232
  exact h.dg (hg:=Z4 rfl) (r:=by simp[go_sem,execOp,Act.eval,e229,e232]) (m:=h.mem.k)
 ·intro ℓ aq W hl hp h
  have e233:=h.v hp 7 233
  exact h.dg (hg:=Z4 rfl) (r:=by simp[go_sem,execOp,Act.eval,e233]) (m:=h.mem.k)
 ·intro ℓ aq W hl hp h
  have e20:aq.tmps.getD 20 undef= .pointer (some ⟨w9.heap.size,0,none⟩):=h.at_out 20 rfl
  have c0:=h.mem.1.cellS (by rw[Z0 gp10w];rfl:w1.cell? ⟨_,0,none⟩=some (.int .i64 73))
  have c1:=h.mem.1.cellS (by rw[Z0 gp10w];rfl:w1.cell? ⟨_,1,none⟩=some (.int .i64 80))
  exact h.dg (hg:=Z9 rfl rfl rfl h.size (by decide) (h.v hp 8 234)) (r:=by simp[go_sem,execOp,Act.eval,e20,c0,c1]) (m:=h.mem.k)
 ·intro ℓ aq W hl hp h
  refine h.callG rfl (Z9 rfl rfl rfl h.size (by decide) (h.v hp 8 234)) rfl (by decide) rfl (by decide) (f:=34) (args:= #[.int .i64 73,.int .i64 80]) (by simp[go_sem,execOp,Act.eval,]) ?_
  refine(Z3P 73 80 W).mono ?_
  rintro e W' ⟨rfl,hE⟩
  exact⟨.agg #[.int .i64 73,.int .i64 80],rfl,(fun v' hv=>Option.some.inj (Option.some.inj hv)),h.mem.keep hE rfl⟩
 ·intro ℓ aq W hl hp h
  have e235:=h.v hp 9 235
  have e236:=h.v hp 10 236
  exact h.dg (hg:=Z9 rfl rfl rfl h.size (by decide) (h.v hp 8 234)) (r:=by simp[go_sem,execOp,Act.eval,e235,e236]) (m:=h.mem.k)
 ·intro ℓ aq W hl hp h
  have e234:=h.v hp 8 234
  have e237:=h.v hp 11 237
  exact h.dg (hg:=Z4 rfl) (r:=by simp[go_sem,execOp,Act.eval,e234,e237]) (m:=h.mem.k)
 ·intro ℓ aq W hl hp h
  have e238:=h.v hp 12 238
  exact h.dg (hg:=Z4 rfl) (r:=by simp[go_sem,execOp,Act.eval,e238]) (m:=h.mem.k)
 ·intro ℓ aq W hl hp h
  have e22:aq.tmps.getD 22 undef= .int .i64 1:=h.at_out 22 rfl
  exact h.dg (hg:=Z9 rfl rfl rfl h.size (by decide) (h.v hp 13 239)) (r:=by simp[go_sem,execOp,Act.eval,e22]) (m:=h.mem.k)
 ·intro ℓ aq W hl hp h
  have e240:=h.v hp 14 240
  exact h.dg (hg:=Z9 rfl rfl rfl h.size (by decide) (h.v hp 13 239)) (r:=by simp[go_sem,execOp,Act.eval,e240]) (m:=h.mem.k)
 ·intro ℓ aq W hl hp h
  have e239:=h.v hp 13 239
  have e241:=h.v hp 15 241
  exact h.dg (hg:=Z4 rfl) (r:=by simp[go_sem,execOp,Act.eval,e239,e241]) (m:=h.mem.k)
 ·intro ℓ aq W hl hp h
  have e242:=h.v hp 16 242
  exact h.dg (hg:=Z4 rfl) (r:=by simp[go_sem,execOp,Act.eval,e242]) (m:=h.mem.k)
 ·intro ℓ aq W hl hp h
  have e24:aq.tmps.getD 24 undef= .int .i64 0:=h.at_out 24 rfl
  exact h.dg (hg:=Z9 rfl rfl rfl h.size (by decide) (h.v hp 17 243)) (r:=by simp[go_sem,execOp,Act.eval,e24]) (m:=h.mem.k)
 ·intro ℓ aq W hl hp h
  have e244:=h.v hp 18 244
  exact h.dg (hg:=Z9 rfl rfl rfl h.size (by decide) (h.v hp 17 243)) (r:=by simp[go_sem,execOp,Act.eval,e244]) (m:=h.mem.k)
 ·intro ℓ aq W hl hp h
  have e243:=h.v hp 17 243
  have e245:=h.v hp 19 245
  exact h.dg (hg:=Z4 rfl) (r:=by simp[go_sem,execOp,Act.eval,e243,e245]) (m:=h.mem.k)
 ·intro ℓ aq W hl hp h
  have e246:=h.v hp 20 246
  exact h.dg (hg:=Z4 rfl) (r:=by simp[go_sem,execOp,Act.eval,e246]) (m:=h.mem.k)
 ·intro ℓ aq W hl hp h
  have e26:aq.tmps.getD 26 undef= .int .i64 76:=h.at_out 26 rfl
  exact h.dg (hg:=Z9 rfl rfl rfl h.size (by decide) (h.v hp 21 247)) (r:=by simp[go_sem,execOp,Act.eval,e26]) (m:=h.mem.k)
 ·intro ℓ aq W hl hp h
  have e248:=h.v hp 22 248
  exact h.dg (hg:=Z9 rfl rfl rfl h.size (by decide) (h.v hp 21 247)) (r:=by simp[go_sem,execOp,Act.eval,e248]) (m:=h.mem.k)
 ·intro ℓ aq W hl hp h
  have e247:=h.v hp 21 247
  have e249:=h.v hp 23 249
  exact h.dg (hg:=Z4 rfl) (r:=by simp[go_sem,execOp,Act.eval,e247,e249]) (m:=h.mem.k)
 ·intro ℓ aq W hl hp h
  have e250:=h.v hp 24 250
  exact h.dg (hg:=Z4 rfl) (r:=by simp[go_sem,execOp,Act.eval,e250]) (m:=h.mem.k)
 ·intro ℓ aq W hl hp h
  have e27:aq.tmps.getD 27 undef= .int .i64 4:=h.at_out 27 rfl
  exact h.dg (hg:=Z9 rfl rfl rfl h.size (by decide) (h.v hp 25 251)) (r:=by simp[go_sem,execOp,Act.eval,e27]) (m:=h.mem.k)
 ·intro ℓ aq W hl hp h
  have e252:=h.v hp 26 252
  exact h.dg (hg:=Z9 rfl rfl rfl h.size (by decide) (h.v hp 25 251)) (r:=by simp[go_sem,execOp,Act.eval,e252]) (m:=h.mem.k)
 ·intro ℓ aq W hl hp h
  have e251:=h.v hp 25 251
  have e253:=h.v hp 27 253
  exact h.dg (hg:=Z4 rfl) (r:=by simp[go_sem,execOp,Act.eval,e251,e253]) (m:=h.mem.k)
 ·intro ℓ aq W hl hp h
  have e254:=h.v hp 28 254
  exact h.dg (hg:=Z4 rfl) (r:=by simp[go_sem,execOp,Act.eval,e254]) (m:=h.mem.k)
 ·intro ℓ aq W hl hp h
  have e29:aq.tmps.getD 29 undef= .int .i64 14:=h.at_out 29 rfl
  exact h.dg (hg:=Z9 rfl rfl rfl h.size (by decide) (h.v hp 29 255)) (r:=by simp[go_sem,execOp,Act.eval,e29]) (m:=h.mem.k)
 ·intro ℓ aq W hl hp h
  have e256:=h.v hp 30 256
  exact h.dg (hg:=Z9 rfl rfl rfl h.size (by decide) (h.v hp 29 255)) (r:=by simp[go_sem,execOp,Act.eval,e256]) (m:=h.mem.k)
 ·intro ℓ aq W hl hp h
  have e255:=h.v hp 29 255
  have e257:=h.v hp 31 257
  exact h.dg (hg:=Z4 rfl) (r:=by simp[go_sem,execOp,Act.eval,e255,e257]) (m:=h.mem.k)
 ·intro ℓ aq W hl hp h
  have e258:=h.v hp 32 258
  exact h.dg (hg:=Z4 rfl) (r:=by simp[go_sem,execOp,Act.eval,e258]) (m:=h.mem.k)
 ·intro ℓ aq W hl hp h
  have e30:aq.tmps.getD 30 undef= .pointer (some ⟨w13.heap.size,0,none⟩):=h.at_out 30 rfl
  have c0:=h.mem.1.cellS (by rw[Z0 gp18w];rfl:w1.cell? ⟨_,0,none⟩=some (.int .i64 38))
  have c1:=h.mem.1.cellS (by rw[Z0 gp18w];rfl:w1.cell? ⟨_,1,none⟩=some (.int .i64 48))
  exact h.dg (hg:=Z9 rfl rfl rfl h.size (by decide) (h.v hp 33 259)) (r:=by simp[go_sem,execOp,Act.eval,e30,c0,c1]) (m:=h.mem.k)
 ·intro ℓ aq W hl hp h
  refine h.callG rfl (Z9 rfl rfl rfl h.size (by decide) (h.v hp 33 259)) rfl (by decide) rfl (by decide) (f:=34) (args:= #[.int .i64 38,.int .i64 48]) (by simp[go_sem,execOp,Act.eval,]) ?_
  refine(Z3P 38 48 W).mono ?_
  rintro e W' ⟨rfl,hE⟩
  exact⟨.agg #[.int .i64 38,.int .i64 48],rfl,(fun v' hv=>Option.some.inj (Option.some.inj hv)),h.mem.keep hE rfl⟩
 ·intro ℓ aq W hl hp h
  have e260:=h.v hp 34 260
  have e261:=h.v hp 35 261
  exact h.dg (hg:=Z9 rfl rfl rfl h.size (by decide) (h.v hp 33 259)) (r:=by simp[go_sem,execOp,Act.eval,e260,e261]) (m:=h.mem.k)
 ·intro ℓ aq W hl hp h
  have e259:=h.v hp 33 259
  have e262:=h.v hp 36 262
  exact h.dg (hg:=Z4 rfl) (r:=by simp[go_sem,execOp,Act.eval,e259,e262]) (m:=h.mem.k)
 ·intro ℓ aq W hl hp h
  have e263:=h.v hp 37 263
  exact h.dg (hg:=Z4 rfl) (r:=by simp[go_sem,execOp,Act.eval,e263]) (m:=h.mem.k)
 ·intro ℓ aq W hl hp h
  have e33:aq.tmps.getD 33 undef= .slice a33 2 c33:=h.at_out 33 rfl
  exact h.dg (hg:=Z9 rfl rfl rfl h.size (by decide) (h.v hp 38 264)) (r:=by simp[go_sem,execOp,Act.eval,e33]) (m:=h.mem.k)
 ·intro ℓ aq W hl hp h
  exact h.detG rfl (Z9 rfl rfl rfl h.size (by decide) (h.v hp 38 264)) rfl (by decide) rfl (by decide) (fun v' hv=>by simp at hv) (by simp[go_sem,execOp,Act.eval,]) (h.mem.make (c:=⟨40,266,2,#[.int .i64 1,.int .i64 3],3⟩) rfl (by intro e he hs;simp only[List.mem_cons,List.not_mem_nil,or_false] at he;rcases he with rfl|rfl<;>first|exact⟨rfl,rfl,rfl⟩|(simp at hs)))
 ·intro ℓ aq W hl hp h
  have e265:=h.v hp 39 265
  obtain⟨b9,x9,l9,m9⟩:=h.mem.2 ⟨40,266,2,#[.int .i64 1,.int .i64 3],3⟩ (by simp) (hp 40 (by decide))
  replace x9:aq.tmps.getD 266 undef= .slice (some ⟨b9,0,none⟩) 2 2:=x9
  refine h.callG rfl (Z9 rfl rfl rfl h.size (by decide) (h.v hp 38 264)) rfl (by decide) rfl (by decide) (f:=58) (args:= #[.slice a33 2 c33,.slice (some ⟨b9,0,none⟩) 2 2]) (by simp[go_sem,execOp,Act.eval,e265,x9]) ?_
  refine(Z1d a33 2 c33 [1,3] (some ⟨b9,0,none⟩) 2 2 [1,3] W rfl rfl (by decide) (hr33w.ext h.mem.1) (Z0V m9 rfl)).mono ?_
  rintro e W' ⟨rfl,hE⟩
  exact⟨_,rfl,(fun v' hv=>by rw[←Option.some.inj (Option.some.inj hv)];rfl),h.mem.keep hE rfl⟩
 ·intro ℓ aq W hl hp h
  have e264:=h.v hp 38 264
  have e267:=h.v hp 41 267
  exact h.dg (hg:=Z4 rfl) (r:=by simp[go_sem,execOp,Act.eval,e264,e267]) (m:=h.mem.k)
 ·intro ℓ aq W hl hp h
  have e268:=h.v hp 42 268
  exact h.dg (hg:=Z4 rfl) (r:=by simp[go_sem,execOp,Act.eval,e268]) (m:=h.mem.k)
 ·intro ℓ aq W hl hp h
  have e35:aq.tmps.getD 35 undef= .slice a35 3 c35:=h.at_out 35 rfl
  exact h.dg (hg:=Z9 rfl rfl rfl h.size (by decide) (h.v hp 43 269)) (r:=by simp[go_sem,execOp,Act.eval,e35]) (m:=h.mem.k)
 ·intro ℓ aq W hl hp h
  exact h.detG rfl (Z9 rfl rfl rfl h.size (by decide) (h.v hp 43 269)) rfl (by decide) rfl (by decide) (fun v' hv=>by simp at hv) (by simp[go_sem,execOp,Act.eval,]) (h.mem.make (c:=⟨45,271,3,#[.int .i64 0,.int .i64 1,.int .i64 2],3⟩) rfl (by intro e he hs;simp only[List.mem_cons,List.not_mem_nil,or_false] at he;rcases he with rfl|rfl<;>first|exact⟨rfl,rfl,rfl⟩|(simp at hs)))
 ·intro ℓ aq W hl hp h
  have e270:=h.v hp 44 270
  obtain⟨b9,x9,l9,m9⟩:=h.mem.2 ⟨45,271,3,#[.int .i64 0,.int .i64 1,.int .i64 2],3⟩ (by simp) (hp 45 (by decide))
  replace x9:aq.tmps.getD 271 undef= .slice (some ⟨b9,0,none⟩) 3 3:=x9
  refine h.callG rfl (Z9 rfl rfl rfl h.size (by decide) (h.v hp 43 269)) rfl (by decide) rfl (by decide) (f:=58) (args:= #[.slice a35 3 c35,.slice (some ⟨b9,0,none⟩) 3 3]) (by simp[go_sem,execOp,Act.eval,e270,x9]) ?_
  refine(Z1d a35 3 c35 [0,1,2] (some ⟨b9,0,none⟩) 3 3 [0,1,2] W rfl rfl (by decide) (hr35w.ext h.mem.1) (Z0V m9 rfl)).mono ?_
  rintro e W' ⟨rfl,hE⟩
  exact⟨_,rfl,(fun v' hv=>by rw[←Option.some.inj (Option.some.inj hv)];rfl),h.mem.keep hE rfl⟩
 ·intro ℓ aq W hl hp h
  have e269:=h.v hp 43 269
  have e272:=h.v hp 46 272
  exact h.dg (hg:=Z4 rfl) (r:=by simp[go_sem,execOp,Act.eval,e269,e272]) (m:=h.mem.k)
 ·intro ℓ aq W hl hp h
  have e273:=h.v hp 47 273
  exact h.dg (hg:=Z4 rfl) (r:=by simp[go_sem,execOp,Act.eval,e273]) (m:=h.mem.k)
 ·intro ℓ aq W hall h
  have e0:aq.tmps.getD 0 undef= .bool true:=h.vals 48 0 _ rfl rfl (hall 48 (by decide))
  have hEf:=hEw.trans (hcw.trans h.mem.1)
  go_wp2
  refine bodyPost_ret (results_tmp rfl _ _ _) h.defers ?_
  exact⟨by rw[e0],hEf⟩
end Go.Proofs.Tryq
namespace Go.Proofs.Tryq
set_option maxRecDepth 100000
set_option maxHeartbeats 2000000
open Go Go.Nk Go.RowKit
def Z1B(L:List Sf):Bool:=decide (20<L.length)||L.any fun x=>decide (100<x.nm.size)
theorem ZaR(a b c m:Int)(base:Option Addr)(n cap:Nat)(L:List Sf)(w:World)(hlen:L.length=n)(hS:RawA w base L):
 Calls prog 21 #[.agg #[.int .i64 a,.int .i64 b,.int .i64 c,.int .i64 m,.slice base n cap]] w fun e w'=>e= .returned (.bool (Z1B L))∧Ext w w':=by
 by_cases h20:20<L.length
 ·have hz:Z1B L=true:=by rw[Z1B,decide_eq_true h20,Bool.true_or]
  have hn:(20:Int)<(n:Int):=by omega
  rw[hz]
  clear h20 hz
  go_enter func21,ntmps21
  go_wp2
  go_ret
  exact⟨rfl,(Ext.rfl' w).alloc _⟩
 ·have hn:(n:Int)≤20:=by omega
  have H:Hid (Z1B L=(L.drop 0).any fun x=>decide (100<x.nm.size)):=by show _=_;rw[Z1B,decide_eq_false h20,Bool.false_or];rfl
  clear h20
  go_enter func21,ntmps21
  go_wp2
  go_loopw [3] (fun v wr=>∃i:Nat,i≤n∧v= .int .i64 i∧wr.heap[w.heap.size]? =some (.cells #[.int .i64 a,.int .i64 b,.int .i64 c,.int .i64 m,.slice base n cap] 26)∧Ext w wr∧Hid (Z1B L=(L.drop i).any fun x=>decide (100<x.nm.size))) (fun v _=>n - (intOf v).toNat)
  case atStart=>exact⟨0,Nat.zero_le _,rfl,by rw[Z3,if_pos rfl],(Ext.rfl' w).alloc _,H⟩
  case round=>
   obtain⟨i,hi,rfl,hr,hE,hH⟩:=hrel
   clear H
   have q4:=Z0 hr 4
   simp only[List.getElem?_toArray,List.getElem?_cons_zero,List.getElem?_cons_succ] at q4
   by_cases hin:i=n
   ·subst hin
    have hz:Z1B L=false:=by rw[hH.out,←hlen,List.drop_length];rfl
    go_wp2
    go_ret
    exact⟨ZP (a:=false) hz.symm,hE⟩
   ·have hlt:i<n:=by omega
    obtain⟨x,hx⟩:∃x,L[i]? =some x:=⟨_,List.getElem?_eq_getElem (by omega)⟩
    obtain⟨b',off,rfl,hb,hs,hnm⟩:=(hS.ext hE) i x hx
    have k0:=hs.1
    have hst:Hid (Z1B L=(decide (100<x.nm.size)||(L.drop (i+1)).any fun x=>decide (100<x.nm.size))):=by show _=_;rw[hH.out,Z0b hx,List.any_cons]
    clear hH hx
    unfold maxLen at hnm
    have hin2:¬n≤i:=by omega
    by_cases h1:100<x.nm.size
    ·have hz:Z1B L=true:=by rw[hst.out,decide_eq_true h1,Bool.true_or]
     have h1':(100:Int)<(x.nm.size:Int):=by omega
     clear hst h1
     go_wp2
     go_ret
     exact⟨ZP (a:=true) hz.symm,hE⟩
    ·have hH2:Hid (Z1B L=(L.drop (i+1)).any fun x=>decide (100<x.nm.size)):=by show _=_;rw[hst.out,decide_eq_false h1,Bool.false_or]
     have h1':(x.nm.size:Int)≤100:=by omega
     clear hst h1
     go_wp2
     exact⟨⟨i+1,by omega,by push_cast;rfl,hr,hE,hH2⟩,by simp[intOf];omega⟩
def Zfc(a b c m:Int)(L:List Sf):Bool:= !Z1B L&&(Zp a b c m L==0)
theorem Zfd(a b c m:Int)(base:Option Addr)(n cap:Nat)(L:List Sf)(w:World)(hlen:L.length=n)(hS:RawA w base L):
 Calls prog 30 #[.agg #[.int .i64 a,.int .i64 b,.int .i64 c,.int .i64 m,.slice base n cap]] w fun e w'=>e= .returned (.bool (Zfc a b c m L))∧Ext w w':=by
 have hgr:=fun W hW=>ZaR a b c m base n cap L W hlen (hS.ext hW)
 cases hg:Z1B L with
 |true=>
  have hf:Zfc a b c m L=false:=by simp[Zfc,hg]
  simp only[hg] at hgr
  rw[hf]
  go_enter func30,ntmps30
  go_wp2_with (first
   |(go_at_call 21;refine(hgr _ ((Ext.rfl' w).alloc _)).mono ?_;rintro e w2 ⟨rfl,hE2⟩
     have hE3:=((Ext.rfl' w).alloc _).trans hE2))
  go_ret
  exact⟨rfl,hE3⟩
 |false=>
  have hn:n≤20:=by
   rw[←hlen]
   simp only[Z1B,Bool.or_eq_false_iff,decide_eq_false_iff_not] at hg
   omega
  have hf:Zfc a b c m L=(Zp a b c m L==0):=by simp[Zfc,hg]
  simp only[hg] at hgr
  have hc:=fun W hW=>Z1P a b c m base n cap L W hlen (by omega) (hS.ext hW)
  rw[hf]
  clear hg hf
  go_enter func30,ntmps30
  go_wp2_with (first
   |(go_at_call 21;refine(hgr _ ((Ext.rfl' w).alloc _)).mono ?_;rintro e w2 ⟨rfl,hE2⟩
     have hE3:=((Ext.rfl' w).alloc _).trans hE2
     have hb:=hE2.get (b:=w.heap.size) (o:= .cells #[.int .i64 a,.int .i64 b,.int .i64 c,.int .i64 m,.slice base n cap] 26) ((Z3 _ _ _).trans (if_pos rfl))
     have q0:=Z0 hb 0;have q1:=Z0 hb 1;have q2:=Z0 hb 2;have q3:=Z0 hb 3;have q4:=Z0 hb 4
     simp only[List.getElem?_toArray,List.getElem?_cons_zero,List.getElem?_cons_succ] at q0 q1 q2 q3 q4)
   |(go_at_call 26;refine(hc _ hE3).mono ?_;rintro e w3 ⟨rfl,hE4⟩))
  go_ret
  exact⟨rfl,hE3.trans hE4⟩
def Zfg(v:Int)(i:Nat):Bool:=bits BinOp.and IntKind.u16 (v / 2 ^ min i 16) 1==1
def ZeL(v:Int)(n:Nat):List Int:=((List.range n).filter (Zfg v)).map fun(i:Nat)=>(i:Int)
theorem ZeH(v:Int)(i:Nat):ZeL v (i+1)=ZeL v i++(if Zfg v i then[(i:Int)] else[]):=by
 unfold ZeL
 rw[List.range_succ,List.filter_append,List.map_append]
 congr 1
 cases h:Zfg v i<;>simp[h]
theorem ZeN(v:Int)(i:Nat):(ZeL v i).length≤i:=by
 have:=List.length_filter_le (Zfg v) (List.range i)
 simpa[ZeL] using this
theorem ZeT(a b c m v:Int)(base:Option Addr)(n cap:Nat)(w:World)(hn:n≤20)(hv:0≤v∧v<65536):
 Calls prog 31 #[.agg #[.int .i64 a,.int .i64 b,.int .i64 c,.int .i64 m,.slice base n cap],.int .u16 v] w fun e w'=>∃x,e= .returned x∧OwnI w.heap.size w' x (ZeL v n)∧Ext w w':=by
 have hE0:=(Ext.rfl' w).alloc (.cells #[.int .i64 a,.int .i64 b,.int .i64 c,.int .i64 m,.slice base n cap] 26)
 have hr0:(w.alloc (.cells #[.int .i64 a,.int .i64 b,.int .i64 c,.int .i64 m,.slice base n cap] 26)).heap[w.heap.size]? =some (.cells #[.int .i64 a,.int .i64 b,.int .i64 c,.int .i64 m,.slice base n cap] 26):=by rw[Z3,if_pos rfl]
 obtain⟨N,hN⟩:∃N,N=w.heap.size+1:=⟨_,rfl⟩
 go_enter func31,ntmps31
 go_wp2
 go_loopw [5,6] (fun v5 v6 wr=>∃i:Nat,i≤n∧v6= .int .i64 i∧wr.heap[w.heap.size]? =some (.cells #[.int .i64 a,.int .i64 b,.int .i64 c,.int .i64 m,.slice base n cap] 26)∧OwnI N wr v5 (ZeL v i)∧Ext w wr) (fun _ v6 _=>n - (intOf v6).toNat)
 case atStart=>exact⟨0,Nat.zero_le _,rfl,hr0,World.ownsRow_nil _ _ _ _,hE0⟩
 case round=>
  rename_i v5 _
  obtain⟨i,hi,rfl,hr,hown,hE⟩:=hrel
  have q4:=Z0 hr 4
  simp only[List.getElem?_toArray,List.getElem?_cons_zero,List.getElem?_cons_succ] at q4
  clear hE0 hr0
  by_cases h0:i=n
  ·subst h0
   go_wp2
   go_ret
   exact⟨_,rfl,hown.le (by omega),hE⟩
  ·have hlt:i<n:=by omega
   have hlt2:(i:Int)<(n:Int):=by omega
   have hll:=ZeN v i
   have hst:=ZeH v i
   have hs:=hE.size
   have hs2:=Z5 hr
   obtain⟨l,hl⟩:∃l,l=ZeL v i:=⟨_,rfl⟩
   rw[←hl] at hown hll hst
   clear hl
   cases hb:Zfg v i with
   |true=>
    have hb2:(bits BinOp.and IntKind.u16 (v / 2 ^ min i 16) 1==1)=true:=hb
    rw[hb,if_pos rfl] at hst
    have H3:Hid (ZeL v (i+1)=l++[(i:Int)]):=hst
    clear hst hb
    go_wp2_with (
     at_builtin
     generalize Value.int IntKind.u16 (bits BinOp.and IntKind.u16 (v / 2 ^ min i 16) 1)=q1
     generalize Value.int IntKind.u16 (v / 2 ^ min i 16)=q2
     refine wpList_append_own _ rfl _ _ _ rfl N 3 Tryz.t3 (.int .i64 0) 1 8 u27 i3 t3z t3s t3b rfl (by omega) _ _ _ rfl (hown.alloc _) ⟨wr.heap.size,0,none⟩ 1 1 [.int .i64 i] rfl rfl (Z1N _ _ _) (by intro u hu;simp at hu;subst hu;rfl) (by(try simp[maxLen]);omega) (by(try simp);omega) (by(try simp only[Z2]);omega) ?_
     intro v' w3 hown3 hgrow3 _
     have hE3:Ext w w3:=(hE.alloc _).grown hgrow3 (fun k hk=>by have:=(hown.lt k hk).1;omega)
     have hr3:=(hgrow3.block w.heap.size (by(try simp only[Z2]);omega) (by intro e;have:=(hown.lt _ e.symm).1;omega)).trans (((Z3 wr _ w.heap.size).trans (if_neg (by omega))).trans hr))
    go_roundw
    case rel=>exact⟨i+1,by omega,by push_cast;rfl,hr3,by rw[H3.out];simpa[OwnI] using hown3,hE3⟩
    case measure=>simp[intOf];omega
   |false=>
    have hb2:(bits BinOp.and IntKind.u16 (v / 2 ^ min i 16) 1==1)=false:=hb
    rw[hb] at hst
    have H3:Hid (ZeL v (i+1)=l):=by rw[Hid,hst];simp
    clear hst hb
    go_wp2
    go_roundw
    case rel=>exact⟨i+1,by omega,by push_cast;rfl,hr,by rw[H3.out];exact hown,hE⟩
    case measure=>simp[intOf];omega
end Go.Proofs.Tryq
