import Derived.Test.YtedkbdkbbnemlaaGreatDoorNk27
set_option linter.all false
namespace Go.Proofs.Tryq
set_option maxRecDepth 100000
set_option maxHeartbeats 4000000
open Go Go.Nk Go.RowKit
theorem Z7J(w:World)(a:Addr)(v:Value):(w.setCell a v).heap.size=w.heap.size:=(Go.Conc.aside_setCell w a v).size
def exL:List Sf:=[⟨⟨#[97]⟩,400,405,700,700,250,252⟩,⟨⟨#[98]⟩,404,408,701,701,251,251⟩,⟨⟨#[99]⟩,398,402,700,701,249,250⟩,⟨⟨#[100]⟩,409,412,700,700,255,255⟩,⟨⟨#[101]⟩,402,402,702,702,252,254⟩,⟨⟨#[102]⟩,405,406,701,702,253,253⟩,⟨⟨#[103]⟩,450,450,700,700,250,250⟩]
def exC:Array Value:=(exL.flatMap fun x=>(sfC x).toList).toArray
theorem exC_eq:exC= #[.string ⟨#[97]⟩,.int .i64 400,.int .i64 405,.int .i64 700,.int .i64 700,.int .i64 250,.int .i64 252,.string ⟨#[98]⟩,.int .i64 404,.int .i64 408,.int .i64 701,.int .i64 701,.int .i64 251,.int .i64 251,.string ⟨#[99]⟩,.int .i64 398,.int .i64 402,.int .i64 700,.int .i64 701,.int .i64 249,.int .i64 250,.string ⟨#[100]⟩,.int .i64 409,.int .i64 412,.int .i64 700,.int .i64 700,.int .i64 255,.int .i64 255,.string ⟨#[101]⟩,.int .i64 402,.int .i64 402,.int .i64 702,.int .i64 702,.int .i64 252,.int .i64 254,.string ⟨#[102]⟩,.int .i64 405,.int .i64 406,.int .i64 701,.int .i64 702,.int .i64 253,.int .i64 253,.string ⟨#[103]⟩,.int .i64 450,.int .i64 450,.int .i64 700,.int .i64 700,.int .i64 250,.int .i64 250]:=by rfl
theorem Z6U(w:World):Calls prog 84 #[] w fun e w'=>∃B,e= .returned (.agg #[.int .i64 10,.int .i64 2,.int .i64 5,.int .i64 3,.slice (some ⟨B,0,none⟩) 7 7])∧w'.heap[B]? =some (.cells exC 51)∧Ext w w':=by
 have hEc:=Ext.rfl' (w.alloc (.cells #[.int .i64 0,.int .i64 0,.int .i64 0,.int .i64 0,.slice none 0 0] 26))
 have hg0:(w.alloc (.cells #[.int .i64 0,.int .i64 0,.int .i64 0,.int .i64 0,.slice none 0 0] 26)).heap[w.heap.size]? =some (.cells #[.int .i64 0,.int .i64 0,.int .i64 0,.int .i64 0,.slice none 0 0] 26):=by rw[Z3,if_pos rfl]
 go_enter func84,ntmps84
 go_wp2_with (
  go_at_call 34;refine(Z3P _ _ _).mono ?_;rintro e w2 ⟨rfl,hE2⟩
  replace hEc:=hEc.trans hE2
  clear hE2
  (try clear z0 z1 z2 z3 z4 y0 y1 y2 y3 y4 hlt0)
  have hlt0:=Z5 (hEc.get hg0)
  have z0:=Z8 (hEc.get hg0) 0;have z1:=Z8 (hEc.get hg0) 1;have z2:=Z8 (hEc.get hg0) 2;have z3:=Z8 (hEc.get hg0) 3;have z4:=Z8 (hEc.get hg0) 4
  have y0:=Z0 (hEc.get hg0) 0;have y1:=Z0 (hEc.get hg0) 1;have y2:=Z0 (hEc.get hg0) 2;have y3:=Z0 (hEc.get hg0) 3;have y4:=Z0 (hEc.get hg0) 4
  simp only[List.getElem?_toArray,List.getElem?_cons_zero,List.getElem?_cons_succ] at y0 y1 y2 y3 y4)
 have hEw:Ext w w2:=((Ext.rfl' w).alloc _).trans hEc
 have hb3:=(Zb (Zb (Zb (Zb (Zb (hEc.get hg0) (i:=0) (.int .i64 10)) (i:=1) (.int .i64 2)) (i:=2) (.int .i64 5)) (i:=3) (.int .i64 3)) (i:=4) (.slice (some ⟨w2.heap.size,0,none⟩) 7 7))
 have hE9:=(((((hEw.setCell ⟨w.heap.size,0,none⟩ (.int .i64 10) (Nat.le_refl _)).setCell ⟨w.heap.size,1,none⟩ (.int .i64 2) (Nat.le_refl _)).setCell ⟨w.heap.size,2,none⟩ (.int .i64 5) (Nat.le_refl _)).setCell ⟨w.heap.size,3,none⟩ (.int .i64 3) (Nat.le_refl _)).setCell ⟨w.heap.size,4,none⟩ (.slice (some ⟨w2.heap.size,0,none⟩) 7 7) (Nat.le_refl _))
 have hs9:w2.heap.size=(((((w2.setCell ⟨w.heap.size,0,none⟩ (.int .i64 10)).setCell ⟨w.heap.size,1,none⟩ (.int .i64 2)).setCell ⟨w.heap.size,2,none⟩ (.int .i64 5)).setCell ⟨w.heap.size,3,none⟩ (.int .i64 3)).setCell ⟨w.heap.size,4,none⟩ (.slice (some ⟨w2.heap.size,0,none⟩) 7 7)).heap.size:=by simp only[Z7J]
 have hn9:w2.heap.size≠w.heap.size:=by omega
 generalize World.setCell _ _ _=w9 at hb3 hE9 hs9⊢
 have hb4:=((Ext.rfl' w9).alloc (.cells exC 51)).get hb3
 have s0:=Z0 hb4 0;have s1:=Z0 hb4 1;have s2:=Z0 hb4 2;have s3:=Z0 hb4 3;have s4:=Z0 hb4 4
 simp at s0 s1 s2 s3 s4
 rw[←exC_eq]
 refine bodyPost_ret (v:= .agg #[.int .i64 10,.int .i64 2,.int .i64 5,.int .i64 3,.slice (some ⟨w2.heap.size,0,none⟩) 7 7]) ((Z07 rfl _ _ _).trans ?_) rfl ⟨w2.heap.size,rfl,by rw[Z3,if_pos hs9],hE9.alloc _⟩
 simp[go_sem,s0,s1,s2,s3,s4]
def exS:List Rs:=[⟨10,30,32,0,0⟩,⟨20,55,60,0,0⟩,⟨30,96,99,1,1⟩]
def rsC(x:Rs):List Value:=[.int .i64 x.a,.int .i64 x.m,.int .i64 x.M,.int .i64 x.wi,.int .i64 x.li]
def exD:Array Value:=(exS.flatMap rsC).toArray
theorem exD_eq:exD= #[.int .i64 10,.int .i64 30,.int .i64 32,.int .i64 0,.int .i64 0,.int .i64 20,.int .i64 55,.int .i64 60,.int .i64 0,.int .i64 0,.int .i64 30,.int .i64 96,.int .i64 99,.int .i64 1,.int .i64 1]:=by rfl
theorem Zar(w:World):Calls prog 85 #[] w fun e w'=>∃B,e= .returned (.agg #[.int .i64 2,.int .i64 4,.int .i64 1,.int .i64 2,.slice (some ⟨B,0,none⟩) 3 3])∧w'.heap[B]? =some (.cells exD 80)∧Ext w w':=by
 have hEc:=Ext.rfl' (w.alloc (.cells #[.int .i64 0,.int .i64 0,.int .i64 0,.int .i64 0,.slice none 0 0] 70))
 have hg0:(w.alloc (.cells #[.int .i64 0,.int .i64 0,.int .i64 0,.int .i64 0,.slice none 0 0] 70)).heap[w.heap.size]? =some (.cells #[.int .i64 0,.int .i64 0,.int .i64 0,.int .i64 0,.slice none 0 0] 70):=by rw[Z3,if_pos rfl]
 go_enter func85,ntmps85
 go_wp2_with (
  go_at_call 34;refine(Z3P _ _ _).mono ?_;rintro e w2 ⟨rfl,hE2⟩
  replace hEc:=hEc.trans hE2
  clear hE2
  (try clear z0 z1 z2 z3 z4 y0 y1 y2 y3 y4 hlt0)
  have hlt0:=Z5 (hEc.get hg0)
  have z0:=Z8 (hEc.get hg0) 0;have z1:=Z8 (hEc.get hg0) 1;have z2:=Z8 (hEc.get hg0) 2;have z3:=Z8 (hEc.get hg0) 3;have z4:=Z8 (hEc.get hg0) 4
  have y0:=Z0 (hEc.get hg0) 0;have y1:=Z0 (hEc.get hg0) 1;have y2:=Z0 (hEc.get hg0) 2;have y3:=Z0 (hEc.get hg0) 3;have y4:=Z0 (hEc.get hg0) 4
  simp only[List.getElem?_toArray,List.getElem?_cons_zero,List.getElem?_cons_succ] at y0 y1 y2 y3 y4)
 have hEw:Ext w w2:=((Ext.rfl' w).alloc _).trans hEc
 have hb3:=(Zb (Zb (Zb (Zb (Zb (hEc.get hg0) (i:=0) (.int .i64 2)) (i:=1) (.int .i64 4)) (i:=2) (.int .i64 1)) (i:=3) (.int .i64 2)) (i:=4) (.slice (some ⟨w2.heap.size,0,none⟩) 3 3))
 have hE9:=(((((hEw.setCell ⟨w.heap.size,0,none⟩ (.int .i64 2) (Nat.le_refl _)).setCell ⟨w.heap.size,1,none⟩ (.int .i64 4) (Nat.le_refl _)).setCell ⟨w.heap.size,2,none⟩ (.int .i64 1) (Nat.le_refl _)).setCell ⟨w.heap.size,3,none⟩ (.int .i64 2) (Nat.le_refl _)).setCell ⟨w.heap.size,4,none⟩ (.slice (some ⟨w2.heap.size,0,none⟩) 3 3) (Nat.le_refl _))
 have hs9:w2.heap.size=(((((w2.setCell ⟨w.heap.size,0,none⟩ (.int .i64 2)).setCell ⟨w.heap.size,1,none⟩ (.int .i64 4)).setCell ⟨w.heap.size,2,none⟩ (.int .i64 1)).setCell ⟨w.heap.size,3,none⟩ (.int .i64 2)).setCell ⟨w.heap.size,4,none⟩ (.slice (some ⟨w2.heap.size,0,none⟩) 3 3)).heap.size:=by simp only[Z7J]
 have hn9:w2.heap.size≠w.heap.size:=by omega
 generalize World.setCell _ _ _=w9 at hb3 hE9 hs9⊢
 have hb4:=((Ext.rfl' w9).alloc (.cells exD 80)).get hb3
 have s0:=Z0 hb4 0;have s1:=Z0 hb4 1;have s2:=Z0 hb4 2;have s3:=Z0 hb4 3;have s4:=Z0 hb4 4
 simp at s0 s1 s2 s3 s4
 rw[←exD_eq]
 refine bodyPost_ret (v:= .agg #[.int .i64 2,.int .i64 4,.int .i64 1,.int .i64 2,.slice (some ⟨w2.heap.size,0,none⟩) 3 3]) ((Z07 rfl _ _ _).trans ?_) rfl ⟨w2.heap.size,rfl,by rw[Z3,if_pos hs9],hE9.alloc _⟩
 simp[go_sem,s0,s1,s2,s3,s4]
end Go.Proofs.Tryq
namespace Go.Proofs.Tryq
open Go Go.Nk Go.RowKit
def stkV(B:Nat):Value:= .agg #[.int .i64 10,.int .i64 2,.int .i64 5,.int .i64 3,.slice (some ⟨B,0,none⟩) 7 7]
def ZdA(D n c:Nat):Value:= .agg #[.int .i64 2,.int .i64 4,.int .i64 1,.int .i64 2,.slice (some ⟨D,0,none⟩) n c]
def exS4:List Rs:=exS++[⟨20,70,70,0,0⟩]
theorem v_open0:Zo 10 2 5 3 exL []=0:=by kernel_rfl
theorem v_m1:Z1M 10 2 5 3 exL [0,1,2]=1∧Zo 10 2 5 3 exL [0,1,2]=0:=⟨by kernel_rfl,by kernel_rfl⟩
theorem v_m2:Z1M 10 2 5 3 exL [0,3]=0∧Zo 10 2 5 3 exL [0,3]=0:=⟨by kernel_rfl,by kernel_rfl⟩
theorem v_m3:Z1M 10 2 5 3 exL [0,6]=2∧Zo 10 2 5 3 exL [0,6]=0:=⟨by kernel_rfl,by kernel_rfl⟩
def exA:List Ap:=[⟨0,3,0,0⟩,⟨2,3,0,0⟩,⟨2,3,2,0⟩]
theorem v_ap:apsB (Z0Q 10 2 5 3 exL [0,2,3]) exA=true∧Zo 10 2 5 3 exL [0,2,3]=0∧(Z0Q 10 2 5 3 exL [0,2,3]).length=3:=⟨by kernel_rfl,by kernel_rfl,by kernel_rfl⟩
theorem v_fill:Z66 10 2 5 3 exL=[[0,1,2],[3,4,5]]:=by kernel_rfl
theorem v_left:Z6T 10 2 5 3 exL=[6]:=by rw[Z6T,v_fill];kernel_rfl
theorem v_wot:Z1Y 10 2 5 3 exL 3=1∧Zo 10 2 5 3 exL [3]=0:=⟨by kernel_rfl,by kernel_rfl⟩
theorem v_card:ZC 2 4 1 2 exS=0:=by kernel_rfl
theorem v_card4:ZC 2 4 1 2 exS4=0:=by kernel_rfl
theorem v_wide:Zau 2 4 1 2 exS 2=(93,102)∧Z1e 2 4 1 2 exS 2=0:=⟨by kernel_rfl,by kernel_rfl⟩
theorem v_against:Z1r 2 4 1 2 (exS.map Ze)=0:=by
 have h:=Z6X (Zav v_card) (k:=7) (by decide)
 rw[Z1r]
 rw[List.length_map]
 rw[show((2:Int) ^ exS.length - 1)=((7:Nat):Int) from rfl,h,if_pos (by kernel_rfl)]
theorem ZdB(rs:List Int)(h:firstV (rs++[0,0])=0):firstV (Zy 2 4 1 2 exS rs)=0:=by
 have e:Zy 2 4 1 2 exS rs=0::(rs++[0,0]):=by rw[Zy,v_card,v_against];rfl
 rw[e,firstV,if_pos rfl]
 exact h
theorem ZaJ(a:Int)(h:Zv a=0):markF 2 4 1 2 exS a=0:=ZdB _ (by rw[h];rfl)
theorem v_mk1:markR 2 4 1 2 exS 30=(93,100):=by rw[markR,if_pos (ZaJ 30 rfl)];kernel_rfl
theorem v_mk2:markR 2 4 1 2 exS 25=(73,80):=by rw[markR,if_pos (ZaJ 25 rfl)];kernel_rfl
theorem v_hF(k:Int)(h:Z87 76 k=0):hitsF 2 4 1 2 exS 25 76 k=0:=ZdB _ (by rw[h];rfl)
theorem v_h1:Z6c 2 4 1 2 exS 25 76 4=1:=by rw[Z6c,if_pos (v_hF 4 rfl)];kernel_rfl
theorem v_h2:Z6c 2 4 1 2 exS 25 76 3=0:=by rw[Z6c,if_pos (v_hF 3 rfl)];kernel_rfl
theorem v_best:Z8H 2 4 1 2 exS 25=(76,4):=by rw[Z8H,if_pos (ZaJ 25 rfl)];kernel_rfl
theorem v_widF:Z1O 2 4 1 2 exS 10 30=0:=ZdB _ rfl
theorem v_wid:ZaT 2 4 1 2 exS 10 30=(14,38,48):=by rw[ZaT,if_pos v_widF];kernel_rfl
theorem v_clash:Z7L 2 4 1 2 exS4=[1,3]:=by rw[Zc5 (Zav v_card4)];kernel_rfl
theorem v_trust:Z7M 2 4 1 2 exS4=[0,1,2]:=by rw[Zc6 (Zav v_card4)];kernel_rfl
theorem Z59(l:List Int)(k:Nat)(s:Int)(hl:l.length=k)(hk:k≤100)(h:Z1M 10 2 5 3 exL l=s∧Zo 10 2 5 3 exL l=0)(B:Nat)(ad:Option Addr)(w:World)(hM:Meas w)(hS:RawA w (some ⟨B,0,none⟩) exL)(hI:RawI w ad l):
 Calls prog 23 #[stkV B,.slice ad k k] w fun e w'=>e= .returned (.tuple #[.int .i64 s,.int .i64 0])∧Ext w w':=by
 have h2:=Z5Y 10 2 5 3 (some ⟨B,0,none⟩) 7 7 exL ad k k l w rfl (by decide) hl (Nat.le_refl _) hk hM hS hI
 rw[h.1,h.2] at h2
 exact h2
theorem Zc9(B:Nat)(ad:Option Addr)(w:World)(hM:Meas w)(hS:RawA w (some ⟨B,0,none⟩) exL)(hI:RawI w ad [0,2,3]):
 Calls prog 27 #[stkV B,.slice ad 3 3] w fun e w'=>∃v,e= .returned (.tuple #[v,.int .i64 0])∧OwnAp w.heap.size w' v (Z0Q 10 2 5 3 exL [0,2,3])∧Ext w w':=by
 have h2:=Z5Z 10 2 5 3 (some ⟨B,0,none⟩) 7 7 exL ad 3 3 [0,2,3] w rfl (by decide) rfl (by decide) (by decide) hM hS hI
 rw[v_ap.2.1] at h2
 exact h2
theorem ZdC(B:Nat)(w:World)(hM:Meas w)(hS:RawA w (some ⟨B,0,none⟩) exL):
 Calls prog 37 #[stkV B] w fun e w'=>∃v1 v2,e= .returned (.tuple #[v1,v2,.int .i64 0])∧Shr w.heap.size w' v1 [[0,1,2],[3,4,5]]∧OwnI w.heap.size w' v2 [6]∧Ext w w':=by
 have h2:=ZbY 10 2 5 3 (some ⟨B,0,none⟩) 7 7 exL w rfl (by decide) hM hS
 rw[v_open0,v_fill,v_left] at h2
 exact h2
theorem Z8I(B:Nat)(w:World)(hM:Meas w)(hS:RawA w (some ⟨B,0,none⟩) exL):
 Calls prog 59 #[stkV B,.int .i64 3] w fun e w'=>e= .returned (.tuple #[.int .i64 1,.int .i64 0])∧Ext w w':=by
 have h2:=Z6S 10 2 5 3 (some ⟨B,0,none⟩) 7 7 exL 3 w rfl (by decide) hM hS
 rw[v_wot.1,v_wot.2] at h2
 exact h2
theorem ZdD(D:Nat)(w:World)(hS:RawS w (some ⟨D,0,none⟩) exS):
 Calls prog 49 #[ZdA D 3 3,.int .i64 2] w fun e w'=>e= .returned (.tuple #[.agg #[.int .i64 93,.int .i64 102],.int .i64 0])∧Ext w w':=by
 have h2:=Z69 2 4 1 2 (some ⟨D,0,none⟩) 3 3 exS 2 w rfl (by decide) hS
 rw[v_wide.1,v_wide.2] at h2
 exact h2
theorem ZaK(a x y:Int)(h:Zv a=0)(hx:markR 2 4 1 2 exS a=(x,y))(D:Nat)(w:World)(hS:RawS w (some ⟨D,0,none⟩) exS)(hm:Most w):
 Calls prog 45 #[ZdA D 3 3,.int .i64 a] w fun e w'=>e= .returned (.tuple #[.agg #[.int .i64 x,.int .i64 y],.int .i64 0])∧Ext w w':=by
 have h2:=Z86 2 4 1 2 (some ⟨D,0,none⟩) 3 3 w a exS rfl hS hm
 rw[hx,ZaJ a h] at h2
 exact h2
theorem ZaL(k s:Int)(h:Z87 76 k=0)(hx:Z6c 2 4 1 2 exS 25 76 k=s)(D:Nat)(w:World)(hS:RawS w (some ⟨D,0,none⟩) exS)(hm:Most w):
 Calls prog 53 #[ZdA D 3 3,.int .i64 25,.int .i64 76,.int .i64 k] w fun e w'=>e= .returned (.tuple #[.int .i64 s,.int .i64 0])∧Ext w w':=by
 have h2:=Zc7 2 4 1 2 (some ⟨D,0,none⟩) 3 3 w 25 76 k exS rfl hS hm
 rw[hx,v_hF k h] at h2
 exact h2
theorem ZdE(D:Nat)(w:World)(hS:RawS w (some ⟨D,0,none⟩) exS)(hm:Most w):
 Calls prog 51 #[ZdA D 3 3,.int .i64 25] w fun e w'=>e= .returned (.tuple #[.int .i64 76,.int .i64 4,.int .i64 0])∧Ext w w':=by
 have h2:=Zc8 2 4 1 2 (some ⟨D,0,none⟩) 3 3 w 25 exS rfl hS hm
 rw[v_best,ZaJ 25 rfl] at h2
 exact h2
theorem ZaM(D:Nat)(w:World)(hS:RawS w (some ⟨D,0,none⟩) exS)(hm:Most w):
 Calls prog 52 #[ZdA D 3 3,.int .i64 10,.int .i64 30] w fun e w'=>e= .returned (.tuple #[.int .i64 14,.agg #[.int .i64 38,.int .i64 48],.int .i64 0])∧Ext w w':=by
 have h2:=Z8G 2 4 1 2 (some ⟨D,0,none⟩) 3 3 w 10 30 exS rfl hS hm
 rw[v_wid,v_widF] at h2
 exact h2
theorem Zca(D c:Nat)(w:World)(hS:RawS w (some ⟨D,0,none⟩) exS4)(hm:Most w)(hd:Deb w):
 Calls prog 66 #[ZdA D 4 c] w fun e w'=>∃v,e= .returned (.tuple #[v,.int .i64 0])∧OwnI w.heap.size w' v [1,3]∧Ext w w':=by
 have h2:=Zas 2 4 1 2 (some ⟨D,0,none⟩) 4 c exS4 w rfl hS hm hd
 rw[v_clash,v_card4,if_pos rfl] at h2
 exact h2
theorem Zcb(D c:Nat)(w:World)(hS:RawS w (some ⟨D,0,none⟩) exS4)(hm:Most w)(hd:Deb w):
 Calls prog 68 #[ZdA D 4 c] w fun e w'=>∃v,e= .returned (.tuple #[v,.int .i64 0])∧OwnI w.heap.size w' v [0,1,2]∧Ext w w':=by
 have h2:=Zat 2 4 1 2 (some ⟨D,0,none⟩) 4 c exS4 w rfl hS hm hd
 rw[v_trust,v_card4,if_pos rfl] at h2
 exact h2
theorem Z0V{w:World}{b:Nat}{l:List Int}{C:Array Value}(h:w.heap[b]? =some (.cells C 3))(hC:C.toList=l.map (Value.int .i64)):RawI w (some ⟨b,0,none⟩) l:=by
 intro i y hy
 refine⟨b,0,rfl,Z5 h,?_⟩
 rw[Z0 h,Nat.zero_add,←Array.getElem?_toList,hC,List.getElem?_map,hy]
 rfl
theorem ZdF{w:World}{B:Nat}(h:w.heap[B]? =some (.cells exC 51)):RawA w (some ⟨B,0,none⟩) exL:=by
 intro i x hx
 have hi:i<7:=(List.getElem?_eq_some_iff.1 hx).1
 refine⟨B,0,rfl,Z5 h,?_,?_⟩
 ·match i,hi with
  |0,_|1,_|2,_|3,_|4,_|5,_|6,_=>
   obtain rfl:=Option.some.inj hx
   exact⟨by rw[Z0 h];rfl,by rw[Z0 h];rfl,by rw[Z0 h];rfl,by rw[Z0 h];rfl,by rw[Z0 h];rfl,by rw[Z0 h];rfl,by rw[Z0 h];rfl⟩
 ·match i,hi with
  |0,_|1,_|2,_|3,_|4,_|5,_|6,_=>
   obtain rfl:=Option.some.inj hx
   decide
theorem Z6Y{w:World}{B:Nat}{L:List Rs}{C:Array Value}(h:w.heap[B]? =some (.cells C 80))(hC:C.toList.take (L.length*5)=L.flatMap rsC):RawS w (some ⟨B,0,none⟩) L:=by
 have key:∀(L:List Rs)(i j:Nat)(x:Rs),L[i]? =some x→j<5→(L.flatMap rsC)[i*5+j]? =(rsC x)[j]? :=by
  intro L
  induction L with
  |nil=>intro i j x h;simp at h
  |cons y L ih=>
   intro i j x hx hj
   rw[List.flatMap_cons]
   have hl:(rsC y).length=5:=rfl
   cases i with
   |zero=>
    simp at hx
    subst hx
    rw[List.getElem?_append_left (by omega)]
    simp
   |succ i=>
    rw[List.getElem?_append_right (by omega),hl,show(i+1)*5+j - 5=i*5+j by omega]
    exact ih i j x (by simpa using hx) hj
 intro i x hx
 have hi:i<L.length:=(List.getElem?_eq_some_iff.1 hx).1
 have hc:∀j,j<5→w.cell? ⟨B,0+i*5+j,none⟩=(rsC x)[j]? :=by
  intro j hj
  rw[Z0 h,Nat.zero_add,←Array.getElem?_toList,←key L i j x hx hj,←hC,List.getElem?_take,if_pos (by omega)]
 exact⟨B,0,rfl,Z5 h,hc 0 (by omega),hc 1 (by omega),hc 2 (by omega),hc 3 (by omega),hc 4 (by omega)⟩
end Go.Proofs.Tryq
namespace Go.Proofs.Tryq
set_option maxRecDepth 100000
set_option maxHeartbeats 8000000
open Go Go.Nk Go.RowKit
theorem u68:prog.underlying 68=some (.slice 80):=(underlying_eq 68).trans Tryz.underlying68
theorem i80:prog.info? 80=some Tryz.t80:=by kernel_rfl
theorem t80z:Tryz.t80.zero=some (.agg #[.int .i64 0,.int .i64 0,.int .i64 0,.int .i64 0,.int .i64 0]):=by kernel_rfl
theorem t80s:Tryz.t80.size=5:=by kernel_rfl
theorem t80b:Tryz.t80.bytes=40:=by kernel_rfl
theorem ZaN{w:World}{b:Nat}{A:List Ap}{C:Array Value}(h:w.heap[b]? =some (.cells C 46))(hC:C.toList=A.flatMap apC):RawAp w (some ⟨b,0,none⟩) A:=by
 have key:∀(A:List Ap)(i j:Nat)(x:Ap),A[i]? =some x→j<4→(A.flatMap apC)[i*4+j]? =(apC x)[j]? :=by
  intro A
  induction A with
  |nil=>intro i j x h;simp at h
  |cons y A ih=>
   intro i j x hx hj
   rw[List.flatMap_cons]
   have hl:(apC y).length=4:=rfl
   cases i with
   |zero=>
    simp at hx
    subst hx
    rw[List.getElem?_append_left (by omega)]
    simp
   |succ i=>
    rw[List.getElem?_append_right (by omega),hl,show(i+1)*4+j - 4=i*4+j by omega]
    exact ih i j x (by simpa using hx) hj
 intro i x hx
 have hc:∀j,j<4→w.cell? ⟨b,0+i*4+j,none⟩=(apC x)[j]? :=by
  intro j hj
  rw[Z0 h,Nat.zero_add,←Array.getElem?_toList,hC,key A i j x hx hj]
 exact⟨b,0,rfl,Z5 h,hc 0 (by omega),hc 1 (by omega),hc 2 (by omega),hc 3 (by omega)⟩
theorem Zcc{w:World}{b:Nat}{x0 x1 x2 y0 y1 y2:Int}(h0:w.heap[b]? =some (.cells #[.int .i64 x0,.int .i64 x1,.int .i64 x2] 3))(h1:w.heap[b+1]? =some (.cells #[.int .i64 y0,.int .i64 y1,.int .i64 y2] 3))
 (h2:w.heap[b+1+1]? =some (.cells #[.slice (some ⟨b,0,none⟩) 3 3,.slice (some ⟨b+1,0,none⟩) 3 3] 27)):RawL w (some ⟨b+1+1,0,none⟩) [[x0,x1,x2],[y0,y1,y2]]:=by
 intro i l hl
 match i,hl with
 |0,hl=>
  obtain rfl:=Option.some.inj hl
  exact⟨b+1+1,0,_,3,rfl,Z5 h2,by rw[Z0 h2];rfl,by simp,Z0V h0 rfl⟩
 |1,hl=>
  obtain rfl:=Option.some.inj hl
  exact⟨b+1+1,0,_,3,rfl,Z5 h2,by rw[Z0 h2];rfl,by simp,Z0V h1 rfl⟩
theorem Zcd{w:World}{b base:Nat}(h:w.heap[b]? =some (.cells #[] 80))(hb:base≤b):w.ownsRow base 80 5 (.slice (some ⟨b,0,none⟩) 0 0) 0 []:=⟨rfl,.inr ⟨b,0,#[],rfl,hb,h,Nat.le_refl _,by simp[maxLen],rfl,rfl⟩⟩
theorem OwnAp.rawAp{b:Nat}{w:World}{v:Value}{A:List Ap}(h:OwnAp b w v A):∃ao cp,v= .slice ao A.length cp∧RawAp w ao A:=by
 by_cases h0:A=[]
 ·subst h0
  rcases h.2 with⟨rfl,_⟩|⟨g,cp,_,rfl,_⟩
  ·exact⟨none,0,rfl,fun i x hx=>by simp at hx⟩
  ·exact⟨_,cp,rfl,fun i x hx=>by simp at hx⟩
 ·have hp:0<A.length:=List.length_pos_iff.2 h0
  obtain⟨g,cp,rfl,_,hg⟩:=World.ownsRow.form h hp
  refine⟨_,cp,rfl,fun i x hx=> ?_⟩
  have key:∀(A:List Ap)(i j:Nat)(x:Ap),A[i]? =some x→j<4→(A.flatMap apC)[i*4+j]? =(apC x)[j]? :=by
   intro A
   induction A with
   |nil=>intro i j x h;simp at h
   |cons y A ih=>
    intro i j x hx hj
    rw[List.flatMap_cons]
    have hl:(apC y).length=4:=rfl
    cases i with
    |zero=>
     simp at hx
     subst hx
     rw[List.getElem?_append_left (by omega)]
     simp
    |succ i=>
     rw[List.getElem?_append_right (by omega),hl,show(i+1)*4+j - 4=i*4+j by omega]
     exact ih i j x (by simpa using hx) hj
  have hc:∀j u,j<4→(apC x)[j]? =some u→w.cell? ⟨g,0+i*4+j,none⟩=some u:=by
   intro j u hj hu
   have h2:=h.cells (g:=g) rfl (i*4+j) u (by rw[key A i j x hx hj];exact hu)
   rw[Z0c] at h2
   rw[Nat.zero_add]
   exact h2
  exact⟨g,0,rfl,hg,hc 0 _ (by omega) rfl,hc 1 _ (by omega) rfl,hc 2 _ (by omega) rfl,hc 3 _ (by omega) rfl⟩
theorem Zce(w:World)(hM:Meas w)(hmo:Most w)(hd:Deb w):Calls prog 22 #[] w fun e w'=>e= .returned (.bool true)∧Ext w w':=by
 go_enter func22,ntmps22
 go_wp2_with fail
 refine(Z6U _).mono ?_
 rintro e wA ⟨B,rfl,hBe,hEA⟩
 rename_i Q K hK
 refine hK _ _ ?_
 clear hK
 go_wp2_with fail
 refine(Zar _).mono ?_
 rintro e w0 ⟨D,rfl,hDe,hEB⟩
 have hEw:=hEA.trans hEB
 have hS0:=ZdF (hEB.get hBe)
 have hC0:RawS w0 (some ⟨D,0,none⟩) exS:=Z6Y hDe rfl
 have hM0:=hM.ext hEw;have hm0:=hmo.ext hEw;have hd0:=hd.ext hEw
 have hc0:=Ext.rfl' w0
 rename_i Q K hK
 refine hK _ _ ?_
 clear hK
 go_wp2_with fail
 refine(Z59 [0,1,2] 3 1 rfl (by decide) v_m1 B _ _ (hM0.ext ((((hc0.alloc _).alloc _).alloc _))) (hS0.ext ((((hc0.alloc _).alloc _).alloc _))) (Z0V (l:=[0,1,2]) (by simp only[Z3,Z2];exact if_pos trivial) rfl)).mono ?_
 rintro e w1 ⟨rfl,hE⟩
 have hs1:Ext w0 w1:=((((Ext.rfl' w0).alloc _).alloc _).alloc _).trans hE
 have gs1:w1.heap[w0.heap.size]? =some (.cells #[.int .i64 10,.int .i64 2,.int .i64 5,.int .i64 3,.slice (some ⟨B,0,none⟩) 7 7] 26):=hE.get (by simp only[Z3,Z2];rw[if_neg (by omega),if_neg (by omega),if_pos trivial])
 have gc1:w1.heap[w0.heap.size+1]? =some (.cells #[.int .i64 2,.int .i64 4,.int .i64 1,.int .i64 2,.slice (some ⟨D,0,none⟩) 3 3] 70):=hE.get (by simp only[Z3,Z2];rw[if_neg (by omega),if_pos trivial])
 have hc1:=hc0.trans hs1
 clear hE
 have hlt1:=Z5 gc1;have hlu1:=Z5 gs1
 have q0:=Z0 gs1 0;have q1:=Z0 gs1 1;have q2:=Z0 gs1 2;have q3:=Z0 gs1 3;have q4:=Z0 gs1 4
 have r0:=Z0 gc1 0;have r1:=Z0 gc1 1;have r2:=Z0 gc1 2;have r3:=Z0 gc1 3;have r4:=Z0 gc1 4
 simp only[List.getElem?_toArray,List.getElem?_cons_zero,List.getElem?_cons_succ] at q0 r0 q1 r1 q2 r2 q3 r3 q4 r4
 rename_i Q K hK
 refine hK _ _ ?_
 clear hK
 go_wp2_with fail
 refine(Z59 [0,3] 2 0 rfl (by decide) v_m2 B _ _ (hM0.ext ((hc1.alloc _))) (hS0.ext ((hc1.alloc _))) (Z0V (l:=[0,3]) (by simp only[Z3,Z2];exact if_pos trivial) rfl)).mono ?_
 rintro e w2 ⟨rfl,hE⟩
 have hs2:Ext w1 w2:=((Ext.rfl' w1).alloc _).trans hE
 have gs2:=hs2.get gs1;have gc2:=hs2.get gc1
 have hc2:=hc1.trans hs2
 clear hE
 have hlt2:=Z5 gc2;have hlu2:=Z5 gs2
 clear hlt1 hlu1
 clear q0 r0 q1 r1 q2 r2 q3 r3 q4 r4
 have q0:=Z0 gs2 0;have q1:=Z0 gs2 1;have q2:=Z0 gs2 2;have q3:=Z0 gs2 3;have q4:=Z0 gs2 4
 have r0:=Z0 gc2 0;have r1:=Z0 gc2 1;have r2:=Z0 gc2 2;have r3:=Z0 gc2 3;have r4:=Z0 gc2 4
 simp only[List.getElem?_toArray,List.getElem?_cons_zero,List.getElem?_cons_succ] at q0 r0 q1 r1 q2 r2 q3 r3 q4 r4
 rename_i Q K hK
 refine hK _ _ ?_
 clear hK
 go_wp2_with fail
 refine(Z59 [0,6] 2 2 rfl (by decide) v_m3 B _ _ (hM0.ext ((hc2.alloc _))) (hS0.ext ((hc2.alloc _))) (Z0V (l:=[0,6]) (by simp only[Z3,Z2];exact if_pos trivial) rfl)).mono ?_
 rintro e w3 ⟨rfl,hE⟩
 have hs3:Ext w2 w3:=((Ext.rfl' w2).alloc _).trans hE
 have gs3:=hs3.get gs2;have gc3:=hs3.get gc2
 have hc3:=hc2.trans hs3
 clear hE
 have hlt3:=Z5 gc3;have hlu3:=Z5 gs3
 clear hlt2 hlu2
 clear q0 r0 q1 r1 q2 r2 q3 r3 q4 r4
 have q0:=Z0 gs3 0;have q1:=Z0 gs3 1;have q2:=Z0 gs3 2;have q3:=Z0 gs3 3;have q4:=Z0 gs3 4
 have r0:=Z0 gc3 0;have r1:=Z0 gc3 1;have r2:=Z0 gc3 2;have r3:=Z0 gc3 3;have r4:=Z0 gc3 4
 simp only[List.getElem?_toArray,List.getElem?_cons_zero,List.getElem?_cons_succ] at q0 r0 q1 r1 q2 r2 q3 r3 q4 r4
 rename_i Q K hK
 refine hK _ _ ?_
 clear hK
 go_wp2_with fail
 refine(Zc9 B _ _ (hM0.ext ((hc3.alloc _))) (hS0.ext ((hc3.alloc _))) (Z0V (l:=[0,2,3]) (by simp only[Z3,Z2];exact if_pos trivial) rfl)).mono ?_
 rintro e w4 ⟨v9,rfl,hv9,hE⟩
 have hs4:Ext w3 w4:=((Ext.rfl' w3).alloc _).trans hE
 have gs4:=hs4.get gs3;have gc4:=hs4.get gc3
 have hc4:=hc3.trans hs4
 obtain⟨a9,c9,rfl,hr9⟩:=hv9.rawAp
 rw[v_ap.2.2]
 clear hE
 have hlt4:=Z5 gc4;have hlu4:=Z5 gs4
 clear hlt3 hlu3
 clear q0 r0 q1 r1 q2 r2 q3 r3 q4 r4
 have q0:=Z0 gs4 0;have q1:=Z0 gs4 1;have q2:=Z0 gs4 2;have q3:=Z0 gs4 3;have q4:=Z0 gs4 4
 have r0:=Z0 gc4 0;have r1:=Z0 gc4 1;have r2:=Z0 gc4 2;have r3:=Z0 gc4 3;have r4:=Z0 gc4 4
 simp only[List.getElem?_toArray,List.getElem?_cons_zero,List.getElem?_cons_succ] at q0 r0 q1 r1 q2 r2 q3 r3 q4 r4
 rename_i Q K hK
 refine hK _ _ ?_
 clear hK
 go_wp2_with fail
 refine(ZdC B _ (hM0.ext hc4) (hS0.ext hc4)).mono ?_
 rintro e w5 ⟨v11,v12,rfl,hv11,hv12,hE⟩
 have hs5:Ext w4 w5:=hE
 have gs5:=hs5.get gs4;have gc5:=hs5.get gc4
 have hc5:=hc4.trans hs5
 obtain⟨a11,c11,rfl,hr11⟩:=hv11.rawL (by decide)
 obtain⟨a12,c12,rfl,hr12,hx12⟩:=hv12.rawI
 clear hx12
 clear hE
 have hlt5:=Z5 gc5;have hlu5:=Z5 gs5
 clear hlt4 hlu4
 clear q0 r0 q1 r1 q2 r2 q3 r3 q4 r4
 have q0:=Z0 gs5 0;have q1:=Z0 gs5 1;have q2:=Z0 gs5 2;have q3:=Z0 gs5 3;have q4:=Z0 gs5 4
 have r0:=Z0 gc5 0;have r1:=Z0 gc5 1;have r2:=Z0 gc5 2;have r3:=Z0 gc5 3;have r4:=Z0 gc5 4
 simp only[List.getElem?_toArray,List.getElem?_cons_zero,List.getElem?_cons_succ] at q0 r0 q1 r1 q2 r2 q3 r3 q4 r4
 rename_i Q K hK
 refine hK _ _ ?_
 clear hK
 go_wp2_with fail
 refine(Z8I B _ (hM0.ext hc5) (hS0.ext hc5)).mono ?_
 rintro e w6 ⟨rfl,hE⟩
 have hs6:Ext w5 w6:=hE
 have gs6:=hs6.get gs5;have gc6:=hs6.get gc5
 have hc6:=hc5.trans hs6
 clear hE
 have hlt6:=Z5 gc6;have hlu6:=Z5 gs6
 clear hlt5 hlu5
 clear q0 r0 q1 r1 q2 r2 q3 r3 q4 r4
 have q0:=Z0 gs6 0;have q1:=Z0 gs6 1;have q2:=Z0 gs6 2;have q3:=Z0 gs6 3;have q4:=Z0 gs6 4
 have r0:=Z0 gc6 0;have r1:=Z0 gc6 1;have r2:=Z0 gc6 2;have r3:=Z0 gc6 3;have r4:=Z0 gc6 4
 simp only[List.getElem?_toArray,List.getElem?_cons_zero,List.getElem?_cons_succ] at q0 r0 q1 r1 q2 r2 q3 r3 q4 r4
 rename_i Q K hK
 refine hK _ _ ?_
 clear hK
 go_wp2_with fail
 refine(ZdD D _ (hC0.ext hc6)).mono ?_
 rintro e w7 ⟨rfl,hE⟩
 have hs7:Ext w6 w7:=hE
 have gs7:=hs7.get gs6;have gc7:=hs7.get gc6
 have hc7:=hc6.trans hs7
 clear hE
 have hlt7:=Z5 gc7;have hlu7:=Z5 gs7
 clear hlt6 hlu6
 clear q0 r0 q1 r1 q2 r2 q3 r3 q4 r4
 have q0:=Z0 gs7 0;have q1:=Z0 gs7 1;have q2:=Z0 gs7 2;have q3:=Z0 gs7 3;have q4:=Z0 gs7 4
 have r0:=Z0 gc7 0;have r1:=Z0 gc7 1;have r2:=Z0 gc7 2;have r3:=Z0 gc7 3;have r4:=Z0 gc7 4
 simp only[List.getElem?_toArray,List.getElem?_cons_zero,List.getElem?_cons_succ] at q0 r0 q1 r1 q2 r2 q3 r3 q4 r4
 rename_i Q K hK
 refine hK _ _ ?_
 clear hK
 go_wp2_with fail
 refine(ZaK 30 93 100 rfl v_mk1 D _ (hC0.ext ((hc7.alloc _))) (hm0.ext ((hc7.alloc _)))).mono ?_
 rintro e w8 ⟨rfl,hE⟩
 have hs8:Ext w7 w8:=((Ext.rfl' w7).alloc _).trans hE
 have gs8:=hs8.get gs7;have gc8:=hs8.get gc7
 have hc8:=hc7.trans hs8
 have gp8:w8.heap[w7.heap.size]? =some (.cells #[.int .i64 93,.int .i64 102] 48):=hE.get (by simp only[Z3,Z2];exact if_pos trivial)
 clear hE
 have hlt8:=Z5 gc8;have hlu8:=Z5 gs8
 clear hlt7 hlu7
 clear q0 r0 q1 r1 q2 r2 q3 r3 q4 r4
 have q0:=Z0 gs8 0;have q1:=Z0 gs8 1;have q2:=Z0 gs8 2;have q3:=Z0 gs8 3;have q4:=Z0 gs8 4
 have r0:=Z0 gc8 0;have r1:=Z0 gc8 1;have r2:=Z0 gc8 2;have r3:=Z0 gc8 3;have r4:=Z0 gc8 4
 simp only[List.getElem?_toArray,List.getElem?_cons_zero,List.getElem?_cons_succ] at q0 r0 q1 r1 q2 r2 q3 r3 q4 r4
 rename_i Q K hK
 refine hK _ _ ?_
 clear hK
 go_wp2_with fail
 refine(ZaK 25 73 80 rfl v_mk2 D _ (hC0.ext ((hc8.alloc _))) (hm0.ext ((hc8.alloc _)))).mono ?_
 rintro e w9 ⟨rfl,hE⟩
 have hs9:Ext w8 w9:=((Ext.rfl' w8).alloc _).trans hE
 have gs9:=hs9.get gs8;have gc9:=hs9.get gc8
 have hc9:=hc8.trans hs9
 have gp9:w9.heap[w8.heap.size]? =some (.cells #[.int .i64 93,.int .i64 100] 48):=hE.get (by simp only[Z3,Z2];exact if_pos trivial)
 clear hE
 have hlt9:=Z5 gc9;have hlu9:=Z5 gs9
 clear hlt8 hlu8
 clear q0 r0 q1 r1 q2 r2 q3 r3 q4 r4
 have q0:=Z0 gs9 0;have q1:=Z0 gs9 1;have q2:=Z0 gs9 2;have q3:=Z0 gs9 3;have q4:=Z0 gs9 4
 have r0:=Z0 gc9 0;have r1:=Z0 gc9 1;have r2:=Z0 gc9 2;have r3:=Z0 gc9 3;have r4:=Z0 gc9 4
 simp only[List.getElem?_toArray,List.getElem?_cons_zero,List.getElem?_cons_succ] at q0 r0 q1 r1 q2 r2 q3 r3 q4 r4
 rename_i Q K hK
 refine hK _ _ ?_
 clear hK
 go_wp2_with fail
 refine(ZaL 4 1 rfl v_h1 D _ (hC0.ext ((hc9.alloc _))) (hm0.ext ((hc9.alloc _)))).mono ?_
 rintro e w10 ⟨rfl,hE⟩
 have hs10:Ext w9 w10:=((Ext.rfl' w9).alloc _).trans hE
 have gs10:=hs10.get gs9;have gc10:=hs10.get gc9
 have hc10:=hc9.trans hs10
 have gp10:w10.heap[w9.heap.size]? =some (.cells #[.int .i64 73,.int .i64 80] 48):=hE.get (by simp only[Z3,Z2];exact if_pos trivial)
 clear hE
 have hlt10:=Z5 gc10;have hlu10:=Z5 gs10
 clear hlt9 hlu9
 clear q0 r0 q1 r1 q2 r2 q3 r3 q4 r4
 have q0:=Z0 gs10 0;have q1:=Z0 gs10 1;have q2:=Z0 gs10 2;have q3:=Z0 gs10 3;have q4:=Z0 gs10 4
 have r0:=Z0 gc10 0;have r1:=Z0 gc10 1;have r2:=Z0 gc10 2;have r3:=Z0 gc10 3;have r4:=Z0 gc10 4
 simp only[List.getElem?_toArray,List.getElem?_cons_zero,List.getElem?_cons_succ] at q0 r0 q1 r1 q2 r2 q3 r3 q4 r4
 rename_i Q K hK
 refine hK _ _ ?_
 clear hK
 go_wp2_with fail
 refine(ZaL 3 0 rfl v_h2 D _ (hC0.ext hc10) (hm0.ext hc10)).mono ?_
 rintro e w11 ⟨rfl,hE⟩
 have hs11:Ext w10 w11:=hE
 have gs11:=hs11.get gs10;have gc11:=hs11.get gc10
 have hc11:=hc10.trans hs11
 clear hE
 have hlt11:=Z5 gc11;have hlu11:=Z5 gs11
 clear hlt10 hlu10
 clear q0 r0 q1 r1 q2 r2 q3 r3 q4 r4
 have q0:=Z0 gs11 0;have q1:=Z0 gs11 1;have q2:=Z0 gs11 2;have q3:=Z0 gs11 3;have q4:=Z0 gs11 4
 have r0:=Z0 gc11 0;have r1:=Z0 gc11 1;have r2:=Z0 gc11 2;have r3:=Z0 gc11 3;have r4:=Z0 gc11 4
 simp only[List.getElem?_toArray,List.getElem?_cons_zero,List.getElem?_cons_succ] at q0 r0 q1 r1 q2 r2 q3 r3 q4 r4
 rename_i Q K hK
 refine hK _ _ ?_
 clear hK
 go_wp2_with fail
 refine(ZdE D _ (hC0.ext hc11) (hm0.ext hc11)).mono ?_
 rintro e w12 ⟨rfl,hE⟩
 have hs12:Ext w11 w12:=hE
 have gs12:=hs12.get gs11;have gc12:=hs12.get gc11
 have hc12:=hc11.trans hs12
 clear hE
 have hlt12:=Z5 gc12;have hlu12:=Z5 gs12
 clear hlt11 hlu11
 clear q0 r0 q1 r1 q2 r2 q3 r3 q4 r4
 have q0:=Z0 gs12 0;have q1:=Z0 gs12 1;have q2:=Z0 gs12 2;have q3:=Z0 gs12 3;have q4:=Z0 gs12 4
 have r0:=Z0 gc12 0;have r1:=Z0 gc12 1;have r2:=Z0 gc12 2;have r3:=Z0 gc12 3;have r4:=Z0 gc12 4
 simp only[List.getElem?_toArray,List.getElem?_cons_zero,List.getElem?_cons_succ] at q0 r0 q1 r1 q2 r2 q3 r3 q4 r4
 rename_i Q K hK
 refine hK _ _ ?_
 clear hK
 go_wp2_with fail
 refine(ZaM D _ (hC0.ext hc12) (hm0.ext hc12)).mono ?_
 rintro e w13 ⟨rfl,hE⟩
 have hs13:Ext w12 w13:=hE
 have gs13:=hs13.get gs12;have gc13:=hs13.get gc12
 have hc13:=hc12.trans hs13
 clear hE
 have hlt13:=Z5 gc13;have hlu13:=Z5 gs13
 clear hlt12 hlu12
 clear q0 r0 q1 r1 q2 r2 q3 r3 q4 r4
 have q0:=Z0 gs13 0;have q1:=Z0 gs13 1;have q2:=Z0 gs13 2;have q3:=Z0 gs13 3;have q4:=Z0 gs13 4
 have r0:=Z0 gc13 0;have r1:=Z0 gc13 1;have r2:=Z0 gc13 2;have r3:=Z0 gc13 3;have r4:=Z0 gc13 4
 simp only[List.getElem?_toArray,List.getElem?_cons_zero,List.getElem?_cons_succ] at q0 r0 q1 r1 q2 r2 q3 r3 q4 r4
 rename_i Q K hK
 refine hK _ _ ?_
 clear hK
 have hsz13:=hc13.size
 have hDW:∀W,Ext w13 W→∀(j:Nat) u,(exS.flatMap rsC)[j]? =some u→W.cell? ((⟨D,0,none⟩:Addr).add j)=some u:=by
  intro W hW j u hu
  rw[Z0c,Z0 (hW.get (hc13.get hDe)),←Array.getElem?_toList]
  exact hu
 go_wp2_with (
  at_builtin
  go_loud (refine wpList_append_own _ rfl _ _ _ rfl (w13.heap.size+1+1) 80 Tryz.t80 (.agg #[.int .i64 0,.int .i64 0,.int .i64 0,.int .i64 0,.int .i64 0]) 5 40 u68 i80 t80z t80s t80b rfl (by omega) (.slice (some ⟨w13.heap.size+1+1,0,none⟩) 0 0) 0 [] rfl (Zcd (by simp only[Z3,Z2];exact if_pos trivial) (Nat.le_refl _)) ⟨D,0,none⟩ 3 3 (exS.flatMap rsC) rfl rfl (hDW _ ((((Ext.rfl' w13).alloc _).alloc _).alloc _)) (by decide) (by simp[maxLen]) (by omega) (by simp only[Z2];omega) ?_)
  intro v' w14 hown14 hgrow14 _
  obtain⟨g14,cp14,rfl,hg14,hg14'⟩:=World.ownsRow.form hown14 (by omega)
  have hE14:Ext w13 w14:=Ext.grown ((((Ext.rfl' w13).alloc _).alloc _).alloc _) hgrow14 (fun k hk=>by simp[Value.ownBlock] at hk<;>omega)
  have gp14:w14.heap[w13.heap.size]? =some (.cells #[.int .i64 38,.int .i64 48] 48):=Z0m hgrow14 (fun e=>by simp[Value.ownBlock] at e<;>omega) (by simp only[Z3,Z2];rw[if_neg (by omega),if_neg (by omega),if_pos trivial])
  have gk14:w14.heap[w13.heap.size+1]? =some (.cells #[.int .i64 2,.int .i64 4,.int .i64 1,.int .i64 2,.slice (some ⟨D,0,none⟩) 3 3] 70):=Z0m hgrow14 (fun e=>by simp[Value.ownBlock] at e<;>omega) (by simp only[Z3,Z2];rw[if_neg (by omega),if_pos trivial])
  clear hgrow14)
 refine(Z3P _ _ _).mono ?_
 rintro e w15 ⟨rfl,hs15⟩
 have hE15:=hE14.trans hs15
 have gp15:=hs15.get gp14;have gk15:=hs15.get gk14
 have hown15:=Z00 hown14 hs15
 rename_i Q K hK
 refine hK _ _ ?_
 clear hK
 go_wp2_with (
  at_builtin
  go_loud (refine wpList_append_own _ rfl _ _ _ rfl (w13.heap.size+1+1) 80 Tryz.t80 (.agg #[.int .i64 0,.int .i64 0,.int .i64 0,.int .i64 0,.int .i64 0]) 5 40 u68 i80 t80z t80s t80b rfl (by omega) (.slice (some ⟨g14,0,none⟩) 3 cp14) 3 (exS.flatMap rsC) rfl (hown15.alloc _) ⟨w15.heap.size,0,none⟩ 1 1 (rsC ⟨20,70,70,0,0⟩) rfl rfl ?_ (by decide) (by simp[maxLen]) (by omega) (by simp only[Z2];have:=hs15.size;omega) ?_)
  ·intro j u hu
   rw[Z0c,Z0 (by rw[Z3,if_pos rfl]),←Array.getElem?_toList]
   exact hu
  intro v' w16 hown16 hgrow16 _
  obtain⟨g16,c16,cur,rfl,hg16,hh16,ht16⟩:∃g c cur,v'= .slice (some ⟨g,0,none⟩) (3+1) c∧w13.heap.size+1+1≤g∧w16.heap[g]? =some (.cells cur 80)∧cur.toList.take ((3+1)*5)=exS.flatMap rsC++rsC ⟨20,70,70,0,0⟩:=by
   obtain⟨_,⟨_,h⟩|⟨g,c,cur,h1,h2,h3,_,_,_,h4⟩⟩:=hown16
   ·omega
   ·exact⟨g,c,cur,h1,h2,h3,h4⟩
  have hE16:Ext w13 w16:=Ext.grown (hE15.alloc _) hgrow16 (fun k hk=>by simp[Value.ownBlock] at hk<;>omega)
  have gp16:w16.heap[w13.heap.size]? =some (.cells #[.int .i64 38,.int .i64 48] 48):=Z0m hgrow16 (fun e=>by simp[Value.ownBlock] at e<;>omega) (((Ext.rfl' w15).alloc _).get gp15)
  have gk16:w16.heap[w13.heap.size+1]? =some (.cells #[.int .i64 2,.int .i64 4,.int .i64 1,.int .i64 2,.slice (some ⟨D,0,none⟩) 3 3] 70):=Z0m hgrow16 (fun e=>by simp[Value.ownBlock] at e<;>omega) (((Ext.rfl' w15).alloc _).get gk15)
  clear hgrow16
  have y0:=Z0 gk16 0;have y1:=Z0 gk16 1;have y2:=Z0 gk16 2;have y3:=Z0 gk16 3;have y4:=Z0 gk16 4
  have z4:=Z8 gk16 4
  have hlt16:=Z5 gk16
  simp only[List.getElem?_toArray,List.getElem?_cons_zero,List.getElem?_cons_succ] at y0 y1 y2 y3 y4)
 have hEs:=hE16.setCell ⟨w13.heap.size+1,4,none⟩ (.slice (some ⟨g16,0,none⟩) 4 c16) (by simp only;omega)
 have hgs:(w16.setCell ⟨w13.heap.size+1,4,none⟩ (.slice (some ⟨g16,0,none⟩) 4 c16)).heap[g16]? =some (.cells cur 80):=(set_ne (by simp only;omega) _).trans hh16
 have gks:=Zb gk16 (i:=4) (.slice (some ⟨g16,0,none⟩) 4 c16)
 have gps:(w16.setCell ⟨w13.heap.size+1,4,none⟩ (.slice (some ⟨g16,0,none⟩) 4 c16)).heap[w13.heap.size]? =some (.cells #[.int .i64 38,.int .i64 48] 48):=(set_ne (by simp only;omega) _).trans gp16
 replace gks:(w16.setCell ⟨w13.heap.size+1,4,none⟩ (.slice (some ⟨g16,0,none⟩) 4 c16)).heap[w13.heap.size+1]? =some (.cells #[.int .i64 2,.int .i64 4,.int .i64 1,.int .i64 2,.slice (some ⟨g16,0,none⟩) 4 c16] 70):=gks
 generalize (w16.setCell ⟨w13.heap.size+1,4,none⟩ (.slice (some ⟨g16,0,none⟩) 4 c16))=ws at hEs hgs gks gps⊢
 have hcs:=hc13.trans hEs
 refine(Zca g16 c16 ws (Z6Y (L:=exS4) hgs (ht16.trans (by rfl))) (hm0.ext hcs) (hd0.ext hcs)).mono ?_
 rintro e w17 ⟨v33,rfl,hv33,hs17⟩
 obtain⟨a33,c33,rfl,hr33,hx33⟩:=hv33.rawI
 have gk17:=hs17.get gks
 have gp17:=hs17.get gps
 have hg17:=hs17.get hgs
 have hc17:=hcs.trans hs17
 clear hx33 y0 y1 y2 y3 y4 z4
 have y0:=Z0 gk17 0;have y1:=Z0 gk17 1;have y2:=Z0 gk17 2;have y3:=Z0 gk17 3;have y4:=Z0 gk17 4
 simp only[List.getElem?_toArray,List.getElem?_cons_zero,List.getElem?_cons_succ] at y0 y1 y2 y3 y4
 rename_i Q K hK
 refine hK _ _ ?_
 clear hK
 go_wp2_with fail
 refine(Zcb g16 c16 w17 (Z6Y (L:=exS4) hg17 (ht16.trans (by rfl))) (hm0.ext hc17) (hd0.ext hc17)).mono ?_
 rintro e w18 ⟨v35,rfl,hv35,hs18⟩
 obtain⟨a35,c35,rfl,hr35,hx35⟩:=hv35.rawI
 have hr33z:=hr33.ext hs18
 have hE18:=hEs.trans (hs17.trans hs18)
 have hE12:=hs13.trans hE18;have hE11:=hs12.trans hE12;have hE10:=hs11.trans hE11;have hE9:=hs10.trans hE10;have hE8:=hs9.trans hE9;have hE7:=hs8.trans hE8;have hE6:=hs7.trans hE7;have hE5:=hs6.trans hE6;have hE4:=hs5.trans hE5
 have hr9z:=hr9.ext hE4;have hr11z:=hr11.ext hE5;have hr12z:=hr12.ext hE5
 have gp8z:=hE8.get gp8;have gp9z:=hE9.get gp9;have gp10z:=hE10.get gp10;have gp18z:=hs18.get gp17
 have hcz:=hc17.trans hs18
 clear hx35 y0 y1 y2 y3 y4 q0 q1 q2 q3 q4 r0 r1 r2 r3 r4 hE4 hE5 hE6 hE7 hE8 hE9 hE10 hE11 hE12 hs1 hs2 hs3 hs4 hs5 hs6 hs7 hs8 hs9 hs10 hs11 hs12 hs13 hc1 hc2 hc3 hc4 hc5 hc6 hc7 hc8 hc9 hc10 hc11 hc12
 rename_i Q K hK
 refine hK _ _ ?_
 clear hK
 go_wp2_with fail
 refine(Z25 a9 3 c9 (Z0Q 10 2 5 3 exL [0,2,3]) _ 3 3 exA _ v_ap.2.2 rfl (by decide) (hr9z.ext ((Ext.rfl' w18).alloc _)) (ZaN (by simp only[Z3,Z2];exact if_pos trivial) rfl)).mono ?_
 rintro e w19 ⟨rfl,hE⟩
 have hs19:=((Ext.rfl' w18).alloc _).trans hE
 rw[v_ap.1]
 clear hE
 rename_i Q K hK
 refine hK _ _ ?_
 clear hK
 go_wp2_with fail
 refine(Z55 a11 2 c11 [[0,1,2],[3,4,5]] _ 2 2 [[0,1,2],[3,4,5]] _ rfl rfl (by decide) (hr11z.ext (((hs19.alloc _).alloc _).alloc _)) (Zcc (b:=w19.heap.size) (by simp only[Z3,Z2];rw[if_neg (by omega),if_neg (by omega),if_pos trivial]) (by simp only[Z3,Z2];rw[if_neg (by omega),if_pos trivial]) (by simp only[Z3,Z2];exact if_pos trivial))).mono ?_
 rintro e w20 ⟨rfl,hE⟩
 have hs20:=hs19.trans (((((Ext.rfl' w19).alloc _).alloc _).alloc _).trans hE)
 rw[show decide (([[0,1,2],[3,4,5]]:List (List Int))=[[0,1,2],[3,4,5]])=true from by decide]
 clear hE
 rename_i Q K hK
 refine hK _ _ ?_
 clear hK
 go_wp2_with fail
 refine(Z1d a12 1 c12 [6] _ 1 1 [6] _ rfl rfl (by decide) (hr12z.ext (hs20.alloc _)) (Z0V (by simp only[Z3,Z2];exact if_pos trivial) rfl)).mono ?_
 rintro e w21 ⟨rfl,hE⟩
 have hs21:=hs20.trans (((Ext.rfl' w20).alloc _).trans hE)
 rw[show decide (([6]:List Int)=[6])=true from by decide]
 clear hE
 rename_i Q K hK
 refine hK _ _ ?_
 clear hK
 go_wp2_with fail
 obtain⟨w1,hw1⟩:∃w1:World,w1=w21:=⟨_,rfl⟩
 have gp8w:=hs21.get gp8z;have gp9w:=hs21.get gp9z;have gp10w:=hs21.get gp10z;have gp18w:=hs21.get gp18z
 have hr33w:=hr33z.ext hs21;have hr35w:=hr35.ext hs21
 have hcw:=hcz.trans hs21
 rw[←hw1] at gp8w gp9w gp10w gp18w hr33w hr35w hcw⊢
 clear hw1
 have z8:=Zc gp8w;have gz8:=Zet z8.1;have gy8:=Zet z8.2.1;clear z8
 have z9:=Zc gp9w;have gz9:=Zet z9.1;have gy9:=Zet z9.2.1;clear z9
 have z10:=Zc gp10w;have gz10:=Zet z10.1;have gy10:=Zet z10.2.1;clear z10
 have z18:=Zc gp18w;have gz18:=Zet z18.1;have gy18:=Zet z18.2.1;clear z18
 refine ZeG 49 (by kernel_rfl) ?_
 refine ZeB [0] (by kernel_rfl) (by kernel_rfl) ?_
 simp only[ZeD,List.getElem?_cons_succ,List.getElem?_cons_zero,List.cons_append,List.nil_append]
 repeat (go_big_quiet_step (fail))
 refine wpQuiet_nil ?_
 refine ZeX 1 (f:=34) (args:= #[.int .i64 93,.int .i64 102]) (v:= .agg #[.int .i64 93,.int .i64 102]) (by kernel_rfl) rfl (by kernel_rfl) rfl (fun W=>by simp[go_sem,execOp,Act.eval]) (fun W _=>Z3P 93 102 W) ?_
 go_simp
 refine ZeB [2,3,4] (by kernel_rfl) (by kernel_rfl) ?_
 simp only[ZeD,List.getElem?_cons_succ,List.getElem?_cons_zero,List.cons_append,List.nil_append]
 repeat (go_big_quiet_step (fail))
 refine wpQuiet_nil ?_
 refine ZeX 5 (f:=34) (args:= #[.int .i64 93,.int .i64 100]) (v:= .agg #[.int .i64 93,.int .i64 100]) (by kernel_rfl) rfl (by kernel_rfl) rfl (fun W=>by simp[go_sem,execOp,Act.eval]) (fun W _=>Z3P 93 100 W) ?_
 go_simp
 refine ZeB [6,7,8,9] (by kernel_rfl) (by kernel_rfl) ?_
 simp only[ZeD,List.getElem?_cons_succ,List.getElem?_cons_zero,List.cons_append,List.nil_append]
 repeat (go_big_quiet_step (fail))
 refine wpQuiet_nil ?_
 refine ZeX 10 (f:=34) (args:= #[.int .i64 73,.int .i64 80]) (v:= .agg #[.int .i64 73,.int .i64 80]) (by kernel_rfl) rfl (by kernel_rfl) rfl (fun W=>by simp[go_sem,execOp,Act.eval]) (fun W _=>Z3P 73 80 W) ?_
 go_simp
 refine ZeB [11,12,13,14,15,16,17,18,19,20,21,22,23,24,25,26,27,28,29,30,31,32,33,34] (by kernel_rfl) (by kernel_rfl) ?_
 simp only[ZeD,List.getElem?_cons_succ,List.getElem?_cons_zero,List.cons_append,List.nil_append]
 repeat (go_big_quiet_step (fail))
 refine wpQuiet_nil ?_
 refine ZeX 35 (f:=34) (args:= #[.int .i64 38,.int .i64 48]) (v:= .agg #[.int .i64 38,.int .i64 48]) (by kernel_rfl) rfl (by kernel_rfl) rfl (fun W=>by simp[go_sem,execOp,Act.eval]) (fun W _=>Z3P 38 48 W) ?_
 go_simp
 refine ZeB [36,37,38,39] (by kernel_rfl) (by kernel_rfl) ?_
 simp only[ZeD,List.getElem?_cons_succ,List.getElem?_cons_zero,List.cons_append,List.nil_append]
 repeat (go_big_quiet_step (fail))
 refine wpQuiet_nil ?_
 refine Zfa 40 rfl (by kernel_rfl) rfl (fun W hW=>Zf3 ⟨.slice (some ⟨W.heap.size,0,none⟩) 2 2,W.alloc (.cells #[.int .i64 1,.int .i64 3] 3),by simp[go_sem,execOp,Act.eval],(Ext.rfl' W).alloc _,?_⟩)
 have m9:RawI (W.alloc (.cells #[.int .i64 1,.int .i64 3] 3)) (some ⟨W.heap.size,0,none⟩) [1,3]:=Z0V ((Z3 _ _ _).trans (if_pos rfl)) rfl
 have e9:=hW.alloc (.cells #[.int .i64 1,.int .i64 3] 3)
 obtain⟨b9,hb9⟩:∃b,b=W.heap.size:=⟨_,rfl⟩
 rw[←hb9] at m9;rw[←hb9]
 generalize W.alloc _=W9 at m9 e9⊢
 clear hb9 hW
 clear W
 go_simp
 refine ZeX 41 (f:=58) (args:= #[.slice a33 2 c33,.slice (some ⟨b9,0,none⟩) 2 2]) (v:= .bool true) (by kernel_rfl) rfl (by kernel_rfl) rfl (fun W=>by simp[go_sem,execOp,Act.eval]) (fun W hW=>by
  have:=Z1d a33 2 c33 [1,3] (some ⟨b9,0,none⟩) 2 2 [1,3] W rfl rfl (by decide) (hr33w.ext (e9.trans hW)) (m9.ext hW)
  rwa [decide_eq_true rfl] at this) ?_
 go_simp
 refine ZeB [42,43,44] (by kernel_rfl) (by kernel_rfl) ?_
 simp only[ZeD,List.getElem?_cons_succ,List.getElem?_cons_zero,List.cons_append,List.nil_append]
 repeat (go_big_quiet_step (fail))
 refine wpQuiet_nil ?_
 refine Zfa 45 rfl (by kernel_rfl) rfl (fun W hW=>Zf3 ⟨.slice (some ⟨W.heap.size,0,none⟩) 3 3,W.alloc (.cells #[.int .i64 0,.int .i64 1,.int .i64 2] 3),by simp[go_sem,execOp,Act.eval],(Ext.rfl' W).alloc _,?_⟩)
 clear m9
 have m9:RawI (W.alloc (.cells #[.int .i64 0,.int .i64 1,.int .i64 2] 3)) (some ⟨W.heap.size,0,none⟩) [0,1,2]:=Z0V ((Z3 _ _ _).trans (if_pos rfl)) rfl
 have e9:=(e9.trans hW).alloc (.cells #[.int .i64 0,.int .i64 1,.int .i64 2] 3)
 obtain⟨b9,hb9⟩:∃b,b=W.heap.size:=⟨_,rfl⟩
 rw[←hb9] at m9;rw[←hb9]
 generalize W.alloc _=W9 at m9 e9⊢
 clear hb9 hW
 clear W
 go_simp
 refine ZeX 46 (f:=58) (args:= #[.slice a35 3 c35,.slice (some ⟨b9,0,none⟩) 3 3]) (v:= .bool true) (by kernel_rfl) rfl (by kernel_rfl) rfl (fun W=>by simp[go_sem,execOp,Act.eval]) (fun W hW=>by
  have:=Z1d a35 3 c35 [0,1,2] (some ⟨b9,0,none⟩) 3 3 [0,1,2] W rfl rfl (by decide) (hr35w.ext (e9.trans hW)) (m9.ext hW)
  rwa [decide_eq_true rfl] at this) ?_
 go_simp
 refine ZeB [47,48] (by kernel_rfl) (by kernel_rfl) ?_
 simp only[ZeD,List.getElem?_cons_succ,List.getElem?_cons_zero,List.cons_append,List.nil_append]
 repeat (go_big_quiet_step (fail))
 refine wpQuiet_nil ?_
 refine Zf6 (by kernel_rfl) (fun W hW=> ?_)
 have hEf:=hEw.trans (hcw.trans (e9.trans hW))
 go_wp2
 go_ret
 exact⟨rfl,hEf⟩
end Go.Proofs.Tryq
namespace Go.Proofs.Tryq
open Go Go.Nk Go.RowKit
set_option linter.all false
def OwnS(base:Nat)(w:World)(v:Value)(S:List Rs):Prop:=w.ownsRow base 80 5 v S.length (Ziv S)
theorem OwnS.ext{w w':World}{b:Nat}{v:Value}{S:List Rs}(h:OwnS b w v S)(hE:Ext w w'):OwnS b w' v S:=Z00 h hE
theorem OwnS.lt{w:World}{b:Nat}{v:Value}{S:List Rs}(h:OwnS b w v S)(k:Nat)(hk:v.ownBlock=some k):b≤k∧k<w.heap.size:=World.ownsRow.lt h k hk
theorem OwnS.form{w:World}{b:Nat}{v:Value}{S:List Rs}(h:OwnS b w v S)(h0:0<S.length):∃g cap,v= .slice (some ⟨g,0,none⟩) S.length cap∧b≤g∧g<w.heap.size∧RawS w (some ⟨g,0,none⟩) S∧S.length≤cap∧cap≤maxLen:=by
 have hc:=fun g hg=>World.ownsRow.cells (g:=g) h hg
 rcases h.2 with⟨_,h1⟩|⟨g,cap,cur,rfl,hb,hg,h1,h2,_,_⟩
 ·omega
 ·refine⟨g,cap,rfl,hb,Z5 hg,ZiI (Z5 hg) fun j u hj=> ?_,h1,h2⟩
  have:=hc g rfl j u hj
  rw[Zh7] at this
  exact this
theorem Zix{o:Oper}{a:Act}{w:World}{K:Act→World→Prop}{Q:Exit→Act→World→Prop}(s x:Operand)(ho:o.op= .call {callee:= .builtin .append,args:= #[s,x],argTypes:= #[68,68]})
 (base:Nat)(v:Value)(T:List Rs)(hs:a.eval s=v)(hown:OwnS base w v T)(ad:Addr)(c:Nat)(S:List Rs)(hx:a.eval x= .slice (some ad) S.length c)(hnews:∀j u,(Ziv S)[j]? =some u→w.cell? (ad.add j)=some u)
 (hb:T.length+S.length≤1000)(hbase:base≤w.heap.size)(h:∀v' w',OwnS base w' v' (T++S)→w.grownBy w' v.ownBlock→K (a.put o.dst v') w'):o.wp prog a w K Q:=by
 refine wp_append_own w s x 68 ho base 80 Tryz.t80 _ 5 40 u68 i80 t80z t80s t80b rfl (by omega) v T.length (Ziv T) hs hown ad S.length c (Ziv S) hx (shotsV_len S) hnews (ZiM S) (by simp only[maxLen];omega) (by omega) hbase ?_
 intro v' w' h1 h2 _
 refine h v' w' ?_ h2
 show w'.ownsRow base 80 5 v' (T++S).length (Ziv (T++S))
 rw[ZiH,List.length_append]
 exact h1
end Go.Proofs.Tryq
namespace Go.Nk
open Go Go.Region Go.Proofs.Tryq
end Go.Nk
namespace Go.Proofs.Tryq
open Go Go.Nk Go.RowKit
set_option linter.all false
theorem Zib{P:Program}{ops:Array Oper}{R:Exit→Act→World→Prop}{t:Nat}{l:List Nat}(k:Nat){o:Oper}{v:Value}{a:Act}{w:World}{f:FuncId}{args:Array Value}(hs:okT ops t=true)(hi:ops[k]? =some o)(hf:Zil ops t l k=true)(hw:Region.wanted o (yielded ops a.tmps)=true)
 (hr:∀W,(execOp a.eval o).run P W= .ok (.enter f args) W)(hc:∀W,Ext w W→Calls P f args W fun e W'=>e= .returned v∧Ext W W')(h:LX P ops R t (k::l) (a.put o.dst v) w):LX P ops R t l a w:=
 Zim hs hi hf (.inl ⟨hw,fun W hW=>by unfold YV;rw[hr W];exact⟨Ext.rfl' W,hc W hW⟩⟩) h
set_option linter.all false
theorem ZeO(n:Nat):∀(l:List Int)(o:Option Int),(∀y,o=some y→∀x∈l,y<x)→l.Pairwise (·<·)→(∀x∈l,0≤x∧x<n)→Z1k n o l=0
 |[],_,_,_,_=>rfl
 |x::t,o,h1,h2,h3=>by
  rw[Z8y]
  have hx:=h3 x (List.mem_cons_self ..)
  rw[if_neg (by simp only[Decidable.not_not];omega)]
  obtain⟨h4,h5⟩:=List.pairwise_cons.1 h2
  have ih:=ZeO n t (some x) (fun y e z hz=>by injection e with e;subst e;exact h4 z hz) h5 (fun z hz=>h3 z (List.mem_cons_of_mem _ hz))
  cases o with
  |none=>simpa using ih
  |some y=>
   have h6:=h1 y rfl x (List.mem_cons_self ..)
   have h7:decide (x≤y)=false:=by simp only[decide_eq_false_iff_not];omega
   simpa[h7] using ih
theorem ZeE{n:Nat}{l:List Int}(h2:l.Pairwise (·<·))(h3:∀x∈l,0≤x∧x<n):Zq n l=0:=
 ZeO n l none (fun y e=>by cases e) h2 h3
set_option linter.all false
def lessL:List Int→List Int→Bool
 |[],[]=>false
 |[],_::_=>true
 |_::_,[]=>false
 |x::l,y::k=>if x=y then lessL l k else decide (x<y)
theorem ZgP(x:Int)(l k:List Int):lessL (x::l) (x::k)=lessL l k:=by rw[lessL,if_pos rfl]
theorem chooseR_iff:∀(s l:List Int),l∈chooseR s↔l.Sublist s
 |[],l=>by simp[chooseR]
 |x::t,l=>by
  have h:l∈chooseR (x::t)↔(l=[]∨(∃c∈chooseR t,x::c=l)∨l∈(chooseR t).tail):=by
   show l∈[]::((chooseR t).map (x::·)++(chooseR t).tail)↔_
   rw[List.mem_cons,List.mem_append,List.mem_map]
  rw[h]
  constructor
  ·rintro(rfl|⟨c,hc,rfl⟩|h)
   ·exact List.nil_sublist _
   ·exact((chooseR_iff t c).1 hc).cons_cons x
   ·exact((chooseR_iff t l).1 (by rw[chooseR_head];exact List.mem_cons_of_mem _ h)).cons x
  ·intro h
   cases h with
   |cons _ h=>
    have h2:=(chooseR_iff t l).2 h
    rw[chooseR_head] at h2
    rcases List.mem_cons.1 h2 with h2|h2
    ·exact .inl h2
    ·exact .inr (.inr h2)
   |cons_cons _ h=>exact .inr (.inl ⟨_,(chooseR_iff t _).2 h,rfl⟩)
theorem ZgK(n:Nat):((List.range n).map fun(i:Nat)=>(i:Int)).Pairwise (·<·):=by
 rw[List.pairwise_map]
 exact(List.pairwise_lt_range (n:=n)).imp fun h=>by omega
set_option linter.all false
def Zj8(r0 r1 r2 r3:Int)(S:List Rs):Bool:=Z20 r0 r1 r2 r3 S (upL S.length)
theorem Zjf{x y:Int}(hx:x=0)(hy:y=0):firstV [x,y]=0:=by
 rw[firstV,if_pos hx,firstV,if_pos hy];rfl
theorem Zjn{r0 r1 r2 r3:Int}{S:List Rs}(hc:CardOk r0 r1 r2 r3 S):Zj8 r0 r1 r2 r3 S=true↔∀s∈S,∀t∈S,Z6W r0 r1 r2 r3 s t:=by
 rw[Zj8,Z8D hc (fun p hp=>Zjk.1 hp)]
 constructor
 ·intro h s hs t ht
  obtain⟨i,hi⟩:=List.mem_iff_getElem?.1 hs
  obtain⟨j,hj⟩:=List.mem_iff_getElem?.1 ht
  have h1:=(List.getElem?_eq_some_iff.1 hi).1
  have h2:=(List.getElem?_eq_some_iff.1 hj).1
  exact h i (Zjk.2 (by omega)) j (Zjk.2 (by omega)) s t (by simpa using hi) (by simpa using hj)
 ·intro h i _ j _ s t hs ht
  exact h s (List.mem_of_getElem? hs) t (List.mem_of_getElem? ht)
section
variable {r0 r1 r2 r3:Int} {S:List Rs} (hc:ZC r0 r1 r2 r3 S=0)
include hc
theorem Zjx{s:Rs}(hs:s∈S):Z6W r0 r1 r2 r3 s s:=(Zdy (Zav hc) hs ((Zav hc).ok s hs).1).2.1
theorem Zj3{l k:List Int}(hl:∀i∈l,0≤i∧i<S.length)(hk:∀i∈k,i∈l)(h:Z20 r0 r1 r2 r3 S l=true):Z20 r0 r1 r2 r3 S k=true:=by
 rw[Z8D (Zav hc) (fun p hp=>hl p (hk p hp))]
 rw[Z8D (Zav hc) hl] at h
 exact fun i hi j hj s t hs ht=>h i (hk i hi) j (hk j hj) s t hs ht
theorem Zj4{l:List Int}(hl:∀i∈l,0≤i∧i<S.length)(h:Z20 r0 r1 r2 r3 S l=false):∃i∈l,∃k∈l,i<k∧Z20 r0 r1 r2 r3 S [i,k]=false:=by
 rw[←Bool.not_eq_true,Z8D (Zav hc) hl] at h
 simp only[Classical.not_forall] at h
 obtain⟨i,hi,j,hj,s,t,hs,ht,hn⟩:=h
 have hi0:=hl i hi
 have hj0:=hl j hj
 have hne:i≠j:=by
  rintro rfl
  rw[hs] at ht
  injection ht with ht;subst ht
  exact hn (Zjx hc (List.mem_of_getElem? hs))
 have key:∀x y,(x=i∧y=j∨x=j∧y=i)→Z20 r0 r1 r2 r3 S [x,y]=false:=by
  intro x y hxy
  have hin:∀p∈[x,y],0≤p∧p<S.length:=by
   intro p hp
   simp only[List.mem_cons,List.not_mem_nil,or_false] at hp
   rcases hxy with⟨rfl,rfl⟩|⟨rfl,rfl⟩<;>rcases hp with rfl|rfl<;>assumption
  rw[←Bool.not_eq_true,Z8D (Zav hc) hin]
  intro hall
  exact hn (hall i (by rcases hxy with⟨rfl,rfl⟩|⟨rfl,rfl⟩<;>simp) j (by rcases hxy with⟨rfl,rfl⟩|⟨rfl,rfl⟩<;>simp) s t hs ht)
 by_cases hij:i<j
 ·exact⟨i,hi,j,hj,hij,key i j (.inl ⟨rfl,rfl⟩)⟩
 ·exact⟨j,hj,i,hi,by omega,key j i (.inr ⟨rfl,rfl⟩)⟩
omit hc
theorem fitsR_nil:Z20 r0 r1 r2 r3 S []=true:=rfl
theorem Zj9(n:Nat):(upL n).Pairwise (·<·):=ZgK n
theorem Zj5(n:Nat):(upL n).length=n:=by simp[upL]
theorem lx_less:∀{a b:List Int},Lx a b→a.length=b.length→lessL b a=false
 |a,[],h,_=>by cases a<;>exact h.elim
 |[],_::_,_,h=>by simp at h
 |x::t,y::u,h,hl=>by
  rcases h with h|⟨rfl,h⟩
  ·rw[lessL,if_neg (by omega)];exact decide_eq_false (by omega)
  ·rw[ZgP];exact lx_less h (by simpa using hl)
theorem less_self:∀(l:List Int),lessL l l=false
 |[]=>rfl
 |x::l=>by rw[ZgP];exact less_self l
theorem eq_of_asc:∀{l k:List Int},l.Pairwise (·<·)→k.Pairwise (·<·)→(∀x,x∈l↔x∈k)→l=k
 |[],[],_,_,_=>rfl
 |[],y::k,_,_,h=>by have:=(h y).2 (by simp);simp at this
 |x::l,[],_,_,h=>by have:=(h x).1 (by simp);simp at this
 |x::l,y::k,hl,hk,h=>by
  have h1:=List.pairwise_cons.1 hl
  have h2:=List.pairwise_cons.1 hk
  have a1:=List.mem_cons.1 ((h x).1 (by simp))
  have a2:=List.mem_cons.1 ((h y).2 (by simp))
  obtain rfl:x=y:=by
   rcases a1 with a1|a1
   ·exact a1
   ·rcases a2 with a2|a2
    ·exact a2.symm
    ·have:=h2.1 x a1;have:=h1.1 y a2;omega
  congr 1
  refine eq_of_asc h1.2 h2.2 fun z=> ?_
  have hz:=h z
  rw[List.mem_cons,List.mem_cons] at hz
  constructor
  ·intro hm
   have:=h1.1 z hm
   rcases hz.1 (.inr hm) with e|e
   ·omega
   ·exact e
  ·intro hm
   have:=h2.1 z hm
   rcases hz.2 (.inr hm) with e|e
   ·omega
   ·exact e
theorem ZiY{n:Nat}{l:List Int}(h:l∈chooseR (upL n)):l.Pairwise (·<·)∧(∀i∈l,0≤i∧i<n)∧l.length≤n∧Zq n l=0:=by
 have hs:=(chooseR_iff _ _).1 h
 have h1:=(Zj9 n).sublist hs
 have h2:∀i∈l,0≤i∧i<n:=fun i hi=>Zjk.1 (hs.subset hi)
 exact⟨h1,h2,by have:=hs.length_le;rwa [Zj5] at this,ZeE h1 h2⟩
theorem sub_up:∀{n:Nat}{l:List Int},l.Pairwise (·<·)→(∀i∈l,0≤i∧i<n)→l∈chooseR (upL n):=by
 intro n l h1 h2
 rw[chooseR_iff]
 have e:l=(upL n).filter fun i=>decide (i∈l):=by
  have hp:=(Zj9 n).sublist (List.filter_sublist (p:=fun i=>decide (i∈l)))
  refine eq_of_asc h1 hp fun x=> ?_
  rw[List.mem_filter,Zjk]
  constructor
  ·intro hx;exact⟨h2 x hx,decide_eq_true hx⟩
  ·intro hx;simpa using hx.2
 rw[e]
 exact List.filter_sublist
end
structure Clsh(r0 r1 r2 r3:Int)(S:List Rs)(C T:List Int):Prop where
 ck:C∈chooseR (upL S.length)
 tk:T∈chooseR (upL S.length)
 fit:Z20 r0 r1 r2 r3 S T=true
 none_:Zj8 r0 r1 r2 r3 S=true→C=[]
 two:Zj8 r0 r1 r2 r3 S=false→C.length=2∧Z20 r0 r1 r2 r3 S C=false
 first:∀l,l∈chooseR (upL S.length)→l.length=2→Z20 r0 r1 r2 r3 S l=false→lessL l C=false
 most:∀l,l∈chooseR (upL S.length)→Z20 r0 r1 r2 r3 S l=true→l.length<T.length∨(l.length=T.length∧lessL l T=false)
theorem clsh{r0 r1 r2 r3:Int}{S:List Rs}(hc:ZC r0 r1 r2 r3 S=0):Clsh r0 r1 r2 r3 S (Z7L r0 r1 r2 r3 S) (Z7M r0 r1 r2 r3 S):=by
 have hok:=Zav hc
 have e1:Z7L r0 r1 r2 r3 S=(ZaG (fun l=> !Z20 r0 r1 r2 r3 S l) (fun a b=>decide (a<b)) ([],false) (chooseR (upL S.length))).1:=Zc5 hok
 have e2:Z7M r0 r1 r2 r3 S=(ZaG (Z20 r0 r1 r2 r3 S) (fun a b=>decide (b<a)) ([],false) (chooseR (upL S.length))).1:=
  ZaH (n:=S.length) hok.len bt_gt (f:=fun k=>Zz (cvS r0 r1 r2 r3 (S.map Ze)) k S.length==true) (g:=Z20 r0 r1 r2 r3 S) fun k hk=>by
   rw[Z6X hok hk]
   cases Z20 r0 r1 r2 r3 S (ZN k)<;>rfl
 rw[e1,e2]
 clear e1 e2
 have hz:Zdz (fun l=> !Z20 r0 r1 r2 r3 S l) (fun a b=>decide (a<b)) [] ([],false):=⟨fun _=>⟨rfl,fun l hl=>by cases hl⟩,fun h=>by cases h⟩
 have hz':Zdz (Z20 r0 r1 r2 r3 S) (fun a b=>decide (b<a)) [] ([],false):=⟨fun _=>⟨rfl,fun l hl=>by cases hl⟩,fun h=>by cases h⟩
 have k1:=Z4q bt_lt (chooseR (upL S.length)) [] ([],false) (by rw[List.nil_append];exact chooseR_lx _ (Zj9 _)) hz
 have k2:=Z4q bt_gt (chooseR (upL S.length)) [] ([],false) (by rw[List.nil_append];exact chooseR_lx _ (Zj9 _)) hz'
 rw[List.nil_append] at k1 k2
 generalize ZaG (fun l=> !Z20 r0 r1 r2 r3 S l) (fun a b=>decide (a<b)) ([],false) (chooseR (upL S.length))=P at k1⊢
 generalize ZaG (Z20 r0 r1 r2 r3 S) (fun a b=>decide (b<a)) ([],false) (chooseR (upL S.length))=Q at k2⊢
 clear hz hz'
 have hnil:([]:List Int)∈chooseR (upL S.length):=(chooseR_iff _ _).2 (List.nil_sublist _)
 have hall:upL S.length∈chooseR (upL S.length):=(chooseR_iff _ _).2 (List.Sublist.refl _)
 unfold Zdz at k1 k2
 dsimp only at k1 k2
 obtain⟨c1,c2⟩:=k1
 obtain⟨t1,t2⟩:=k2
 have hQ:Q.2=true:=by
  cases h:Q.2 with
  |true=>rfl
  |false=>have:=(t1 h).2 [] hnil;rw[fitsR_nil] at this;cases this
 obtain⟨t3,t4,t5⟩:=t2 hQ
 have hin:∀p∈upL S.length,0≤p∧p<S.length:=fun p hp=>Zjk.1 hp
 have hP:P.2= !Zj8 r0 r1 r2 r3 S:=by
  cases h:P.2 with
  |false=>have:=(c1 h).2 _ hall;simp only[Bool.not_eq_false'] at this;rw[Zj8,this];rfl
  |true=>
   obtain⟨c3,c4,_⟩:=c2 h
   cases hf:Zj8 r0 r1 r2 r3 S with
   |false=>rfl
   |true=>
    have:=Zj3 hc hin (fun i hi=>((chooseR_iff _ _).1 c4).subset hi) hf
    rw[this] at c3;cases c3
 refine⟨?_,t4,t3,fun h=> ?_,fun h=> ?_,fun l hl h2 hf=> ?_,fun l hl hf=> ?_⟩
 ·cases h:P.2 with
  |false=>rw[(c1 h).1];exact hnil
  |true=>exact(c2 h).2.1
 ·rw[h] at hP;exact(c1 hP).1
 ·rw[h] at hP
  obtain⟨c3,c4,c5⟩:=c2 hP
  have hCf:Z20 r0 r1 r2 r3 S P.1=false:=by simpa using c3
  obtain⟨_,d2,_,_⟩:=ZiY c4
  obtain⟨i,hi,k,hk,hik,hf⟩:=Zj4 hc d2 hCf
  have hi0:=d2 i hi
  have hk0:=d2 k hk
  have hm:[i,k]∈chooseR (upL S.length):=sub_up (by simp[hik]) (by intro x hx;simp only[List.mem_cons,List.not_mem_nil,or_false] at hx;rcases hx with rfl|rfl<;>assumption)
  refine⟨?_,hCf⟩
  have hge:2≤P.1.length:=by
   have hsub:[i,k].Sublist P.1:=by
    have:[i,k]∈chooseR P.1:=by
     rw[chooseR_iff]
     obtain⟨d1,_,_,_⟩:=ZiY c4
     have e:[i,k]=P.1.filter fun x=>decide (x∈[i,k]):=by
      refine eq_of_asc (by simp[hik]) (d1.sublist List.filter_sublist) fun x=> ?_
      rw[List.mem_filter]
      constructor
      ·intro hx
       refine⟨?_,decide_eq_true hx⟩
       simp only[List.mem_cons,List.not_mem_nil,or_false] at hx
       rcases hx with rfl|rfl<;>assumption
      ·intro hx;simpa using hx.2
     rw[e]
     exact List.filter_sublist
    exact(chooseR_iff _ _).1 this
   exact hsub.length_le
  rcases c5 _ hm (by rw[hf];rfl) with h5|h5|⟨h5,_⟩
  ·rw[←h5];rfl
  ·have:=of_decide_eq_true h5;simp only[List.length_cons,List.length_nil] at this;omega
  ·exact h5
 ·have hP1:P.2=true:=by
   cases h:P.2 with
   |true=>rfl
   |false=>have:=(c1 h).2 l hl;rw[hf] at this;cases this
  obtain⟨c3,c4,c5⟩:=c2 hP1
  rcases c5 l hl (by rw[hf];rfl) with rfl|h5|⟨h5,h6⟩
  ·exact less_self _
  ·have h7:=of_decide_eq_true h5
   have hCf:Z20 r0 r1 r2 r3 S P.1=false:=by simpa using c3
   obtain⟨_,d2,_,_⟩:=ZiY c4
   obtain⟨i,hi,k,hk,hik,_⟩:=Zj4 hc d2 hCf
   exfalso
   rcases hP3:P.1 with _|⟨x,_|⟨y,q⟩⟩
   ·rw[hP3] at hi;cases hi
   ·rw[hP3] at hi hk
    simp only[List.mem_cons,List.not_mem_nil,or_false] at hi hk
    omega
   ·rw[hP3] at h7;simp only[List.length_cons] at h7;omega
  ·exact lx_less h6 h5
 ·rcases t5 l hl hf with rfl|h5|⟨h5,h6⟩
  ·exact .inr ⟨rfl,less_self _⟩
  ·have:=of_decide_eq_true h5;exact .inl (by omega)
  ·exact .inr ⟨h5.symm,lx_less h6 h5⟩
section
variable {r0 r1 r2 r3:Int} {S:List Rs} {C T:List Int} (hc:ZC r0 r1 r2 r3 S=0) (h:Clsh r0 r1 r2 r3 S C T)
include h
theorem Clsh.ct:Zj8 r0 r1 r2 r3 S=decide (T.length=S.length):=by
 obtain⟨_,t2,t3,_⟩:=ZiY h.tk
 cases hf:Zj8 r0 r1 r2 r3 S with
 |true=>
  have:=h.most _ ((chooseR_iff _ _).2 (List.Sublist.refl _)) hf
  rw[Zj5] at this
  exact(decide_eq_true (by omega)).symm
 |false=>
  refine(decide_eq_false fun e=> ?_).symm
  have:T=upL S.length:=((chooseR_iff _ _).1 h.tk).eq_of_length (by rw[Zj5,e])
  have h1:=h.fit
  rw[this] at h1
  rw[Zj8] at hf
  rw[hf] at h1;cases h1
include hc
end
set_option linter.all false
theorem OwnS.raw{w:World}{b:Nat}{v:Value}{S:List Rs}(h:OwnS b w v S):∃bl cl,v= .slice bl S.length cl∧RawS w bl S∧S.length≤cl:=by
 by_cases h0:0<S.length
 ·obtain⟨g,cap,rfl,_,_,hr,hc,_⟩:=h.form h0
  exact⟨_,cap,rfl,hr,hc⟩
 ·have:S=[]:=List.eq_nil_of_length_eq_zero (by omega)
  subst this
  rcases h.2 with⟨rfl,_⟩|⟨g,cap,cur,rfl,_⟩
  ·exact⟨none,0,rfl,fun i s hs=>by simp at hs,Nat.le_refl _⟩
  ·exact⟨_,cap,rfl,fun i s hs=>by simp at hs,Nat.zero_le _⟩
theorem OwnS.same{w w':World}{b:Nat}{v:Value}{S:List Rs}(h:OwnS b w v S)(e:∀k,v.ownBlock=some k→w'.heap[k]? =w.heap[k]?):OwnS b w' v S:=Z3d h e
end Go.Proofs.Tryq
