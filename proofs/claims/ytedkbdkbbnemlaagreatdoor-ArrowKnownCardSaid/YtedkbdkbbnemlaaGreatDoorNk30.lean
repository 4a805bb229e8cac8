import Derived.Test.YtedkbdkbbnemlaaGreatDoorNk29
set_option linter.all false
namespace Go.Proofs.Tryq
set_option maxRecDepth 100000
set_option maxHeartbeats 8000000
open Go Go.Nk Go.RowKit
set_option linter.all false
def Zm4(x:Sf)(k:Nat)(pk:List Int)(i:Nat):Int:=(spA x k).1+Zgu pk (3*i+k) % ((spA x k).2 - (spA x k).1+1)
def ZlZ(L:List Sf)(pk:List Int)(i k:Nat):Int:=match L[i]? with
 |some x=>Zm4 x k pk i
 |none=>0
theorem Zm8{x:Sf}{k:Nat}(h:0<=(spA x k).1/\(spA x k).1<=(spA x k).2/\(spA x k).2<=9999)(pk:List Int)(i:Nat):(spA x k).1<=Zm4 x k pk i/\Zm4 x k pk i<=(spA x k).2:=by
 have h3:(spA x k).2 - (spA x k).1+1≠0:=by omega
 have h5:=Int.emod_nonneg (Zgu pk (3*i+k)) h3;have h6:=Int.emod_lt_of_pos (Zgu pk (3*i+k)) (show 0<(spA x k).2 - (spA x k).1+1 by omega);unfold Zm4;generalize Zgu pk (3*i+k) % ((spA x k).2 - (spA x k).1+1)=y at h5 h6⊢;omega
theorem Zm9{a b c m:Int}{L:List Sf}(hs:StockOk a b c m L)(pk:List Int):InM L (ZlZ L pk)/\∀i k,0<=ZlZ L pk i k/\ZlZ L pk i k<=9999:=by
 refine⟨fun i x hx k _=> ?_,fun i k=> ?_⟩
 ·rw[ZlZ,hx];exact Zm8 (hs.ok x (List.mem_of_getElem? hx) k) pk i
 ·unfold ZlZ;split
  ·rename_i x hx;have h1:=hs.ok x (List.mem_of_getElem? hx) k;have h2:=Zm8 h1 pk i;omega
  ·omega
theorem Zma(a b c m:Int)(bs off n cap:Nat)(x:Sf)(i k:Nat)(pb:Option Addr)(pn pc:Nat)(pk:List Int)(w:World)(D8:bs<w.heap.size)(hi:i<n)(hn:n<=20)(hk:k<3)(sx:ShaftAt w bs (off+i*7) x)(hx:0<=(spA x k).1/\(spA x k).1<=(spA x k).2/\(spA x k).2<=9999)
 (A2:pk.length=pn)(hu:∀x∈pk,0<=x/\x<65536)(hl:RawU w pb pk):
 Calls prog 76 #[.agg #[.int .i64 a,.int .i64 b,.int .i64 c,.int .i64 m,.slice (some ⟨bs,off,none⟩) n cap],.int .i64 i,.int .i64 k,.slice pb pn pc] w fun e w'=>e= .returned (.int .i64 (Zm4 x k pk i))/\Ext w w':=by
 have U4:=fun w=>Z31 x k hk w
 have P0:=fun W (hW:Ext w W)=>Zgl pb pn pc pk (3*i+k) W A2 (by omega) hu (hl.ext hW)
 have Pg:=Zgp (m:=65535) (by omega) (fun x hx=>by have:=hu x hx;omega:∀x∈pk,0<=x/\x<=65535) (3*i+k);have H:Hid (Zm4 x k pk i=(spA x k).1+Zgu pk (3*i+k) % ((spA x k).2 - (spA x k).1+1)):=rfl;simp only[sfC] at U4;generalize Zm4 x k pk i=R at H⊢;generalize spA x k=P at U4 hx H;obtain⟨P1,P2⟩:=P;dsimp only at U4 hx H;have Oh:=fun W=>Zgq P1 P2 (Zgu pk (3*i+k)) W hx.2.1 (by omega) (by omega) (by omega)
 rw[<-H.out] at Oh;clear H;have h1:wrap64 (3*(i:Int))=3*(i:Int):=Z6a _ (by omega);have h2:wrap64 (3*(i:Int)+(k:Int))=((3*i+k:Nat):Int):=by rw[Z6a (3*(i:Int)+(k:Int)) (by omega)];push_cast;rfl
 generalize Zgu pk (3*i+k)=ch at P0 Oh;have Ej:(i:Int)<(n:Int):=by omega
 clear hu hl A2 Pg;have Al:=(Ext.rfl' w).alloc (.cells #[.int .i64 a,.int .i64 b,.int .i64 c,.int .i64 m,.slice (some ⟨bs,off,none⟩) n cap] 26);have hr:(w.alloc (.cells #[.int .i64 a,.int .i64 b,.int .i64 c,.int .i64 m,.slice (some ⟨bs,off,none⟩) n cap] 26)).heap[w.heap.size]? =some (.cells #[.int .i64 a,.int .i64 b,.int .i64 c,.int .i64 m,.slice (some ⟨bs,off,none⟩) n cap] 26):=(Z3 _ _ _).trans (if_pos rfl);have Cx:=hr;obtain⟨q0,q1,q2,q3,q4⟩:=Zgj Cx;have x0:=Al.cellS sx.1;have x1:=Al.cellS sx.2;have x2:=Al.cellS sx.3;have x3:=Al.cellS sx.4;have x4:=Al.cellS sx.5;have x5:=Al.cellS sx.6;have x6:=Al.cellS sx.7;clear Cx sx hr;go_enter func76,ntmps76
 go_wp2_with (first
  |(go_at_call 33;refine(U4 _).mono ?_;rintro e w2 ⟨rfl,A7⟩
    have Au:=Al.trans A7)
  |(go_at_call 48;refine(P0 _ Au).mono ?_;rintro e w3 ⟨rfl,Ar⟩
    have B0:=Au.trans Ar)
  |(go_at_call 47;refine(Oh _).mono ?_;rintro e w4 ⟨rfl,C7⟩
    have H5:=B0.trans C7))
 go_ret;exact⟨rfl,H5⟩
def MtdT(a b c:Int)(R:Nat->Nat->Int)(l:List Int)(kw i j:Nat):Prop:=∀(k i' j':Nat)(x y:Int),(k<kw\/(k=kw/\(i'<i\/(i'=i/\j'<j))))->l[i']? =some x->l[j']? =some y->R x.toNat k - R y.toNat k<=alw a b c k
section
variable {a b c:Int} {R:Nat->Nat->Int} {l:List Int} {kw i j:Nat}
theorem MtdT.start:MtdT a b c R l 0 0 0:=fun k i' j' x y h=>(by omega)
theorem MtdT.step(h:MtdT a b c R l kw i j){x y:Nat}(hx:l[i]? =some (x:Int))(hy:l[j]? =some (y:Int))(hd:R x kw - R y kw<=alw a b c kw):MtdT a b c R l kw i (j+1):=by
 intro k i' j' x' y' ho hx' hy';by_cases e:k=kw/\i'=i/\j'=j
 ·obtain⟨rfl,rfl,rfl⟩:=e;rw[hx] at hx';rw[hy] at hy';cases hx';cases hy';exact hd
 ·exact h k i' j' x' y' (by omega) hx' hy'
theorem MtdT.row(h:MtdT a b c R l kw i j)(hj:l.length<=j):MtdT a b c R l kw (i+1) 0:=by
 intro k i' j' x' y' ho hx' hy';have:=(List.getElem?_eq_some_iff.1 hy').1;exact h k i' j' x' y' (by omega) hx' hy'
theorem MtdT.next(h:MtdT a b c R l kw i 0)(hi:l.length<=i):MtdT a b c R l (kw+1) 0 0:=by
 intro k i' j' x' y' ho hx' hy';have:=(List.getElem?_eq_some_iff.1 hx').1;exact h k i' j' x' y' (by omega) hx' hy'
theorem MtdT.done(h:MtdT a b c R l 3 0 0):Mtd a b c R l:=by
 intro k hk x hx y hy;obtain⟨i',hi⟩:=List.mem_iff_getElem?.1 hx;obtain⟨j',hj⟩:=List.mem_iff_getElem?.1 hy;exact h k i' j' x y (by omega) hi hj
end
theorem Zm5(a b c m:Int)(base:Option Addr)(n cap:Nat)(l:List Int)(bl:Option Addr)(k cl:Nat)(pb:Option Addr)(pn pc:Nat)(R:Nat->Nat->Int)(mb:Bool)(w:World)(hk:Hid (l.length=k))(Ay:k<=100)(Am:Hid (∀x∈l,0<=x/\x<n))(Mm:Hid (mb=true↔Mtd a b c R l))(Vl:Hid (∀i k,0<=R i k/\R i k<=9999))(hI:Hid (RawI w bl l))
 (Mo:∀W (i k:Nat),Ext w W->i<n->k<3->Calls prog 76 #[.agg #[.int .i64 a,.int .i64 b,.int .i64 c,.int .i64 m,.slice base n cap],.int .i64 i,.int .i64 k,.slice pb pn pc] W fun e w'=>e= .returned (.int .i64 (R i k))/\Ext W w'):
 Calls prog 32 #[.agg #[.int .i64 a,.int .i64 b,.int .i64 c,.int .i64 m,.slice base n cap],.slice bl k cl,.slice pb pn pc] w fun e w'=>e= .returned (.bool mb)/\Ext w w':=by
 have Al:=(Ext.rfl' w).alloc (.cells #[.int .i64 a,.int .i64 b,.int .i64 c,.int .i64 m,.slice base n cap] 26);have hr:(w.alloc (.cells #[.int .i64 a,.int .i64 b,.int .i64 c,.int .i64 m,.slice base n cap] 26)).heap[w.heap.size]? =some (.cells #[.int .i64 a,.int .i64 b,.int .i64 c,.int .i64 m,.slice base n cap] 26):=(Z3 _ _ _).trans (if_pos rfl);go_enter func32,ntmps32;go_wp2;generalize World.alloc _ _=w1 at Al hr⊢;go_loopw [7] (fun v7 wr=>∃kw:Nat,kw<=3/\v7= .int .i64 kw/\Ext w wr/\wr.heap[w.heap.size]? =some (.cells #[.int .i64 a,.int .i64 b,.int .i64 c,.int .i64 m,.slice base n cap] 26)/\Hid (MtdT a b c R l kw 0 0)) (fun v7 _=>3 - (intOf v7).toNat)
 case atStart=>exact⟨0,by omega,rfl,Al,hr,MtdT.start⟩
 case round=>
  clear Al hr;obtain⟨kw,hkw,rfl,hE,hr,HT⟩:=hrel;by_cases h3:kw=3
  ·subst h3;have hm:mb=true:=Mm.out.2 HT.out.done;subst hm;clear HT;go_wp2;go_ret;exact⟨rfl,hE⟩
  ·have hkw2:(kw:Int)<=2:=by omega
   go_wp2;obtain⟨wo,rfl⟩:∃wo:World,wo=wr:=⟨_,rfl⟩;go_loopw [8] (fun v8 wr=>∃i:Nat,i<=k/\v8= .int .i64 i/\Ext w wr/\wr.heap[w.heap.size]? =some (.cells #[.int .i64 a,.int .i64 b,.int .i64 c,.int .i64 m,.slice base n cap] 26)/\Hid (MtdT a b c R l kw i 0)) (fun v8 _=>k - (intOf v8).toNat)
   case atStart=>exact⟨0,by omega,rfl,hE,hr,HT⟩
   case round=>
    clear hE hr HT;obtain⟨i,hi,rfl,hE,hr,HT⟩:=hrel;by_cases Pt:i=k
    ·subst Pt;have HN:Hid (MtdT a b c R l (kw+1) 0 0):=HT.out.next (by have:=hk.out;omega);clear HT;go_wp2;exact⟨⟨kw+1,by omega,by push_cast;rfl,hE,hr,HN⟩,by simp[intOf];omega⟩
    ·have hil:(i:Int)<(k:Int):=(by omega);go_wp2;obtain⟨wp,rfl⟩:∃wp:World,wp=wr:=⟨_,rfl⟩;go_loopw [9] (fun v9 wr=>∃j:Nat,j<=k/\v9= .int .i64 j/\Ext w wr/\wr.heap[w.heap.size]? =some (.cells #[.int .i64 a,.int .i64 b,.int .i64 c,.int .i64 m,.slice base n cap] 26)/\Hid (MtdT a b c R l kw i j)) (fun v9 _=>k - (intOf v9).toNat)
     case atStart=>exact⟨0,by omega,rfl,hE,hr,HT⟩
     case round=>
      clear hE hr HT;obtain⟨j,hj,rfl,hE,hr,HT⟩:=hrel;by_cases Fx:j=k
      ·subst Fx;have HN:Hid (MtdT a b c R l kw (i+1) 0):=HT.out.row (by have:=hk.out;omega);clear HT;go_wp2;exact⟨⟨i+1,by omega,by push_cast;rfl,hE,hr,HN⟩,by simp[intOf];omega⟩
      ·have Ht:(j:Int)<(k:Int):=(by omega);obtain⟨x,La⟩:∃x,l[i]? =some x:=⟨_,List.getElem?_eq_getElem (by have:=hk.out;omega)⟩;obtain⟨y,Lb⟩:∃y,l[j]? =some y:=⟨_,List.getElem?_eq_getElem (by have:=hk.out;omega)⟩;have B6:=Am.out x (List.mem_of_getElem? La);have B9:=Am.out y (List.mem_of_getElem? Lb);obtain⟨xn,rfl⟩:=Int.eq_ofNat_of_zero_le B6.1;obtain⟨yn,rfl⟩:=Int.eq_ofNat_of_zero_le B9.1;obtain⟨bb,ob,rfl,B4,U5⟩:=hI.out i _ La;obtain⟨b2,o2,e2,An,U6⟩:=hI.out j _ Lb;obtain⟨rfl,rfl⟩:bb=b2/\ob=o2:=(by simpa using e2);have hcx:=hE.cellS U5;have hcy:=hE.cellS U6;have Kb:Hid (l[i]? =some (xn:Int)):=La;have hyj:Hid (l[j]? =some (yn:Int)):=Lb;clear La Lb U5 U6 e2 B4 An;have hrx:=fun W (hW:Ext wr W)=>Mo W xn kw (hE.trans hW) (by omega) (by omega)
       have hry:=fun W (hW:Ext wr W)=>Mo W yn kw (hE.trans hW) (by omega) (by omega)
       have hax:=fun W=>Z6Z a b c m kw (by omega) W
       have Fq:=Vl.out xn kw;have Hz:=Vl.out yn kw;obtain⟨rx,Oo⟩:∃z,z=R xn kw:=⟨_,rfl⟩;obtain⟨ry,Oq⟩:∃z,z=R yn kw:=⟨_,rfl⟩;obtain⟨ax,Or⟩:∃z,z=alw a b c kw:=⟨_,rfl⟩;rw[<-Oo] at hrx Fq;rw[<-Oq] at hry Hz;rw[<-Or] at hax;have Lc:Hid (rx=R xn kw):=Oo;have Ld:Hid (ry=R yn kw):=Oq;have Le:Hid (ax=alw a b c kw):=Or;clear Oo Oq Or B6 B9;have Uj:wrap64 (rx - ry)=rx - ry:=Z6a _ (by omega);obtain⟨q0,q1,q2,q3,q4⟩:=Zgj hr;have g0:=Zet q0;have g1:=Zet q1;have g2:=Zet q2;have g3:=Zet q3;have g4:=Zet q4;have gx:=Zet hcx;have gy:=Zet hcy;go_wp2;refine ZeG 22 (by kernel_rfl) ?_;refine ZeB [0,1,2,3,4,5,6,8,9,10,11,12,13,14,17,18,19] (by kernel_rfl) (by kernel_rfl) ?_;simp only[ZeD,List.getElem?_cons_succ,List.getElem?_cons_zero,List.cons_append,List.nil_append]
       repeat (go_big_quiet_step (fail))
       refine wpQuiet_nil ?_;refine ZeX 7 (f:=76) (args:= #[.agg #[.int .i64 a,.int .i64 b,.int .i64 c,.int .i64 m,.slice base n cap],.int .i64 xn,.int .i64 kw,.slice pb pn pc]) (v:= .int .i64 rx) (by kernel_rfl) rfl (by kernel_rfl) rfl (fun W=>by simp[go_sem,execOp,Act.eval]) (hrx) ?_;go_simp;refine ZeX 15 (f:=76) (args:= #[.agg #[.int .i64 a,.int .i64 b,.int .i64 c,.int .i64 m,.slice base n cap],.int .i64 yn,.int .i64 kw,.slice pb pn pc]) (v:= .int .i64 ry) (by kernel_rfl) rfl (by kernel_rfl) rfl (fun W=>by simp[go_sem,execOp,Act.eval]) (hry) ?_;go_simp;refine ZeB [16] (by kernel_rfl) (by kernel_rfl) ?_;simp only[ZeD,List.getElem?_cons_succ,List.getElem?_cons_zero,List.cons_append,List.nil_append]
       repeat (go_big_quiet_step (fail))
       refine wpQuiet_nil ?_;refine ZeX 20 (f:=99) (args:= #[.agg #[.int .i64 a,.int .i64 b,.int .i64 c,.int .i64 m],.int .i64 kw]) (v:= .int .i64 ax) (by kernel_rfl) rfl (by kernel_rfl) rfl (fun W=>by simp[go_sem,execOp,Act.eval]) (fun W _=>hax W) ?_;go_simp;refine ZeB [21] (by kernel_rfl) (by kernel_rfl) ?_;simp only[ZeD,List.getElem?_cons_succ,List.getElem?_cons_zero,List.cons_append,List.nil_append]
       repeat (go_big_quiet_step (fail))
       refine wpQuiet_nil ?_;refine Zf6 (by kernel_rfl) (fun W hW=> ?_);have A7:=hE.trans hW;replace hr:=hW.get hr;clear q0 q1 q2 q3 q4 g0 g1 g2 g3 g4 gx gy hcx hcy hrx hry hax hW hE;by_cases hd:rx - ry<=ax
       ·have hd2:¬ax<rx - ry:=(by omega);have HN:Hid (MtdT a b c R l kw i (j+1)):=HT.out.step Kb.out hyj.out (by rw[<-Lc.out,<-Ld.out,<-Le.out];exact hd);clear HT Lc Ld Le;go_wp2;exact⟨⟨j+1,by omega,by push_cast;rfl,A7,hr,HN⟩,by simp[intOf];omega⟩
       ·have hd2:ax<rx - ry:=(by omega);have hm:mb=false:=by
         cases e:mb with
         |false=>rfl
         |true=>
          have h3:=(Mm.out.1 e) kw (by omega) xn (List.mem_of_getElem? Kb.out) yn (List.mem_of_getElem? hyj.out);rw[Int.toNat_natCast,Int.toNat_natCast,<-Lc.out,<-Ld.out,<-Le.out] at h3;omega
        subst hm;clear HT Lc Ld Le;go_wp2;go_ret;exact⟨rfl,A7⟩
theorem Zm6(a b c m:Int)(base:Option Addr)(n cap:Nat)(L:List Sf)(l:List Int)(bl:Option Addr)(k cl:Nat)(pb:Option Addr)(pn pc:Nat)(pk:List Int)(mb:Bool)(w:World)(hs:Zp a b c m L=0)(hL:L.length=n)(hS:RawA w base L)(hk:l.length=k)(Ay:k<=100)(Am:∀x∈l,0<=x/\x<n)(Mm:mb=true↔Mtd a b c (ZlZ L pk) l)(hI:RawI w bl l)
 (A2:pk.length=pn)(hu:∀x∈pk,0<=x/\x<65536)(hl:RawU w pb pk):
 Calls prog 32 #[.agg #[.int .i64 a,.int .i64 b,.int .i64 c,.int .i64 m,.slice base n cap],.slice bl k cl,.slice pb pn pc] w fun e w'=>e= .returned (.bool mb)/\Ext w w':=by
 have Az:=ZlF hs;refine Zm5 a b c m base n cap l bl k cl pb pn pc (ZlZ L pk) mb w hk Ay Am Mm (Zm9 Az pk).2 hI fun W i k hW hi hk=> ?_
 obtain⟨x,hx⟩:∃x,L[i]? =some x:=⟨_,List.getElem?_eq_getElem (by omega)⟩;obtain⟨bs,off,rfl,hb,sx,_⟩:=(hS.ext hW) i x hx;have h9:=Az.len;have:=Zma a b c m bs off n cap x i k pb pn pc pk W hb hi (by omega) hk sx (Az.ok x (List.mem_of_getElem? hx) k) A2 hu (hl.ext hW);rw[ZlZ,hx];exact this
end Go.Proofs.Tryq
namespace Go.Proofs.Tryq
open Go Go.Nk Go.RowKit
set_option linter.all false
theorem Zmb{N:Int}{p q:Int×Int}(hp:p.1<=p.2)(hq:q.1<=q.2)(hN:0<=N):Z2Q N p q=2↔N<p.1 - q.2\/N<q.1 - p.2:=by
 unfold Z2Q;split
 ·constructor
  ·intro h;cases h
  ·intro h;exfalso;omega
 ·split
  ·exact⟨fun _=>by omega,fun _=>rfl⟩
  ·constructor
   ·intro h;cases h
   ·intro h;exfalso;omega
theorem Zmd{a b c:Int}{L L':List Sf}{l:List Int}(hl:l.Pairwise (·<·))(h:∀p∈l,L'[p.toNat]? =L[p.toNat]?):Zr (apA a b c L' l)=Zr (apA a b c L l):=by
 have key:∀p q x y,Two L' l p q x y↔Two L l p q x y:=by
  intro p q x y;constructor
  ·rintro⟨h1,h2,h3,h4,h5⟩;exact⟨h1,h2,h3,by rw[<-h p h1];exact h4,by rw[<-h q h2];exact h5⟩
  ·rintro⟨h1,h2,h3,h4,h5⟩;exact⟨h1,h2,h3,by rw[h p h1];exact h4,by rw[h q h2];exact h5⟩
 have h1:Zr (apA a b c L' l)=1↔Zr (apA a b c L l)=1:=by
  rw[Zlp hl,Zlp hl];simp only[key]
 have h2:Zr (apA a b c L' l)=2↔Zr (apA a b c L l)=2:=by
  rw[ZlS hl,ZlS hl];simp only[key]
 have h3:=Zlv (apA a b c L' l);have h4:=Zlv (apA a b c L l);omega
theorem Zmg{a b c m:Int}{L:List Sf}(hs:Zp a b c m L=0){i k:Nat}(hk:k<3){p:Int×Int}(By:p.1<=p.2)(hp:∀x,L[i]? =some x->(spA x k).1<=p.1/\p.2<=(spA x k).2){l:List Int}(hl:l.Pairwise (·<·)):
 (Zr (apA a b c L l)≠0->Zr (apA a b c (Zla L i k p) l)=Zr (apA a b c L l))/\(¬(i:Int)∈l->(∀j∈l,0<=j)->Zr (apA a b c (Zla L i k p) l)=Zr (apA a b c L l)):=by
 have Az:=ZlF hs;have key:∀(j:Nat)(u u':Sf),L[j]? =some u'->(Zla L i k p)[j]? =some u->∀q,q<3->(spA u' q).1<=(spA u q).1/\(spA u q).1<=(spA u q).2/\(spA u q).2<=(spA u' q).2:=by
  intro j u u' hu' hu q hq;have h0:=Az.ok u' (List.mem_of_getElem? hu') q;obtain⟨z,hz,rfl⟩:=Zlc hu;rw[hu'] at hz;cases hz;split
  ·rename_i e;subst e;rw[Zm3 hk hq];split
   ·rename_i e;subst e;have:=hp _ hu';exact⟨this.1,By,this.2⟩
   ·exact⟨Int.le_refl _,h0.2.1,Int.le_refl _⟩
  ·exact⟨Int.le_refl _,h0.2.1,Int.le_refl _⟩
 constructor
 ·intro h0;rcases Zlv (apA a b c L l) with h|h|h
  ·exact absurd h h0
  ·rw[h];rw[Zlp hl] at h;refine(Zlp hl).2 fun s t x' y' ⟨C6,Fd,Aa,hx',hy'⟩ q hq=> ?_
   obtain⟨x,hx,_⟩:=Zlc hx';obtain⟨y,hy,_⟩:=Zlc hy';have h1:=h s t x y ⟨C6,Fd,Aa,hx,hy⟩ q hq;have k1:=key _ _ _ hx hx' q hq;have k2:=key _ _ _ hy hy' q hq;rw[Zmj] at h1⊢;omega
  ·rw[h];rw[ZlS hl] at h;obtain⟨s,t,x,y,⟨C6,Fd,Aa,hx,hy⟩,q,hq,h2⟩:=h;have g1:=(List.getElem?_eq_some_iff.1 hx).1;have g2:=(List.getElem?_eq_some_iff.1 hy).1;obtain⟨x',hx'⟩:∃z,(Zla L i k p)[s.toNat]? =some z:=⟨_,List.getElem?_eq_getElem (by rw[Zlb];exact g1)⟩;obtain⟨y',hy'⟩:∃z,(Zla L i k p)[t.toNat]? =some z:=⟨_,List.getElem?_eq_getElem (by rw[Zlb];exact g2)⟩;refine(ZlS hl).2 ⟨s,t,x',y',⟨C6,Fd,Aa,hx',hy'⟩,q,hq,?_⟩;have k1:=key _ _ _ hx hx' q hq;have k2:=key _ _ _ hy hy' q hq;have hr:=(Az.r q).1;unfold Z1m at h2⊢;rw[Zmb (by omega) (by omega) hr] at h2;rw[Zmb (by omega) (by omega) hr];omega
 ·intro hil h0;refine Zmd hl fun s C6=> ?_
  unfold Zla;split
  ·rw[List.getElem?_set_ne];intro e;have:=h0 s C6;exact hil (by rw[show(i:Int)=s by omega];exact C6)
  ·rfl
def Gd(L LL:List Sf)(R:Nat->Nat->Int)(i v:Nat):Prop:=LL.length=L.length/\∀(j:Nat)(x x':Sf),L[j]? =some x->LL[j]? =some x'->x'.nm=x.nm/\∀k,k<3->spA x' k=if j<i\/(j=i/\k<v) then(R j k,R j k) else spA x k
theorem Gd.start(L:List Sf)(R:Nat->Nat->Int):Gd L L R 0 0:=by
 refine⟨rfl,fun j x x' h h'=> ?_⟩;rw[h] at h';cases h';exact⟨rfl,fun k _=>by rw[if_neg (by omega)]⟩
section
variable {L LL:List Sf} {R:Nat->Nat->Int} {i v:Nat}
theorem Gd.next(h:Gd L LL R i 3):Gd L LL R (i+1) 0:=by
 refine⟨h.1,fun j x x' hx hx'=>⟨(h.2 j x x' hx hx').1,fun k hk=> ?_⟩⟩;rw[(h.2 j x x' hx hx').2 k hk];by_cases e:j<i\/(j=i/\k<3)
 ·rw[if_pos e,if_pos (by omega)]
 ·rw[if_neg e,if_neg (by omega)]
theorem Gd.step(h:Gd L LL R i v)(hv:v<3):Gd L (Zla LL i v (R i v,R i v)) R i (v+1):=by
 refine⟨by rw[Zlb];exact h.1,fun j x x' hx hx'=> ?_⟩;obtain⟨z,hz,rfl⟩:=Zlc hx';obtain⟨h1,h2⟩:=h.2 j x z hx hz;by_cases e:j=i
 ·subst e;rw[if_pos rfl];refine⟨by rw[Zle];exact h1,fun k hk=> ?_⟩;rw[Zm3 hv hk];by_cases e2:k=v
  ·subst e2;rw[if_pos rfl,if_pos (by omega)]
  ·rw[if_neg e2,h2 k hk];by_cases e3:k<v
   ·rw[if_pos (by omega),if_pos (by omega)]
   ·rw[if_neg (by omega),if_neg (by omega)]
 ·rw[if_neg e];refine⟨h1,fun k hk=> ?_⟩;rw[h2 k hk];by_cases e3:j<i
  ·rw[if_pos (by omega),if_pos (by omega)]
  ·rw[if_neg (by omega),if_neg (by omega)]
theorem Gd.at(h:Gd L LL R i v)(hv:v<3){x x':Sf}(hx:L[i]? =some x)(hx':LL[i]? =some x'):spA x' v=spA x v:=by
 rw[(h.2 i x x' hx hx').2 v hv,if_neg (by omega)]
theorem Gd.stock{a b c m:Int}(hs:Zp a b c m L=0)(hR:InM L R)(h:Gd L LL R i v):Zp a b c m LL=0:=by
 have Az:=ZlF hs;refine Zm2 h.1 (fun j x x' hx hx'=> ?_) hs;obtain⟨h1,h2⟩:=h.2 j x x' hx hx';refine⟨h1,fun k hk=> ?_⟩;have h3:=Az.ok x (List.mem_of_getElem? hx) k;have h4:=hR j x hx k hk;rw[h2 k hk];split
 ·simp only;omega
 ·exact h3
theorem Gd.done{a b c m:Int}(hs:Zp a b c m L=0)(h:Gd L LL R L.length 0){l:List Int}(hl:l.Pairwise (·<·))(Am:∀i∈l,0<=i/\i<L.length):(Zr (apA a b c LL l)=1/\Mtd a b c R l)\/(Zr (apA a b c LL l)=2/\¬Mtd a b c R l):=by
 refine Zmf (fun k=>((ZlF hs).r k).1) hl (fun i hi=>by rw[h.1];exact Am i hi) fun j x' hx' k hk=> ?_
 have hj:=(List.getElem?_eq_some_iff.1 hx').1;rw[h.1] at hj;rw[(h.2 j _ x' (List.getElem?_eq_getElem hj) hx').2 k hk,if_pos (.inl hj)]
end
set_option linter.all false
def sfV(x:Sf):List Value:=[.string x.nm,.int .i64 x.a0,.int .i64 x.a1,.int .i64 x.b0,.int .i64 x.b1,.int .i64 x.c0,.int .i64 x.c1]
def ZkU(L:List Sf):List Value:=L.flatMap sfV
theorem sfsV_len:∀S:List Sf,(ZkU S).length=S.length*7
 |[]=>rfl
 |s::S=>by
  have:=sfsV_len S;simp only[ZkU,List.flatMap_cons,List.length_append,List.length_cons] at*;rw[this];simp[sfV];omega
theorem sfsV_at:∀(S:List Sf)(i:Nat)(s:Sf),S[i]? =some s->∀c,c<7->(ZkU S)[i*7+c]? =(sfV s)[c]?
 |[],i,s,h,c,hc=>by simp at h
 |x::S,0,s,h,c,hc=>by
  obtain rfl:x=s:=by simpa using h
  simp only[ZkU,List.flatMap_cons];rw[List.getElem?_append_left (by simp[sfV];omega)];simp
 |x::S,i+1,s,h,c,hc=>by
  have ih:=sfsV_at S i s (by simpa using h) c hc;simp only[ZkU,List.flatMap_cons] at*;rw[List.getElem?_append_right (by simp[sfV];omega),<-ih];congr 1;simp[sfV];omega
theorem Zl3(S:List Sf):∀u∈ZkU S,u.oneCell'=true:=by
 intro u hu;obtain⟨s,_,hs⟩:=List.mem_flatMap.1 hu;simp only[sfV,List.mem_cons,List.not_mem_nil,or_false] at hs;rcases hs with rfl|rfl|rfl|rfl|rfl|rfl|rfl<;>rfl
theorem ZkQ{w:World}{B O:Nat}{S:List Sf}(h:RawA w (some ⟨B,O,none⟩) S):∀j u,(ZkU S)[j]? =some u->w.cell? ((⟨B,O,none⟩:Addr).add j)=some u:=by
 intro j u hj;have A3:=(List.getElem?_eq_some_iff.1 hj).1;rw[sfsV_len] at A3;have hi:j / 7<S.length:=by omega
 obtain⟨s,hs⟩:∃s,S[j / 7]? =some s:=⟨_,List.getElem?_eq_getElem hi⟩;have h1:=sfsV_at S (j / 7) s hs (j % 7) (Nat.mod_lt _ (by omega));rw[show j / 7*7+j % 7=j by omega,hj] at h1;obtain⟨b,o,e,_,sh,_⟩:=h _ s hs;obtain⟨rfl,rfl⟩:B=b/\O=o:=by simpa using e
 have e2:(⟨B,O,none⟩:Addr).add j=⟨B,O+j / 7*7+j % 7,none⟩:=by rw[Zh7];congr 1;omega
 rw[e2];have hm:j % 7<7:=Nat.mod_lt _ (by omega);generalize j % 7=c at h1 hm
 match c,hm,h1 with
 |0,_,h1=>simp[sfV] at h1;rw[h1];exact sh.k0
 |1,_,h1=>simp[sfV] at h1;rw[h1];exact sh.k1
 |2,_,h1=>simp[sfV] at h1;rw[h1];exact sh.k2
 |3,_,h1=>simp[sfV] at h1;rw[h1];exact sh.k3
 |4,_,h1=>simp[sfV] at h1;rw[h1];exact sh.k4
 |5,_,h1=>simp[sfV] at h1;rw[h1];exact sh.k5
 |6,_,h1=>simp[sfV] at h1;rw[h1];exact sh.k6
theorem ZkS{w:World}{B O:Nat}{S:List Sf}(hB:B<w.heap.size)(hn:∀x∈S,x.nm.size<=maxLen)(h:∀j u,(ZkU S)[j]? =some u->w.cell? ⟨B,O+j,none⟩=some u):RawA w (some ⟨B,O,none⟩) S:=by
 intro i s hs;have k:=fun c (hc:c<7) u (hu:(sfV s)[c]? =some u)=>h (i*7+c) u ((sfsV_at S i s hs c hc).trans hu)
 refine⟨B,O,rfl,hB,?_,hn s (List.mem_of_getElem? hs)⟩;have k0:=k 0 (by omega) _ rfl;have k1:=k 1 (by omega) _ rfl;have k2:=k 2 (by omega) _ rfl;have k3:=k 3 (by omega) _ rfl;have k4:=k 4 (by omega) _ rfl;have k5:=k 5 (by omega) _ rfl;have k6:=k 6 (by omega) _ rfl;exact⟨k0,k1,k2,k3,k4,k5,k6⟩
theorem RawA.size{w:World}{base:Option Addr}{L:List Sf}(h:RawA w base L):∀x∈L,x.nm.size<=maxLen:=by
 intro x hx;obtain⟨i,hi⟩:=List.mem_iff_getElem?.1 hx;obtain⟨_,_,_,_,_,h4⟩:=h i x hi;exact h4
theorem u24:prog.underlying 24=some (.slice 51):=(underlying_eq 24).trans Tryz.underlying24
theorem i51:prog.info? 51=some Tryz.t51:=by kernel_rfl
theorem t51z:Tryz.t51.zero=some (.agg #[.string .empty,.int .i64 0,.int .i64 0,.int .i64 0,.int .i64 0,.int .i64 0,.int .i64 0]):=by kernel_rfl
theorem t51s:Tryz.t51.size=7:=by kernel_rfl
theorem t51b:Tryz.t51.bytes=64:=by kernel_rfl
def OwnA(base:Nat)(w:World)(v:Value)(S:List Sf):Prop:=w.ownsRow base 51 7 v S.length (ZkU S)
theorem ZkR{w:World}{base b:Nat}(h:w.heap[b]? =some (.cells #[] 51))(hb:base<=b):OwnA base w (.slice (some ⟨b,0,none⟩) 0 0) []:=
 ⟨rfl,.inr ⟨b,0,#[],rfl,hb,h,Nat.le_refl _,by simp[maxLen],rfl,rfl⟩⟩
theorem OwnA.form{w:World}{b:Nat}{v:Value}{S:List Sf}(h:OwnA b w v S)(h0:0<S.length)(hn:∀x∈S,x.nm.size<=maxLen):∃g cap,v= .slice (some ⟨g,0,none⟩) S.length cap/\b<=g/\g<w.heap.size/\RawA w (some ⟨g,0,none⟩) S/\S.length<=cap/\cap<=maxLen:=by
 have hc:=fun g hg=>World.ownsRow.cells (g:=g) h hg
 rcases h.2 with⟨_,h1⟩|⟨g,cap,cur,rfl,hb,hg,h1,h2,_,_⟩
 ·omega
 ·refine⟨g,cap,rfl,hb,Z5 hg,ZkS (Z5 hg) hn fun j u hj=> ?_,h1,h2⟩;have:=hc g rfl j u hj;rw[Zh7] at this;exact this
end Go.Proofs.Tryq
namespace Go.Proofs.Tryq
set_option maxRecDepth 100000
set_option maxHeartbeats 4000000
open Go Go.Nk Go.RowKit
set_option linter.all false
theorem Zl6{base:Nat}{w:World}{v:Value}{n:Nat}{L:List Sf}(h:w.ownsRow base 51 7 v n (ZkU L))(hn:L.length=n):OwnA base w v L:=by subst hn;exact h
theorem Zl4(base:Option Addr)(n cap:Nat)(L:List Sf)(w:World)(hn:L.length=n)(h0:0<n)(h1:n<=100)(hL:RawA w base L):
 Calls prog 130 #[.slice base n cap] w fun e w'=>∃g' cap',e= .returned (.slice (some ⟨g',0,none⟩) n cap')/\OwnA w.heap.size w' (.slice (some ⟨g',0,none⟩) n cap') L/\Ext w w':=by
 obtain⟨x0,B6⟩:∃x,L[0]? =some x:=⟨_,List.getElem?_eq_getElem (by omega)⟩;obtain⟨g,o,rfl,_,_⟩:=hL 0 x0 B6
 have hb:∀w,(binOp .eql 24 (.slice (some ⟨g,o,none⟩) n cap) (.slice none 0 0)).run prog w= .ok (.bool false) w:=fun w=>by
  simp[go_sem,binOp,run_equal_slice_nil w 24 51 _ n cap u24]
 have hX:∀(j:Nat) u,(ZkU L)[j]? =some u->(w.alloc (.cells #[] 51)).cell? ((⟨g,o,none⟩:Addr).add j)=some u:=by
  intro j u hu;exact((Ext.rfl' w).alloc _).cellS (ZkQ hL j u hu)
 clear B6 hL;go_enter func130,ntmps130
 go_wp2_with (
  at_builtin
  refine wpList_append_own _ rfl _ _ _ rfl w.heap.size 51 Tryz.t51 _ 7 64 u24 i51 t51z t51s t51b rfl (by omega) _ 0 [] rfl (ZkR ((Z3 _ _ _).trans (if_pos rfl)) (Nat.le_refl _)) ⟨g,o,none⟩ n cap (ZkU L) rfl (by rw[sfsV_len,hn]) hX (Zl3 L) (by simp[maxLen];omega) (by omega) (by simp) ?_;intro v' w3 Aj Ac _;replace Aj:w3.ownsRow w.heap.size 51 7 v' n (ZkU L):=by simpa using Aj
  obtain⟨g',cp',rfl,Rz,S1⟩:=World.ownsRow.form Aj (by omega);have B8:(w.alloc (.cells #[] 51)).grownBy w3 (some w.heap.size):=Ac;have Au:Ext w w3:=((Ext.rfl' w).alloc _).grown B8 (fun k hk=>by cases hk;exact Nat.le_refl _))
 go_ret;exact⟨g',cp',rfl,Zl6 Aj hn,Au⟩
theorem ZkT{w:World}{g:Nat}{cur:Array Value}{t:TypeId}{L:List Sf}(hb:w.heap[g]? =some (.cells cur t))(h:RawA w (some ⟨g,0,none⟩) L){i k K:Nat}(hi:i<L.length)(hk:k<3)(hK:K=1+2*k)(p q:Int):
 RawA ((w.setCell ⟨g,i*7+K,none⟩ (.int .i64 p)).setCell ⟨g,i*7+K+1,none⟩ (.int .i64 q)) (some ⟨g,0,none⟩) (Zla L i k (p,q)):=by
 intro j x' hx';obtain⟨x,hx,rfl⟩:=Zlc hx';obtain⟨b,o,e,A3,sh,hn⟩:=h j x hx;obtain⟨rfl,rfl⟩:g=b/\0=o:=by simpa using e
 have An:=Zb (i:=i*7+K+1) (Zb (i:=i*7+K) hb (.int .i64 p)) (.int .i64 q);have B1:j*7+6<cur.size:=by
  have:=sh.k6;rw[Z0 hb] at this;have:=(Array.getElem?_eq_some_iff.1 this).1;omega
 generalize (w.setCell ⟨g,i*7+K,none⟩ (.int .i64 p)).setCell ⟨g,i*7+K+1,none⟩ (.int .i64 q)=W at An⊢;have G:∀o v,w.cell? ⟨g,o,none⟩=some v->¬o=i*7+K->¬o=i*7+K+1->W.cell? ⟨g,o,none⟩=some v:=by
  intro o v ho h1 h2;rw[Z0 hb] at ho;rw[Z0 An,Array.getElem?_setIfInBounds_ne (fun h=>h2 h.symm),Array.getElem?_setIfInBounds_ne (fun h=>h1 h.symm),ho]
 have G1:j=i->W.cell? ⟨g,i*7+K,none⟩=some (.int .i64 p):=by
  rintro rfl;rw[Z0 An,Array.getElem?_setIfInBounds_ne (by omega),Array.getElem?_setIfInBounds_self_of_lt (by omega)]
 have G2:j=i->W.cell? ⟨g,i*7+K+1,none⟩=some (.int .i64 q):=by
  rintro rfl;rw[Z0 An,Array.getElem?_setIfInBounds_self_of_lt (by rw[Array.size_setIfInBounds];omega)]
 refine⟨g,0,rfl,Z5 An,?_,?_⟩
 ·by_cases Ao:j=i
  ·subst Ao;rw[if_pos rfl];have G1:=G1 rfl;have G2:=G2 rfl
   match k,hk with
   |0,_=>exact⟨G _ _ sh.k0 (by omega) (by omega),by simpa[Zl9,hK] using G1,by simpa[Zl9,hK] using G2,G _ _ sh.k3 (by omega) (by omega),G _ _ sh.k4 (by omega) (by omega),G _ _ sh.k5 (by omega) (by omega),G _ _ sh.k6 (by omega) (by omega)⟩
   |1,_=>exact⟨G _ _ sh.k0 (by omega) (by omega),G _ _ sh.k1 (by omega) (by omega),G _ _ sh.k2 (by omega) (by omega),by simpa[Zl9,hK] using G1,by simpa[Zl9,hK] using G2,G _ _ sh.k5 (by omega) (by omega),G _ _ sh.k6 (by omega) (by omega)⟩
   |2,_=>exact⟨G _ _ sh.k0 (by omega) (by omega),G _ _ sh.k1 (by omega) (by omega),G _ _ sh.k2 (by omega) (by omega),G _ _ sh.k3 (by omega) (by omega),G _ _ sh.k4 (by omega) (by omega),by simpa[Zl9,hK] using G1,by simpa[Zl9,hK] using G2⟩
  ·rw[if_neg Ao];exact⟨G _ _ sh.k0 (by omega) (by omega),G _ _ sh.k1 (by omega) (by omega),G _ _ sh.k2 (by omega) (by omega),G _ _ sh.k3 (by omega) (by omega),G _ _ sh.k4 (by omega) (by omega),G _ _ sh.k5 (by omega) (by omega),G _ _ sh.k6 (by omega) (by omega)⟩
 ·split
  ·rw[Zle];exact hn
  ·exact hn
end Go.Proofs.Tryq
namespace Go.Proofs.Tryq
open Go Go.Nk Go.RowKit
set_option linter.all false
theorem OwnA.block{w:World}{base g n cap:Nat}{L:List Sf}(h:OwnA base w (.slice (some ⟨g,0,none⟩) n cap) L):∃cur,w.heap[g]? =some (.cells cur 51):=by
 rcases h.2 with⟨h1,_⟩|⟨g2,cap2,cur,e,_,hg,_⟩
 ·cases h1
 ·cases e;exact⟨cur,hg⟩
theorem ZkJ{w w':World}{g O:Nat}{S:List Sf}(h:RawA w (some ⟨g,O,none⟩) S)(e:w'.heap[g]? =w.heap[g]?):RawA w' (some ⟨g,O,none⟩) S:=by
 intro i s hs;obtain⟨b,off,e1,hb,sh,hz⟩:=h i s hs;obtain⟨rfl,rfl⟩:g=b/\O=off:=by simpa using e1
 have hc:∀o,w'.cell? ⟨g,o,none⟩=w.cell? ⟨g,o,none⟩:=fun o=>by simp only[World.cell?,e]
 have hb':g<w'.heap.size:=by
  rw[Array.getElem?_eq_getElem hb] at e;exact(Array.getElem?_eq_some_iff.1 e).1
 exact⟨g,O,rfl,hb',⟨by rw[hc];exact sh.k0,by rw[hc];exact sh.k1,by rw[hc];exact sh.k2,by rw[hc];exact sh.k3,by rw[hc];exact sh.k4,by rw[hc];exact sh.k5,by rw[hc];exact sh.k6⟩,hz⟩
theorem Zld{w:World}{b o:Nat}{x:Sf}{k:Nat}(h:ShaftAt w b o x)(hk:k<3):w.cell? ⟨b,o+(1+2*k),none⟩=some (.int .i64 (spA x k).1)/\w.cell? ⟨b,o+(1+2*k)+1,none⟩=some (.int .i64 (spA x k).2):=by
 obtain rfl|rfl|rfl:k=0\/k=1\/k=2:=by omega
 ·exact⟨h.k1,h.k2⟩
 ·exact⟨h.k3,h.k4⟩
 ·exact⟨h.k5,h.k6⟩
set_option linter.all false
theorem box3(w:World)(A B C:Obj):Ext w (((w.alloc A).alloc B).alloc C)/\(((w.alloc A).alloc B).alloc C).heap[w.heap.size]? =some A/\(((w.alloc A).alloc B).alloc C).heap[w.heap.size+1]? =some B/\(((w.alloc A).alloc B).alloc C).heap[w.heap.size+1+1]? =some C:=by
 refine⟨(((Ext.rfl' w).alloc A).alloc B).alloc C,?_,?_,?_⟩
 ·simp only[Z3,Z2];rw[if_neg (by omega),if_neg (by omega),if_pos trivial]
 ·simp only[Z3,Z2];rw[if_neg (by omega),if_pos trivial]
 ·simp only[Z3,Z2];rw[if_pos trivial]
end Go.Proofs.Tryq
namespace Go.Proofs.Tryq
set_option maxRecDepth 100000
set_option maxHeartbeats 8000000
open Go Go.Nk Go.RowKit
set_option linter.all false
theorem box4(w:World)(A B C D:Obj):Ext w ((((w.alloc A).alloc B).alloc C).alloc D)/\((((w.alloc A).alloc B).alloc C).alloc D).heap[w.heap.size]? =some A/\((((w.alloc A).alloc B).alloc C).alloc D).heap[w.heap.size+1]? =some B/\((((w.alloc A).alloc B).alloc C).alloc D).heap[w.heap.size+1+1]? =some C/\((((w.alloc A).alloc B).alloc C).alloc D).heap[w.heap.size+1+1+1]? =some D:=by
 obtain⟨h1,h2,h3,h4⟩:=box3 w A B C;have hX:=(Ext.rfl' (((w.alloc A).alloc B).alloc C)).alloc D;exact⟨h1.alloc _,hX.get h2,hX.get h3,hX.get h4,by rw[Z3,if_pos (by simp only[Z2])]⟩
theorem Zl1(a b c m p q:Int)(base:Option Addr)(n cap:Nat)(L:List Sf)(w:World)(A2:L.length=n)(hn:n<=20)(hM:Meas w)(hS:RawA w base L)(i k:Int)(h:Zo a b c m L [i]=0)(hk:0<=k/\k<=2)(G5:¬(0<=p/\p<=q/\q<=9999)):
 Calls prog 73 #[.agg #[.int .i64 a,.int .i64 b,.int .i64 c,.int .i64 m,.slice base n cap],.int .i64 i,.int .i64 k,.agg #[.int .i64 p,.int .i64 q]] w fun e w'=>e= .returned (.tuple #[.agg #[.int .i64 0,.int .i64 0,.int .i64 0,.int .i64 0,.slice none 0 0],.int .i64 1])/\Ext w w':=by
 have ho:=fun W (hW:Ext w W) ad hl=>Z3c a b c m base n cap L ad 1 1 [i] W A2 hn rfl (by omega) (hM.ext hW) (hS.ext hW) hl
 have hB:=fun W=>Z09 k 0 2 W
 have hI:=fun W=>Z84 p q 0 9999 W
 rw[decide_eq_true hk] at hB;rw[decide_eq_false G5] at hI;simp only[h] at ho;clear h hS G5;obtain⟨Bf,De,By,K7,Hs⟩:=box4 w (.cells #[.int .i64 a,.int .i64 b,.int .i64 c,.int .i64 m,.slice base n cap] 26) (.cells #[.int .i64 p,.int .i64 q] 48) (.cells #[.int .i64 0,.int .i64 0,.int .i64 0,.int .i64 0,.slice none 0 0] 26) (.cells #[.int .i64 i] 3);go_enter func73,ntmps73
 go_wp2_with (first
  |(go_at_call 86;refine(ho _ Bf _ (Z7I Hs)).mono ?_;rintro e w2 ⟨rfl,hF⟩
    have Al:=Bf.trans hF;have hG:=(Ext.rfl' w2).alloc (.cells #[.int .i64 a,.int .i64 b,.int .i64 c,.int .i64 m,.slice base n cap] 120);have hE:=Al.trans hG;have hr:=hG.get (hF.get De);have hp:=hG.get (hF.get By);have hz:=hG.get (hF.get K7);clear hF hG;obtain⟨q0,q1,q2,q3,q4⟩:=Zgj hr;have y:=Zc hp;have y0:=y.1;have y1:=y.2.1;obtain⟨z0,z1,z2,z3,z4⟩:=Zgj hz;obtain⟨f0,f1,f2,f3,f4⟩:=ZiJ hz)
  |(go_at_call 110;refine(hB _).mono ?_;rintro e w3 ⟨rfl,D6⟩;cases D6)
  |(go_at_call 129;refine(hI _).mono ?_;rintro e w3 ⟨rfl,hF⟩
    replace hE:=hE.trans hF;replace hr:=hF.get hr;replace hp:=hF.get hp;replace hz:=hF.get hz;clear hF y y0 y1 q0 q1 q2 q3 q4 z0 z1 z2 z3 z4 f0 f1 f2 f3 f4;obtain⟨q0,q1,q2,q3,q4⟩:=Zgj hr;have y:=Zc hp;have y0:=y.1;have y1:=y.2.1;obtain⟨z0,z1,z2,z3,z4⟩:=Zgj hz;obtain⟨f0,f1,f2,f3,f4⟩:=ZiJ hz))
 obtain⟨k0,k1,k2,k3,k4⟩:=Zgj (ZiD hz (.int .i64 0) (.int .i64 0) (.int .i64 0) (.int .i64 0) (.slice none 0 0));simp only[ZjW] at k0 k1 k2 k3 k4;refine bodyPost_ret (v:= .tuple #[.agg #[.int .i64 0,.int .i64 0,.int .i64 0,.int .i64 0,.slice none 0 0],.int .i64 1]) ((Z01 rfl _ _ _).trans ?_) rfl ⟨rfl,ZiE hE (show w.heap.size<=w.heap.size+1+1 by omega) _ _ _ _ _⟩;simp[go_sem,k0,k1,k2,k3,k4]
theorem ZkK(a b c m p q P1 P2 U V:Int)(bs off n cap:Nat)(L:List Sf)(x:Sf)(i k f K:Nat)(w:World)(A2:L.length=n)(hn:n<=20)(hM:Meas w)(hS:RawA w (some ⟨bs,off,none⟩) L)(h:Zo a b c m L [(i:Int)]=0)(hi:i<n)(hk:k<3)(hK:K=1+2*k)(G5:0<=p/\p<=q/\q<=9999)(hx:L[i]? =some x)(Qb:(spA x k).1=P1)(Iu:(spA x k).2=P2)(hU:max P1 p=U)(hV:min P2 q=V)
 (g0:w.cell? ⟨0,k*2,none⟩=some (.func (.func f) #[] #[]))
 (hf:∀b off W,Calls prog f #[.pointer (some ⟨b,off,none⟩)] W fun e w'=>e= .returned (.pointer (some ⟨b,off+K,none⟩))/\Ext W w')
 (F7:∀args w,(callFunc f args).run prog w= .ok (.enter f args) w):
 Calls prog 73 #[.agg #[.int .i64 a,.int .i64 b,.int .i64 c,.int .i64 m,.slice (some ⟨bs,off,none⟩) n cap],.int .i64 i,.int .i64 k,.agg #[.int .i64 p,.int .i64 q]] w fun e w'=>(V<U->e= .returned (.tuple #[.agg #[.int .i64 0,.int .i64 0,.int .i64 0,.int .i64 0,.slice none 0 0],.int .i64 10]))/\(U<=V->∃g' cap',e= .returned (.tuple #[.agg #[.int .i64 a,.int .i64 b,.int .i64 c,.int .i64 m,.slice (some ⟨g',0,none⟩) n cap'],.int .i64 0])/\n<=cap'/\w.heap.size<=g'/\(∃cur,w'.heap[g']? =some (.cells cur 51))/\RawA w' (some ⟨g',0,none⟩) (Zla L i k (U,V)))/\Ext w w':=by
 have ho:=fun W (hW:Ext w W) ad hl=>Z3c a b c m (some ⟨bs,off,none⟩) n cap L ad 1 1 [(i:Int)] W A2 hn rfl (by omega) (hM.ext hW) (hS.ext hW) hl
 have hB:=fun W=>Z09 (k:Int) 0 2 W
 have hI:=fun W=>Z84 p q 0 9999 W
 have Ad:=fun W=>Z7i P1 P2 p q W
 have Ct:=fun W (hW:Ext w W)=>Zl4 (some ⟨bs,off,none⟩) n cap L W A2 (by omega) (by omega) (hS.ext hW)
 have Ls:=hS.size;replace hK:Hid (K=1+2*k):=hK;rw[decide_eq_true G5] at hI;rw[decide_eq_true (show(0:Int)<=(k:Int)/\(k:Int)<=2 by omega)] at hB;simp only[h] at ho;rw[hU,hV] at Ad;have Ej:(i:Int)<(n:Int):=by omega
 clear h hS G5 hU hV;obtain⟨Bf,De,By,K7,Hs⟩:=box4 w (.cells #[.int .i64 a,.int .i64 b,.int .i64 c,.int .i64 m,.slice (some ⟨bs,off,none⟩) n cap] 26) (.cells #[.int .i64 p,.int .i64 q] 48) (.cells #[.int .i64 0,.int .i64 0,.int .i64 0,.int .i64 0,.slice none 0 0] 26) (.cells #[.int .i64 i] 3);go_enter func73,ntmps73
 go_wp2_with (first
  |(go_at_call 86;refine(ho _ Bf _ (Z7I Hs)).mono ?_;rintro e w2 ⟨rfl,hF⟩
    have Al:=Bf.trans hF;have hG:=(Ext.rfl' w2).alloc (.cells #[.int .i64 a,.int .i64 b,.int .i64 c,.int .i64 m,.slice (some ⟨bs,off,none⟩) n cap] 120);have hE:=Al.trans hG;have hr:=hG.get (hF.get De);have hp:=hG.get (hF.get By);have hz:=hG.get (hF.get K7);clear hF hG;obtain⟨q0,q1,q2,q3,q4⟩:=Zgj hr;have y:=Zc hp;have y0:=y.1;have y1:=y.2.1;obtain⟨z0,z1,z2,z3,z4⟩:=Zgj hz;obtain⟨f0,f1,f2,f3,f4⟩:=ZiJ hz)
  |(go_at_call 110;refine(hB _).mono ?_;rintro e w3 ⟨rfl,D6⟩;cases D6)
  |(go_at_call 129;refine(hI _).mono ?_;rintro e w3 ⟨rfl,hF⟩
    replace hE:=hE.trans hF;replace hr:=hF.get hr;replace hp:=hF.get hp;replace hz:=hF.get hz;clear hF y y0 y1 q0 q1 q2 q3 q4 z0 z1 z2 z3 z4 f0 f1 f2 f3 f4;obtain⟨q0,q1,q2,q3,q4⟩:=Zgj hr;have y:=Zc hp;have y0:=y.1;have y1:=y.2.1;obtain⟨z0,z1,z2,z3,z4⟩:=Zgj hz;obtain⟨f0,f1,f2,f3,f4⟩:=ZiJ hz)
  |(go_at_call 130;refine(Ct _ hE).mono ?_;rintro e w4 ⟨g',cp',rfl,Ag,hF⟩
    obtain⟨cur,Gm⟩:=Ag.block;obtain⟨g2,cp2,e2,Cj,hglt,hR,U7,U4⟩:=Ag.form (by omega) Ls;obtain⟨rfl,-,rfl⟩:g'=g2/\n=L.length/\cp'=cp2:=(by simpa using e2);rw[A2] at U7;have hsz3:=Z5 hr;have hsz3p:=Z5 hp;have hsz3z:=Z5 hz;replace hE:=hE.trans hF;replace hr:=hF.get hr;replace hp:=hF.get hp;replace hz:=hF.get hz;clear hF y y0 y1 q0 q1 q2 q3 q4 z0 z1 z2 z3 z4 f0 f1 f2 f3 f4 Ag e2;have q4:=(Zgj hr).2.2.2.2;have f4:=Z8 hr 4))
 have B0:=hE.setCell ⟨w.heap.size,4,none⟩ (.slice (some ⟨g',0,none⟩) n cp') (Nat.le_refl _);have Gw:=Zb (i:=4) hr (.slice (some ⟨g',0,none⟩) n cp');have hp5:=(set_ne (w:=w4) (a:=⟨w.heap.size,4,none⟩) (show w.heap.size+1≠w.heap.size by omega) (.slice (some ⟨g',0,none⟩) n cp')).trans hp;have Mf:=(set_ne (w:=w4) (a:=⟨w.heap.size,4,none⟩) (show w.heap.size+1+1≠w.heap.size by omega) (.slice (some ⟨g',0,none⟩) n cp')).trans hz;have Hi:=(set_ne (w:=w4) (a:=⟨w.heap.size,4,none⟩) (show g'≠w.heap.size by omega) (.slice (some ⟨g',0,none⟩) n cp')).trans Gm;have Vm:=ZkJ hR (set_ne (w:=w4) (a:=⟨w.heap.size,4,none⟩) (show g'≠w.heap.size by omega) (.slice (some ⟨g',0,none⟩) n cp'));simp only[List.setIfInBounds_toArray,List.set_cons_succ,List.set_cons_zero] at Gw;clear hE hr hp hz Gm hR q4 f4;generalize World.setCell w4 _ _=w5 at B0 Gw hp5 Mf Hi Vm⊢;obtain⟨bq,oq,eq,_,sx,_⟩:=Vm i x hx;obtain⟨rfl,rfl⟩:g'=bq/\0=oq:=by simpa using eq
 obtain⟨c1,c2⟩:=Zld sx hk;rw[<-hK.out,Qb,Nat.zero_add] at c1;rw[<-hK.out,Iu,Nat.zero_add] at c2;clear sx eq;have g05:=B0.cellS g0;obtain⟨q0,q1,q2,q3,q4⟩:=Zgj Gw;have gg:=Zet g05;have gq4:=Zet q4;have Ay:(k:Int)<3:=by omega
 refine ZeG 10 (by kernel_rfl) ?_;refine ZeB [0,1,2,3,4,5,6,7] (by kernel_rfl) (by kernel_rfl) ?_;simp only[ZeD,List.getElem?_cons_succ,List.getElem?_cons_zero,List.cons_append,List.nil_append]
 repeat (go_big_quiet_step (fail))
 refine wpQuiet_nil ?_;refine ZeX 8 (f:=f) (args:= #[.pointer (some ⟨g',i*7,none⟩)]) (v:= .pointer (some ⟨g',i*7+K,none⟩)) (by kernel_rfl) rfl (by kernel_rfl) rfl (fun W=>by simp[go_sem,execOp,Act.eval,F7]) (fun W _=>hf _ _ W) ?_;go_simp;refine ZeB [9] (by kernel_rfl) (by kernel_rfl) ?_;simp only[ZeD,List.getElem?_cons_succ,List.getElem?_cons_zero,List.cons_append,List.nil_append]
 repeat (go_big_quiet_step (fail))
 refine wpQuiet_nil ?_;refine Zf6 (by kernel_rfl) (fun W hW=> ?_);have C7:=B0.trans hW;have hr6:=hW.get Gw;have hp6:=hW.get hp5;have Td:=hW.get Mf;have hg6:=hW.get Hi;have hR6:=Vm.ext hW;have d1:=hW.cellS c1;have d2:=hW.cellS c2;clear B0 Gw hp5 Mf Hi Vm c1 c2 q0 q1 q2 q3 q4 gg gq4 hW g05;have y:=Zc hp6;have y0:=y.1;have y1:=y.2.1;have gd1:=Zet d1;have gd2:=Zet d2;have gy0:=Zet y0;have gy1:=Zet y1;go_wp2_with fail;refine ZeG 5 (by kernel_rfl) ?_;refine Zin [0,3] (by kernel_rfl) (by kernel_rfl) ?_;simp only[ZeD,List.getElem?_cons_succ,List.getElem?_cons_zero,List.cons_append,List.nil_append]
 repeat (go_big_quiet_step (fail))
 refine wpQuiet_nil ?_;refine Zl5 1 (v:= .pointer (some ⟨g',i*7+K,none⟩)) (by kernel_rfl) rfl (by kernel_rfl) rfl (fun W=>by simp[go_sem,execOp,Act.eval]) ?_;go_simp;refine Zin [2] (by kernel_rfl) (by kernel_rfl) ?_;simp only[ZeD,List.getElem?_cons_succ,List.getElem?_cons_zero,List.cons_append,List.nil_append]
 repeat (go_big_quiet_step (fail))
 refine wpQuiet_nil ?_;refine Zib 4 (f:=114) (args:= #[.agg #[.int .i64 P1,.int .i64 P2],.agg #[.int .i64 p,.int .i64 q]]) (v:= .agg #[.int .i64 U,.int .i64 V]) (by kernel_rfl) rfl (by kernel_rfl) rfl (fun W=>by simp[go_sem,execOp,Act.eval]) (fun W _=>Ad W) ?_;go_simp;refine Zfp 1 (by kernel_rfl) (fun W hW=> ?_);simp only[List.drop_succ_cons,List.drop_zero];have H5:=C7.trans hW;have hr7:=hW.get hr6;have hp7:=hW.get hp6;have hz7:=hW.get Td;have hg7:=hW.get hg6;have hR7:=hR6.ext hW;have d1:=hW.cellS d1;have d2:=hW.cellS d2;clear C7 hr6 hp6 Td hg6 hR6 y y0 y1 gd1 gd2 gy0 gy1 hW;have y:=Zc hp7;have y0:=y.1;have y1:=y.2.1;have y2:=y.2.2.1;have y3:=y.2.2.2;clear y;go_wp2_with fail;refine Zfm ?_;have Jr:=(H5.setCell ⟨w.heap.size+1,0,none⟩ (.int .i64 U) (by simp)).setCell ⟨w.heap.size+1,1,none⟩ (.int .i64 V) (by simp);have hp8:=set_pair hp7 (.int .i64 U) (.int .i64 V);have K8:∀b,b≠w.heap.size+1->((W.setCell ⟨w.heap.size+1,0,none⟩ (.int .i64 U)).setCell ⟨w.heap.size+1,1,none⟩ (.int .i64 V)).heap[b]? =W.heap[b]? :=fun b hb=>(set_ne (a:=⟨w.heap.size+1,1,none⟩) hb (.int .i64 V)).trans (set_ne (a:=⟨w.heap.size+1,0,none⟩) hb (.int .i64 U))
 have hr8:=(K8 _ (by omega)).trans hr7;have U8:=(K8 _ (by omega)).trans hz7;have U9:=(K8 g' (by omega)).trans hg7;have hR8:=ZkJ hR7 (K8 g' (by omega));clear K8 H5 hr7 hp7 hz7 hg7 hR7 y0 y1 y2 y3 d1 d2;generalize World.setCell (World.setCell W _ _) _ _=w8 at Jr hr8 hp8 U8 U9 hR8⊢;obtain⟨bq,oq,eq,_,sx,_⟩:=hR8 i x hx;obtain⟨rfl,rfl⟩:g'=bq/\0=oq:=by simpa using eq
 obtain⟨c1,c2⟩:=Zld sx hk;rw[<-hK.out,Qb,Nat.zero_add] at c1;rw[<-hK.out,Iu,Nat.zero_add] at c2;have t1:=Z8 U9 (i*7+K);have t2:=Z8 U9 (i*7+K+1);clear sx eq;have y:=Zc hp8;have y0:=y.1;have y1:=y.2.1;clear y;by_cases hUV:V<U
 ·obtain⟨z0,z1,z2,z3,z4⟩:=Zgj U8;obtain⟨f0,f1,f2,f3,f4⟩:=ZiJ U8;have hz:=U8;go_wp2_with fail;obtain⟨k0,k1,k2,k3,k4⟩:=Zgj (ZiD hz (.int .i64 0) (.int .i64 0) (.int .i64 0) (.int .i64 0) (.slice none 0 0));simp only[ZjW] at k0 k1 k2 k3 k4;refine bodyPost_ret (v:= .tuple #[.agg #[.int .i64 0,.int .i64 0,.int .i64 0,.int .i64 0,.slice none 0 0],.int .i64 10]) ((Z01 rfl _ _ _).trans ?_) rfl ⟨fun _=>rfl,fun h=>absurd hUV (by omega),ZiE Jr (show w.heap.size<=w.heap.size+1+1 by omega) _ _ _ _ _⟩;simp[go_sem,k0,k1,k2,k3,k4]
 ·have hUV2:U<=V:=by omega
  have Cw:=(Jr.setCell ⟨g',i*7+K,none⟩ (.int .i64 U) (show w.heap.size<=g' by omega)).setCell ⟨g',i*7+K+1,none⟩ (.int .i64 V) (show w.heap.size<=g' by omega);have X8:=ZkT U9 hR8 (by omega:i<L.length) hk hK.out U V;have K9:∀b,b≠g'->((w8.setCell ⟨g',i*7+K,none⟩ (.int .i64 U)).setCell ⟨g',i*7+K+1,none⟩ (.int .i64 V)).heap[b]? =w8.heap[b]? :=fun b hb=>(set_ne (a:=⟨g',i*7+K+1,none⟩) hb (.int .i64 V)).trans (set_ne (a:=⟨g',i*7+K,none⟩) hb (.int .i64 U))
  have Hf:=(K9 w.heap.size (by omega)).trans hr8;have hz9:=(K9 (w.heap.size+1+1) (by omega)).trans U8;clear K9;obtain⟨q0,q1,q2,q3,q4⟩:=Zgj Hf;obtain⟨z0,z1,z2,z3,z4⟩:=Zgj hz9;obtain⟨f0,f1,f2,f3,f4⟩:=ZiJ hz9;go_wp2_with fail;obtain⟨k0,k1,k2,k3,k4⟩:=Zgj (ZiD hz9 (.int .i64 a) (.int .i64 b) (.int .i64 c) (.int .i64 m) (.slice (some ⟨g',0,none⟩) n cp'));have hR10:=ZkJ X8 (ZiG _ (show g'≠w.heap.size+1+1 by omega) (.int .i64 a) (.int .i64 b) (.int .i64 c) (.int .i64 m) (.slice (some ⟨g',0,none⟩) n cp'));simp only[ZjW] at k0 k1 k2 k3 k4;refine bodyPost_ret (v:= .tuple #[.agg #[.int .i64 a,.int .i64 b,.int .i64 c,.int .i64 m,.slice (some ⟨g',0,none⟩) n cp'],.int .i64 0]) ((Z01 rfl _ _ _).trans ?_) rfl ⟨fun h=>absurd h (by omega),⟨g',cp',rfl,U7,by omega,⟨_,(ZiG _ (show g'≠w.heap.size+1+1 by omega) _ _ _ _ _).trans (Zb (i:=i*7+K+1) (Zb (i:=i*7+K) U9 (.int .i64 U)) (.int .i64 V))⟩,hR10⟩,ZiE Cw (show w.heap.size<=w.heap.size+1+1 by omega) _ _ _ _ _⟩;simp[go_sem,k0,k1,k2,k3,k4]
theorem Zl2(a b c m p q P1 P2 U V:Int)(bs off n cap:Nat)(L:List Sf)(x:Sf)(i k:Nat)(w:World)(A2:L.length=n)(hn:n<=20)(hM:Meas w)(hS:RawA w (some ⟨bs,off,none⟩) L)(h:Zo a b c m L [(i:Int)]=0)(hi:i<n)(hk:k<3)(G5:0<=p/\p<=q/\q<=9999)(hx:L[i]? =some x)(Qb:(spA x k).1=P1)(Iu:(spA x k).2=P2)(hU:max P1 p=U)(hV:min P2 q=V):
 Calls prog 73 #[.agg #[.int .i64 a,.int .i64 b,.int .i64 c,.int .i64 m,.slice (some ⟨bs,off,none⟩) n cap],.int .i64 i,.int .i64 k,.agg #[.int .i64 p,.int .i64 q]] w fun e w'=>(V<U->e= .returned (.tuple #[.agg #[.int .i64 0,.int .i64 0,.int .i64 0,.int .i64 0,.slice none 0 0],.int .i64 10]))/\(U<=V->∃g' cap',e= .returned (.tuple #[.agg #[.int .i64 a,.int .i64 b,.int .i64 c,.int .i64 m,.slice (some ⟨g',0,none⟩) n cap'],.int .i64 0])/\n<=cap'/\w.heap.size<=g'/\(∃cur,w'.heap[g']? =some (.cells cur 51))/\RawA w' (some ⟨g',0,none⟩) (Zla L i k (U,V)))/\Ext w w':=by
 have hE:∀{f:Nat}{o:Nat},(∀b off W,Calls prog f #[.pointer (some ⟨b,off,none⟩)] W fun e w'=>e= .returned (.pointer (some ⟨b,off+o,none⟩))/\w'=W)->∀b off W,Calls prog f #[.pointer (some ⟨b,off,none⟩)] W fun e w'=>e= .returned (.pointer (some ⟨b,off+o,none⟩))/\Ext W w':=by
  intro f o hf b off W;refine(hf b off W).mono ?_;rintro e w2 ⟨rfl,rfl⟩;exact⟨rfl,Ext.rfl' _⟩
 obtain rfl|rfl|rfl:k=0\/k=1\/k=2:=by omega
 ·exact ZkK a b c m p q P1 P2 U V bs off n cap L x i 0 211 1 w A2 hn hM hS h hi hk rfl G5 hx Qb Iu hU hV (hM 0 (by omega)) (hE Z7o) (fun args w=>by simp[go_sem])
 ·exact ZkK a b c m p q P1 P2 U V bs off n cap L x i 1 213 3 w A2 hn hM hS h hi hk rfl G5 hx Qb Iu hU hV (hM 2 (by omega)) (hE Z7p) (fun args w=>by simp[go_sem])
 ·exact ZkK a b c m p q P1 P2 U V bs off n cap L x i 2 215 5 w A2 hn hM hS h hi hk rfl G5 hx Qb Iu hU hV (hM 4 (by omega)) (hE Z7q) (fun args w=>by simp[go_sem])
end Go.Proofs.Tryq
