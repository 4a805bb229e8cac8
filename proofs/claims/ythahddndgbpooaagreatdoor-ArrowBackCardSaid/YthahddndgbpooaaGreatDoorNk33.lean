import Derived.Test.YthahddndgbpooaaGreatDoorNkA
import Derived.Test.YthahddndgbpooaaGreatDoorNk32
import Derived.OwnWalkIn
set_option linter.all false
set_option maxRecDepth 100000
set_option maxHeartbeats 2000000
open Go Go.Nk Go.RowKit Go.Shelf Go.Proofs Go.Proofs.Tryq
variable {args:Array Value}{f:FuncId}{a b c m:Int}{l:List UInt8}{r xs z:List Value}{e i n n0 sz ty:Nat}{row:Option Nat}{v:Value}{W W' w w' w0:World}
namespace Go.Proofs.Tryp
section
attribute [local instance] k3
theorem Zqk{p:UInt8->Bool}{x:UInt8}(hp:p x=false):∀{l:List UInt8},x∈l->x∈l.dropWhile p
 |b::l,h=>by
  rw[List.dropWhile_cons];split
  ·rename_i hb;rcases XE.1 h with rfl|h
   ·rw[hp] at hb;cases hb
   ·exact Zqk hp h
  ·exact h
theorem Zql{x:UInt8}(hx:x∈l)(h:([48,49,50,51,52,53,54,55,56,57]:List UInt8).contains x=false):Lib.trimS l [48,49,50,51,52,53,54,55,56,57]≠[]:=by
 unfold Lib.trimS Lib.trimRightS Lib.trimLeftS;have h1:x∈(l.reverse.dropWhile ((([48,49,50,51,52,53,54,55,56,57]:List UInt8)).contains ·)).reverse:=List.mem_reverse.2 (Zqk h (List.mem_reverse.2 hx));exact List.ne_nil_of_mem (Zqk h h1)
theorem Zok(ha:okP a)(hb:okP b)(w:World)(he:ErrF w):
 Calls Tryp.prog 131 #[str (ZW a b)] w λe w'=>(e= .returned (.tuple #[a,.nilIface])\/(True/\∃t v,e= .returned (.tuple #[.int .i64 0,.iface t v])))/\Ext w w':=by
 have hl:=ZnK a b ha.s hb.s;unfold ZW at hl⊢;split at hl
 ·rename_i h;rw[YZ h];exact(Znx (ZpL ha) w).mono λe w' ⟨h1,h2⟩=>⟨.inl h1,h2⟩
 ·rename_i h;rw[XA h];obtain⟨c,r,e,_⟩:=(ZpL ha).form;have hc:=Zog ha.1 c (by rw[e];exact YY);rw[e] at hl⊢;simp only[YK,YP] at hl⊢;refine(Zov c _ w (by omega) (λh=> ?_) (Zql (x:=46) (by simp) (by decide)) he).mono λe w' ⟨h1,h2⟩=>⟨.inr ⟨trivial,h1⟩,h2⟩
  subst h;exact absurd hc.1 (by decide)
theorem ZqM{x:Sf}(h:okX x)(w:World)(he:ErrF w):Calls Tryp.prog 131 #[str x.nm.data.toList] w λe w'=>(∃t v,e= .returned (.tuple #[.int .i64 0,.iface t v]))/\Ext w w':=by
 obtain⟨b,r,e,hb⟩:=h.hd;have hs:x.nm.data.toList.length<=12:=h.sz;have e:x.nm.data.toList=b::r:=e;rw[e] at hs⊢;refine Zov b r w (by simp at hs;omega) (λh=> ?_) (Zql (x:=b) YY ?_) he
 ·subst h;exact absurd hb (by decide)
 ·rw[<-QP];intro hm;simp at hm;rcases hm with rfl|rfl|rfl|rfl|rfl|rfl|rfl|rfl|rfl|rfl<;>exact absurd hb (by decide)
theorem Zow(w:World)(j:Nat)(h:j<3):(w.alloc (.cells #[.nilIface,.nilIface,.nilIface] 91)).cell? ⟨w.heap.size,j,none⟩=some .nilIface:=by
 rw[Z0 (by rw[Z3,YZ rfl])];rcases j with _|_|_|j
 ·rfl
 ·rfl
 ·rfl
 ·omega
theorem ZnF(ha:okP a)(hb:okP b):(ZW a b).length<=1000:=XD (ZnK a b ha.s hb.s) (by omega)
theorem Zp2(x:Sf)(w:World)(ho:okX x)(hx:MaxL w)(he:ErrF w):
 Calls Tryp.prog 86 #[str ([32].intercalate ([115,104,97,102,116]::ZnI x))] w λe w'=>e= .returned (.tuple #[.iface 98 (.agg #[.string x.nm,x.a0,x.a1,x.b0,x.b1,x.c0,x.c1]),.nilIface])/\Ext w w':=by
 obtain⟨B,w1,Ab,Kk,Cm,D7,P4⟩:=ZnU [115,104,97,102,116] (ZnI x) w rfl (ZnB ⟨by decide,by decide⟩ (ZoY ho)) (by
  intro y hy;simp only[ZnI,XE,XL,VO] at hy;rcases hy with rfl|rfl|rfl|rfl|rfl
  ·decide
  ·exact XD ho.sz (by omega)
  ·exact ZnF ho.a0 ho.a1
  ·exact ZnF ho.b0 ho.b1
  ·exact ZnF ho.c0 ho.c1) hx
 have e0:str x.nm.data.toList= .string x.nm:=by simp[str]
 have q0:=Cm 0 [115,104,97,102,116] rfl;have q1:=Cm 1 x.nm.data.toList rfl;have q2:=Cm 2 (ZW x.a0 x.a1) rfl;have q3:=Cm 3 (ZW x.b0 x.b1) rfl;have q4:=Cm 4 (ZW x.c0 x.c1) rfl
 have Ky:=λW (hW:Ext w1 W)=>Zo0 True B 1 4 4 (ZnI x) [0,x.a0,x.b0,x.c0] W rfl rfl (by omega) (λj x h=>hW.cellS (by rw[Nat.add_comm];exact Cm (j+1) x h)) (hW.lt Kk) (λj t y h1 h2 V hV=>by
  have Bb:=((he.ext Ab).ext hW).ext hV
  match j with
  |0=>cases h1;cases h2;exact(ZqM ho V Bb).mono λe w' ⟨h1,h2⟩=>⟨.inr ⟨trivial,h1⟩,h2⟩
  |1=>cases h1;cases h2;exact Zok ho.a0 ho.a1 V Bb
  |2=>cases h1;cases h2;exact Zok ho.b0 ho.b1 V Bb
  |3=>cases h1;cases h2;exact Zok ho.c0 ho.c1 V Bb
  |j+4=>simp[ZnI] at h1)
 have C4:=hx.ext Ab;have sa:=λW (hW:Ext w1 W)=>Zo6 ho.a0 ho.a1 W (C4.ext hW)
 have sb:=λW (hW:Ext w1 W)=>Zo6 ho.b0 ho.b1 W (C4.ext hW)
 have sc:=λW (hW:Ext w1 W)=>Zo6 ho.c0 ho.c1 W (C4.ext hW)
 rw[e0] at q1;clear Cm ho hx C4 he e0;generalize [32].intercalate ([115,104,97,102,116]::ZnI x)=txt at D7⊢;generalize ZW x.a0 x.a1=ta at q2 sa;generalize ZW x.b0 x.b1=tb at q3 sb;generalize ZW x.c0 x.c1=tc at q4 sc;go_enter fq Tryz.func86,Tryz.ntmps86
 go_wp2_with (first
  |(go_at_call 126;refine D7.mono ?_;rintro e w2 ⟨rfl,rfl⟩)
  |(go_at_call 127;refine P4.mono ?_;rintro e w3 ⟨rfl,rfl⟩))
 rename_i K hK
 go_region
 all_goals
  refine hK _ _ ?_
  go_wp2_with (first
   |(go_at_call 128;refine(Ky _ (by first|exact(Ext.rfl' _).drew|exact Ext.rfl' _)).mono ?_;rintro e w4 ⟨v,u,rfl,Ac,Ak⟩
     have M1:Ext w3 w4:=((Ext.rfl' _).drew).trans Ak;have r1:=M1.cellS q1;have r2:=M1.cellS q2;have r3:=M1.cellS q3;have r4:=M1.cellS q4;clear Ac)
   |(go_at_call 129;(with_reducible refine(sa _ M1).mono ?_);rintro e w5 ⟨rfl,B4⟩
     have Nb:Ext w3 (w5.alloc (.cells #[x.a0,x.a1] 49)):=(M1.trans B4).alloc _;have gA:(w5.alloc (.cells #[x.a0,x.a1] 49)).heap[w5.heap.size]? =some (.cells #[x.a0,x.a1] 49):=(by rw[Z3,YZ rfl]);have s3:=Nb.cellS q3)
   |(go_at_call 129;(with_reducible refine(sb _ Nb).mono ?_);rintro e w6 ⟨rfl,Bg⟩
     have P5:Ext w3 (w6.alloc (.cells #[x.b0,x.b1] 49)):=(Nb.trans Bg).alloc _;have hG6:Ext (w5.alloc (.cells #[x.a0,x.a1] 49)) (w6.alloc (.cells #[x.b0,x.b1] 49)):=Bg.alloc _;have gB:(w6.alloc (.cells #[x.b0,x.b1] 49)).heap[w6.heap.size]? =some (.cells #[x.b0,x.b1] 49):=(by rw[Z3,YZ rfl]);have s4:=P5.cellS q4)
   |(go_at_call 129;(with_reducible refine(sc _ P5).mono ?_);rintro e w7 ⟨rfl,E5⟩
     have Fs:Ext w3 (w7.alloc (.cells #[x.c0,x.c1] 49)):=(P5.trans E5).alloc _;have Yu:Ext (w6.alloc (.cells #[x.b0,x.b1] 49)) (w7.alloc (.cells #[x.c0,x.c1] 49)):=E5.alloc _;have gC:(w7.alloc (.cells #[x.c0,x.c1] 49)).heap[w7.heap.size]? =some (.cells #[x.c0,x.c1] 49):=(by rw[Z3,YZ rfl]);have gA7:=Yu.get (hG6.get gA);have gB7:=Yu.get gB))
  have t0:=Z0 gA7 0;have t1:=Z0 gA7 1;have t2:=Z0 gB7 0;have t3:=Z0 gB7 1;have t4:=Z0 gC 0;have t5:=Z0 gC 1;have t6:=Fs.cellS q1;simp only[YC,YA,YB] at t0 t1 t2 t3 t4 t5;generalize w7.alloc (.cells #[x.c0,x.c1] 49)=w8 at Fs t0 t1 t2 t3 t4 t5 t6⊢;generalize w7.heap.size=bC at t4 t5⊢;generalize w6.heap.size=bB at t2 t3⊢;generalize w5.heap.size=bA at t0 t1⊢;clear r1 r2 r3 r4 s3 s4 gA gB gC gA7 gB7 B4 Bg E5 hG6 Yu Nb P5;have gt0:=Zet t0;have gt1:=Zet t1;have gt2:=Zet t2;have gt3:=Zet t3;have gt4:=Zet t4;have gt5:=Zet t5;have gt6:=Zet t6;refine ZeG 16 (by kernel_rfl) ?_;refine ZeB [0,1,2,3,4,5,6,7,8,9,10,11] (by kernel_rfl) (by kernel_rfl) ?_;simp only[ZeD,YB,YA,YK,YJ]
  repeat (go_big_quiet_step (fail))
  refine XU ?_;refine Zfa 12 rfl (by kernel_rfl) rfl (λW hW=>Zf3 ⟨.slice (some ⟨W.heap.size,0,none⟩) 3 3,W.alloc (.cells #[.nilIface,.nilIface,.nilIface] 91),by simp[go_sem,execOp,Act.eval],(Ext.rfl' W).alloc _,?_⟩);have Ek:=Fs.trans (hW.trans ((Ext.rfl' W).alloc (.cells #[.nilIface,.nilIface,.nilIface] 91)));have We:=Zow W;generalize W.alloc (.cells #[.nilIface,.nilIface,.nilIface] 91)=W5 at Ek We⊢;generalize W.heap.size=B5 at We⊢;clear hW;go_simp;refine Zfa 13 rfl (by kernel_rfl) rfl (λW hW=>Zfo (f:=130) (args:= #[.slice (some ⟨B5,0,none⟩) 3 3]) (by simp[go_sem,execOp,Act.eval]) ?_);refine(Zpw B5 3 3 W (by omega) (λj hj=>hW.cellS (We j hj))).mono ?_;rintro e W6 ⟨rfl,rfl⟩;refine⟨.nilIface,rfl,Ext.rfl' _,?_⟩;replace Ek:=Ek.trans hW;clear hW We;go_simp;refine ZeB [14,15] (by kernel_rfl) (by kernel_rfl) ?_;simp only[ZeD,YB,YA,YK,YJ]
  repeat (go_big_quiet_step (fail))
  refine XU ?_;refine Zf6 (by kernel_rfl) (λW hW=> ?_);replace Ek:=Ek.trans hW;go_wp2;go_ret2;exact⟨rfl,Ab.trans Ek⟩
theorem Zpm(s:Rs)(w:World)(ho:okR s)(hx:MaxL w)(he:ErrF w):
 Calls Tryp.prog 86 #[str ([32].intercalate ([115,104,111,116]::ZZ s))] w λe w'=>e= .returned (.tuple #[.iface 110 (.agg #[s.a,s.m,s.M,s.wi,s.li]),.nilIface])/\Ext w w':=by
 obtain⟨B,w1,Ab,Kk,Cm,D7,P4⟩:=ZnU [115,104,111,116] (ZZ s) w rfl (ZnB ⟨by decide,by decide⟩ (Zpv ho)) (by
  intro y hy;simp only[ZZ,XE,XL,VO] at hy;rcases hy with rfl|rfl|rfl|rfl|rfl
  ·decide
  ·exact ZnL ho.a
  ·exact ZnF ho.m ho.M
  ·exact ZnL ho.wi
  ·exact ZnL ho.li) hx
 have q0:=Cm 0 [115,104,111,116] rfl;have q1:=Cm 1 (Lib.itoa s.a) rfl;have q2:=Cm 2 (ZW s.m s.M) rfl;have q3:=Cm 3 (Lib.itoa s.wi) rfl;have q4:=Cm 4 (Lib.itoa s.li) rfl
 have Ky:=λW (hW:Ext w1 W)=>Zo0 True B 1 4 4 (ZZ s) [s.a,s.m,s.wi,s.li] W rfl rfl (by omega) (λj x h=>hW.cellS (by rw[Nat.add_comm];exact Cm (j+1) x h)) (hW.lt Kk) (λj t y h1 h2 V hV=>by
  have Bb:=((he.ext Ab).ext hW).ext hV
  match j with
  |0=>cases h1;cases h2;exact(Znx (ZpL ho.a) V).mono λe w' ⟨h1,h2⟩=>⟨.inl h1,h2⟩
  |1=>cases h1;cases h2;exact Zok ho.m ho.M V Bb
  |2=>cases h1;cases h2;exact(Znx (ZpL ho.wi) V).mono λe w' ⟨h1,h2⟩=>⟨.inl h1,h2⟩
  |3=>cases h1;cases h2;exact(Znx (ZpL ho.li) V).mono λe w' ⟨h1,h2⟩=>⟨.inl h1,h2⟩
  |j+4=>simp[ZZ] at h1)
 have Qf:=λW (hW:Ext w1 W)=>Zo1 B 3 2 2 [Lib.itoa s.wi,Lib.itoa s.li] [s.wi,s.li] W rfl rfl (by omega) (λj x h=>hW.cellS (by
  match j with
  |0=>cases h;exact q3
  |1=>cases h;exact q4
  |j+2=>simp at h)) (hW.lt Kk) (λj t y h1 h2 V=>by
  match j with
  |0=>cases h1;cases h2;exact Znx (ZpL ho.wi) V
  |1=>cases h1;cases h2;exact Znx (ZpL ho.li) V
  |j+2=>simp at h1)
 have C4:=hx.ext Ab;have sa:=λW=>Znx (ZpL ho.a) W
 have sb:=λW (hW:Ext w1 W)=>Zo6 ho.m ho.M W (C4.ext hW)
 clear Cm ho hx C4 he;generalize [32].intercalate ([115,104,111,116]::ZZ s)=txt at D7⊢;generalize Lib.itoa s.a=ta at q1 sa;generalize ZW s.m s.M=tb at q2 sb;generalize Lib.itoa s.wi=tc at q3;generalize Lib.itoa s.li=td at q4;go_enter fq Tryz.func86,Tryz.ntmps86
 go_wp2_with (first
  |(go_at_call 126;refine D7.mono ?_;rintro e w2 ⟨rfl,rfl⟩)
  |(go_at_call 127;refine P4.mono ?_;rintro e w3 ⟨rfl,rfl⟩))
 rename_i K hK
 go_region
 all_goals
  refine hK _ _ ?_
  go_wp2_with (first
   |(go_at_call 128;(with_reducible refine(Ky _ ?_).mono ?_);·exact(Ext.rfl' _).drew
     rintro e w4 ⟨v,u,rfl,Ac,Ak⟩;have M1:Ext w3 w4:=((Ext.rfl' _).drew).trans Ak;have r1:=M1.cellS q1;clear Ac)
   |(go_at_call 131;refine(sa _).mono ?_;rintro e w5 ⟨rfl,B4⟩
     have Nb:Ext w3 w5:=M1.trans B4;have r2:=Nb.cellS q2)
   |(go_at_call 129;refine(sb _ Nb).mono ?_;rintro e w6 ⟨rfl,Bg⟩
     have P5:Ext w3 (w6.alloc (.cells #[s.m,s.M] 49)):=(Nb.trans Bg).alloc _;have gA:(w6.alloc (.cells #[s.m,s.M] 49)).heap[w6.heap.size]? =some (.cells #[s.m,s.M] 49):=by rw[Z3,YZ rfl])
   |(go_at_call 128;(with_reducible refine(Qf _ P5).mono ?_)
     rintro e w7 ⟨v2,rfl,Co,E5⟩;obtain⟨g,cp,rfl,Fm,C7⟩:=XP Co (by simp);have c0:=Znv Co 0 s.wi rfl;have c1:=Znv Co 1 s.li rfl;have Fs:Ext w3 w7:=P5.trans E5;have gA7:=E5.get gA)
   |(go_at_call 130;refine(Zpw _ 3 3 _ (by omega) (Zow _)).mono ?_;rintro e w8 ⟨rfl,rfl⟩
     have Jp:Ext w7 _:=(Ext.rfl' w7).alloc (.cells #[.nilIface,.nilIface,.nilIface] 91);have c2:=Jp.cellS c0;have c3:=Jp.cellS c1;have gA8:=Jp.get gA7;have t0:=Z0 gA8 0;have t1:=Z0 gA8 1;simp only[YC,YA,YB] at t0 t1))
  rename_i K2 Jl
  go_region
  all_goals
   refine Jl _ _ ?_;go_wp2;go_ret2;exact⟨rfl,(Ab.trans (Fs.trans Jp)).drew⟩
end
section
attribute [local instance] k3
attribute [local go_sem] Oper.semAt_some
theorem Zqm(l:List UInt8)(w:World):Calls Tryp.prog 85 #[str l] w λe w'=>e= .returned (.func (.func 124) #[] #[.pointer (some ⟨w.heap.size,0,none⟩)])/\w'=w.alloc (.cells #[str l] 9):=by
 go_enter fq Tryz.func85,Tryz.ntmps85;go_wp2;go_ret;exact⟨rfl,rfl⟩
theorem ZnD{l:Nat}{R:Ending->World->Prop}(h:Calls Tryp.prog f args w R):CallsIn (Fence.wide.inRound l) n Tryp.prog f args w R:=(show CallsIn Fence.wide n Tryp.prog f args w R from TX.2 h)
structure Kpt(sb n0:Nat)(W W':World):Prop where
 low:∀k,k<n0->k≠sb->W'.heap[k]? =W.heap[k]?
 others:KeepsOthers W W'
theorem Zpx(tk sb:Nat)(N:List (List UInt8))(c:Bool)(V:Nat->Value)(J:Nat->Nat->World->Prop)(w0 w:World)
 (hN:0<N.length)(hN2:N.length<=1000)(Bq:∀y∈N,10∉y/\y≠[])(A1:(pcs N c).flatten.length<=60000)(Gb:w0.heap.size<=sb)(Fy:sb<w.heap.size)
 (hce:∀args W,(callFunc tk args).run Tryp.prog W= .ok (.enter tk args) W)
 (Vk:∀i B,N[i]? =some B->∀W,Ext w0 W->Calls Tryp.prog 86 #[str B] W λe W'=>e= .returned (.tuple #[V i,.nilIface])/\Ext W W')
 (hhd:∀i,i<N.length->∃t v hf hx,V i= .iface t v/\(∀W,(method 457 t v "nock/arrow.head").run Tryp.prog W= .ok (hf,hx) W)/\(∀args W,(callFunc hf args).run Tryp.prog W= .ok (.enter hf args) W)/\∀W,Calls Tryp.prog hf #[hx] W λe W'=>e= .returned (.bool (decide (i=0)))/\Ext W W')
 (Dx:∀n0 i W,J n0 i W->Ext w0 W)
 (htk:∀n0 i W,i<N.length->J n0 i W->n0<=W.heap.size->Calls Tryp.prog tk #[V i,.pointer (some ⟨sb,0,none⟩)] W λe W'=>e= .returned (.bool true)/\J n0 (i+1) W'/\Kpt sb n0 W W')
 (hJ:∀n0 i W W' row,J n0 i W->W.grownBy W' row->(∀r,row=some r->w0.heap.size<=r/\r≠sb/\(r<n0\/∃o:Obj,W.heap[r]? =some o/\o.isCells=false))->J n0 i W')
 (h0:∀n0,w.heap.size<=n0->J n0 0 w):
 Calls Tryp.prog 45 #[str (pcs N c).flatten,.func (.func tk) #[] #[.pointer (some ⟨sb,0,none⟩)]] w λe W'=>e= .returned .nilIface/\∃n0,J n0 N.length W':=by
 have Rh:=Zqm (pcs N c).flatten;have A3:¬(60000:Int)<(pcs N c).flatten.length:=by omega
 refine(TX (n:=6)).1 ?_;refine callsIn_of_wp_marks (fq Tryz.func45) rfl trivial ?_ rfl;simp only[Tryz.ntmps45,VZ,YP,XM,Nat.reduceAdd,Nat.reduceSub,UV,UU,TH,UX,YJ,YK];obtain⟨L,hL⟩:∃L,Hid (L=(pcs N c).flatten):=⟨_,rfl⟩;rw[<-hL.out] at A3 Rh⊢;replace A1:Hid _:=A1
 gi_wp2_with (first
  |(refine⟨trivial,?_⟩;gi_at_call 85;refine(TX.2 (Rh _)).mono ?_;rintro e w2 ⟨rfl,Cp⟩))
 rw[<-Cp];have hW:Ext w w2:=by rw[Cp];exact((((Ext.rfl' w).alloc _).alloc _).alloc _).alloc _
 have hz:w2.heap.size=w.heap.size+4:=by rw[Cp];simp
 have hTb:w2.heap[w.heap.size]? =some (.cells #[.func (.func tk) #[] #[.pointer (some ⟨sb,0,none⟩)]] 99):=by
  rw[Cp];simp only[Z3,Z2];rw[XA (by omega),XA (by omega),XA (by omega),YZ trivial]
 have hEb:w2.heap[w.heap.size+1]? =some (.cells #[.nilIface] 91):=by
  rw[Cp];simp only[Z3,Z2];rw[XA (by omega),XA (by omega),YZ trivial]
 have hNb:w2.heap[w.heap.size+1+1]? =some (.cells #[.int .i64 0] 3):=by
  rw[Cp];simp only[Z3,Z2];rw[XA (by omega),YZ trivial]
 have hSs:w2.heap[w.heap.size+1+1+1]? =some (.cells #[str L] 9):=by
  rw[Cp];simp only[Z3,Z2];rw[YZ trivial]
 have Sa:J w2.heap.size 0 w2:=hJ _ 0 w w2 none (h0 _ (by omega)) (Z3I hW) (λr h=>by cases h);have Yv:sb<w.heap.size:=Fy;clear Cp Rh A3;obtain⟨b,hb⟩:∃b,b=w.heap.size:=⟨_,rfl⟩;rw[<-hb] at hz hTb hEb hNb hSs Yv⊢;clear hb;replace hz:Hid _:=hz
 have hk:∀{W W':World}{row:Option Nat}{k:Nat}{cs:Array Value}{t:TypeId}{fz:Nat×Nat},W.heap[k]? =some (.cells cs t fz)->W.grownBy W' row->(∀r,row=some r->r=b+1+1+1\/(w2.heap.size<=r/\∃o:Obj,W.heap[r]? =some o/\o.isCells=false))->k≠b+1+1+1->W'.heap[k]? =some (.cells cs t fz):=λh hg hr A9=>(hg.block _ (Z5 h) (λe=>by
  rcases hr _ e.symm with h1|⟨_,o,h1,h2⟩
  ·exact A9 h1
  ·rw[h] at h1;cases h1;cases h2)).trans h
 refine Zpk (n:=3) (b+1+1+1) (pcs N c) (by have:=hz.out;omega) (λyl J W hJ hY h0 hs=>ZpO _ _ ?hP (by have:=A1.out;omega) yl J W hJ hY h0 hs) rfl (by rw[<-hL.out];exact hSs)
  (λi W=>J w2.heap.size i W/\W.heap[b]? =some (.cells #[.func (.func tk) #[] #[.pointer (some ⟨sb,0,none⟩)]] 99)/\W.heap[b+1]? =some (.cells #[.nilIface] 91)/\W.heap[b+1+1]? =some (.cells #[.int .i64 i] 3)/\w2.heap.size<=W.heap.size)
  ?hI ⟨Sa,hTb,hEb,hNb,XB _⟩ (λx=>{tmps:= #[str L,.func (.func tk) #[] #[.pointer (some ⟨sb,0,none⟩)],undef,.pointer (some ⟨b,0,none⟩),.pointer (some ⟨b+1,0,none⟩),.pointer (some ⟨b+1+1,0,none⟩),str x,undef,undef,str L,L.length,.bool false,undef,undef,str L,.func (.func 124) #[] #[.pointer (some ⟨b+1+1+1,0,none⟩)],str x,undef,undef,undef,undef,undef,undef,undef,undef,undef,undef,undef,undef,undef,undef,undef,undef,undef,undef,undef,undef,undef,undef,undef,undef,undef,undef,undef,undef,undef,undef],defers:=[]}) ?assign ?body ?done
 case hP=>
  intro i x hx;have hi:i<N.length:=by rw[<-pcs_len N c];exact(YI.1 hx).1
  obtain⟨y,hy,h⟩:=pcs_at N c i _ Bq (YH hi);rw[hx] at hy;cases hy;exact⟨_,h⟩
 case hI=>
  rintro i W W' row ⟨g0,g1,g2,g3,g4⟩ hg hr;have hz:=hz.out;refine⟨hJ _ i W W' row g0 hg (λr e=> ?_),hk g1 hg hr (by omega),hk g2 hg hr (by omega),hk g3 hg hr (by omega),XD g4 hg.size⟩;rcases hr r e with rfl|⟨h1,h2⟩
  ·exact⟨by omega,by omega,.inl (by omega)⟩
  ·exact⟨by omega,by omega,.inr h2⟩
 case assign=>
  intro l x W K hK;simp only[List.zip_toArray,SD,List.zip_nil_left,List.zip_nil_right,List.foldl_toArray',VM,List.foldl_nil,VZ,YP,XM,VG,VU,US,Nat.reduceAdd]
  gi_wp2
  exact hK
 case body=>
  rintro l i x W hx ⟨g0,g1,g2,g3,g4⟩;have hi:i<N.length:=by rw[<-pcs_len N c];exact(YI.1 hx).1
  obtain⟨B,hB⟩:∃B,N[i]? =some B:=⟨_,YH hi⟩;have N8:Lib.trimSuffix x [10]=B:=by
   obtain⟨y,hy,h⟩:=pcs_at N c i B Bq hB;rw[hx] at hy;cases hy;exact h.trim
  have Na:x.length<=100000:=by
   have h1:=A1.out;have h2:x.length<=(pcs N c).flatten.length:=by
    obtain⟨p,q,e⟩:=List.append_of_mem (YQ hx);rw[e];simp only[List.flatten_append,SM,XK];omega
   omega
  have S8:=λW=>Zoo x [10] W Na
  rw[N8] at S8;have Gv:=Vk i B hB;obtain⟨vt,vv,hf,hv,hV,hm,G6,hhc⟩:=hhd i hi;have Ud:=λW=>htk w2.heap.size i W hi
  rw[hV] at Gv Ud;have ng:=QS W (b+1+1) (.int .i64 ((i:Int)+1));have hJ1:=hJ _ i W _ _ g0 ng (λr e=>by cases e;have:=hz.out;exact⟨by omega,by omega,.inl (by omega)⟩);have k3:=Zb g3 (i:=0) (.int .i64 ((i:Int)+1));have k1:(W.setCell ⟨b+1+1,0,none⟩ (.int .i64 ((i:Int)+1))).heap[b]? =_:=(ng.block b (Z5 g1) (λe=>by have:=YT e;omega)).trans g1;have q3:=Z0 g3 0;have z3:=Z8 g3 0;simp only[YC,YA,VG,VU] at q3 k3;have Fq:=Dx _ _ _ hJ1;have H2:(i:Int)+1<=1000:=by omega
  have Cj:(0:Int)<=i:=by omega
  clear Vk hhd htk hx hB N8 Na hN Bq hV
  gi_wp2_with (first
   |(refine⟨trivial,?_⟩;gi_at_call 87;refine(ZnD (S8 _)).mono ?_;rintro e w5 ⟨rfl,hw5⟩)
   |(refine⟨trivial,?_⟩;gi_at_call 86;refine(ZnD (Gv _ Fq)).mono ?_;rintro e w6 ⟨rfl,Bg⟩))
  have m3:=Bg.get k3;have m1:=Bg.get k1;have n3:=Z0 m3 0;have n1:=Z0 m1 0;simp only[YC,YA] at n3 n1;have hJ6:=hJ _ i _ w6 none hJ1 (Z3I Bg) (λr e=>by cases e);have Tt:w2.heap.size<=w6.heap.size:=XD (by simpa using g4) Bg.size
  have fin:∀w7 w8,Ext w6 w7->J w2.heap.size (i+1) w8->Kpt sb w2.heap.size w7 w8->KeepsFrom w2.heap.size W w8/\w8.heap[b+1+1+1]? =W.heap[b+1+1+1]? /\J w2.heap.size (i+1) w8/\w8.heap[b]? =some (.cells #[.func (.func tk) #[] #[.pointer (some ⟨sb,0,none⟩)]] 99)/\w8.heap[b+1]? =some (.cells #[.nilIface] 91)/\
   w8.heap[b+1+1]? =some (.cells #[.int .i64 ((i+1:Nat):Int)] 3)/\w2.heap.size<=w8.heap.size:=λw7 w8 Fs Yw Nc=>by
   have hz:=hz.out;have k2:(W.setCell ⟨b+1+1,0,none⟩ (.int .i64 ((i:Int)+1))).heap[b+1]? =_:=(ng.block _ (Z5 g2) (λe=>by have:=YT e;omega)).trans g2;have ks:(W.setCell ⟨b+1+1,0,none⟩ (.int .i64 ((i:Int)+1))).heap[b+1+1+1]? =_:=ng.block _ (by omega) (λe=>by have:=YT e;omega);have B1:(W.setCell ⟨b+1+1,0,none⟩ (.int .i64 ((i:Int)+1))).heap.size=W.heap.size:=by simp
   refine⟨(((VJ W _ _).trans (SJ (Z3I Bg) (λj o e=>by cases e))).trans (SJ (Z3I Fs) (λj o e=>by cases e))).trans Nc.others |>.from _,?_,Yw,?_,?_,?_,?_⟩
   ·exact(Nc.low _ (by omega) (by omega)).trans ((Fs.old _ (by omega)).trans ((Bg.old _ (by omega)).trans ks))
   ·exact(Nc.low _ (by omega) (by omega)).trans (Fs.get m1)
   ·exact(Nc.low _ (by omega) (by omega)).trans (Fs.get (Bg.get k2))
   ·refine(Nc.low _ (by omega) (by omega)).trans ((Fs.get m3).trans ?_);push_cast;rfl
   ·exact XD Tt (XD Fs.size Nc.others.size)
  obtain⟨t,ht⟩:∃t,t=decide (i=0):=⟨_,rfl⟩;obtain⟨m,Yx⟩:∃m,m=(i:Int)+1:=⟨_,rfl⟩;have he:(m==1)=t:=by
   rw[Yx,ht];by_cases h:i=0
   ·subst h;rfl
   ·rw[XV h,UC];omega
  rw[<-ht] at hhc;rw[<-Yx] at n3;clear ht Yx H2 Cj z3 q3 k1 k3 Fq
  gi_region_with (first
   |((first|refine⟨trivial,?_⟩|refine⟨λ_ _=>trivial,?_⟩);(with_reducible refine(ZnD (hhc _)).mono ?_);rintro e w7 ⟨rfl,E5⟩
     have Fs:Ext w6 w7:=((Ext.rfl' w6).drew).trans E5;have o3:=Fs.cellS n3;have o1:=Fs.cellS n1;have hJ7:=hJ _ _ w6 w7 none hJ6 (Z3I Fs) (λr e=>by cases e);have hz7:=XD Tt Fs.size)
   |(refine⟨trivial,?_⟩;(with_reducible refine(ZnD (Ud _ hJ7 hz7)).mono ?_);rintro e w8 ⟨rfl,Yw,Nc⟩))
  all_goals
   gi_wp2
   exact fin w7 w8 Fs Yw Nc
 case done=>
  rintro D W hD ⟨g0,g1,g2,g3,g4⟩ Ue;rw[pcs_len] at g0 g3;have q2:=Z0 g2 0;have q3:=Z0 g3 0;have z2:=Z8 g2 0;simp only[YC,YA] at q2 q3;have hnz:¬(N.length:Int)=0:=by omega
  gi_wp2
  have gn:=QS W (b+1) .nilIface;have hDl:=Z5 Ue;have hz:=hz.out;have Uf:(W.setCell ⟨b+1,0,none⟩ .nilIface).heap[D]? =some (.deferred (some [])):=(gn.block D hDl (λe=>by have:=YT e;omega)).trans Ue;have g5:=Zb g2 (i:=0) .nilIface;have g6:((W.setCell ⟨b+1,0,none⟩ .nilIface).putObj D (.deferred none)).heap[b+1]? =_:=(VY (by omega)).trans g5;have s2:=Z0 g6 0;simp only[YC,YA,VG,VU] at s2;have Jh:=hJ _ _ W _ _ g0 gn (λr e=>by cases e;exact⟨by omega,by omega,.inl (by omega)⟩);have hJ4:=hJ _ _ _ _ _ Jh (QX _ D (.deferred none)) (λr e=>by cases e;exact⟨by omega,by omega,.inr ⟨_,Uf,rfl⟩⟩);refine⟨by simp,.inl ⟨_,_,rfl,QR Uf,?_⟩⟩;refine⟨.nilIface,?_,rfl,_,hJ4⟩;show(results Tryz.f45 _).run Tryp.prog _=_;have hr:Tryz.f45.results= #[.cell 4 91]:=by kernel_rfl
  unfold results;rw[hr];simp[go_sem,s2]
end
section
attribute [local instance] k3
theorem Zrm(v:Value)(w:World):(method 457 96 v "nock/arrow.head").run Tryp.prog w= .ok (252,v) w:=by kernel_rfl
theorem Zrn(v:Value)(w:World):(method 457 98 v "nock/arrow.head").run Tryp.prog w= .ok (253,v) w:=by kernel_rfl
theorem Zro(a b c m:Int)(w:World):Calls Tryp.prog 252 #[.agg #[a,b,c,m]] w λe w'=>e= .returned (.bool true)/\Ext w w':=by
 go_enter fq Tryz.func252,Tryz.ntmps252;go_wp2;go_ret;exact⟨rfl,(Ext.rfl' w).alloc _⟩
theorem Zrp(x:Sf)(w:World):Calls Tryp.prog 253 #[.agg #[.string x.nm,x.a0,x.a1,x.b0,x.b1,x.c0,x.c1]] w λe w'=>e= .returned (.bool false)/\Ext w w':=by
 go_enter fq Tryz.func253,Tryz.ntmps253;go_wp2;go_ret;exact⟨rfl,(Ext.rfl' w).alloc _⟩
@[local go_sem] theorem ta96 (v:Value) (w:World):(Instr.typeAssert (.iface 96 v) 94 96 true).run Tryp.prog w= .ok (.tuple #[v,.bool true]) w:=by kernel_rfl
@[local go_sem] theorem ta98 (v:Value) (w:World):(Instr.typeAssert (.iface 98 v) 94 98 true).run Tryp.prog w= .ok (.tuple #[v,.bool true]) w:=by kernel_rfl
@[local go_sem] theorem tb98 (v:Value) (w:World):(Instr.typeAssert (.iface 98 v) 94 96 true).run Tryp.prog w= .ok (.tuple #[.agg #[.int .i64 0,.int .i64 0,.int .i64 0,.int .i64 0],.bool false]) w:=by kernel_rfl
theorem u24p:Tryp.prog.underlying 24=some (.slice 51):=(underlying_eq 24).trans Tryz.underlying24
theorem i51p:Tryp.prog.info? 51=some Tryz.t51:=by kernel_rfl
theorem t51z:Tryz.t51.zero=some (.agg #[.string ⟨#[]⟩,.int .i64 0,.int .i64 0,.int .i64 0,.int .i64 0,.int .i64 0,.int .i64 0]):=by kernel_rfl
theorem t51s:Tryz.t51.size=7:=by kernel_rfl
theorem t51b:Tryz.t51.bytes=64:=by kernel_rfl
def sfC(x:Sf):List Value:=[.string x.nm,.int .i64 x.a0,.int .i64 x.a1,.int .i64 x.b0,.int .i64 x.b1,.int .i64 x.c0,.int .i64 x.c1]
def Zp3(b:Nat)(w:World)(v:Value)(L:List Sf):Prop:=w.ownsRow b 51 7 v L.length (L.flatMap sfC)
theorem ZoH{sb:Nat}(h:Ext w0 W)(hs:w0.heap.size<=sb)(hn:sb<n0)(k:Kpt sb n0 W W')(h1:W'.os=W.os)(h2:W'.tape=W.tape)(h3:W'.output=W.output):Ext w0 W':=
 ⟨XD h.size k.others.size,λb hb=>(k.low b (by omega) (by omega)).trans (h.old b hb),h2.trans h.tape,h1.trans h.os,h3.trans h.output⟩
theorem Zpy(w:World)(l:List Value)(t:TypeId)(j:Nat)(u:Value)(h:l[j]? =some u):(w.alloc (.cells l.toArray t)).cell? ((⟨w.heap.size,0,none⟩:Addr).add j)=some u:=by
 rw[Z0c,Z0 (by rw[Z3,YZ rfl])];simpa using h
theorem Zqn(a b c m:Int)(sb n0:Nat)(v:Value)(w:World)(r0 r1 r2 r3:Value)(hs:w.heap[sb]? =some (.cells #[r0,r1,r2,r3,v] 26))(hn:n0<=w.heap.size):
 Calls Tryp.prog 46 #[.iface 96 (.agg #[a,b,c,m]),.pointer (some ⟨sb,0,none⟩)] w λe w'=>e= .returned (.bool true)/\w'.heap[sb]? =some (.cells #[a,b,c,m,v] 26)/\
  Kpt sb n0 w w'/\(∀L,sb<n0->Zp3 n0 w v L->Zp3 n0 w' v L)/\w'.os=w.os/\w'.tape=w.tape/\w'.output=w.output:=by
 have q0:=Z0 hs 0;have q1:=Z0 hs 1;have q2:=Z0 hs 2;have q3:=Z0 hs 3;have z0:=Z8 hs 0;have z1:=Z8 hs 1;have z2:=Z8 hs 2;have z3:=Z8 hs 3;simp only[YC,YA,YB] at q0 q1 q2 q3;have A3:=Z5 hs;replace hs:Hid _:=hs;go_enter fq Tryz.func46,Tryz.ntmps46;go_wp2;go_ret;have g1:=Zb (Zb (Zb (Zb hs.out (i:=0) (.int .i64 a)) (i:=1) (.int .i64 b)) (i:=2) (.int .i64 c)) (i:=3) (.int .i64 m);simp only[VG,VU,US] at g1;have hk:=((((VJ w ⟨sb,0,none⟩ (.int .i64 a)).trans (VJ _ ⟨sb,1,none⟩ (.int .i64 b))).trans (VJ _ ⟨sb,2,none⟩ (.int .i64 c))).trans (VJ _ ⟨sb,3,none⟩ (.int .i64 m))).trans (UY _ (.cells #[a,b,c,m] 96));refine⟨rfl,?_,⟨λk h1 h2=> ?_,hk⟩,λL hb ho=> ?_,rfl,rfl,rfl⟩
 ·rw[Z3,XA (by simp;omega)];exact g1
 ·rw[Z3,XA (by simp;omega)];rw[set_ne h2,set_ne h2,set_ne h2,set_ne h2]
 ·exact World.ownsRow.alloc (VA (VA (VA (VA ho (a:=⟨sb,0,none⟩) hb _) (a:=⟨sb,1,none⟩) hb _) (a:=⟨sb,2,none⟩) hb _) (a:=⟨sb,3,none⟩) hb _) _
theorem ZpP(x:Sf)(sb n0:Nat)(v:Value)(L:List Sf)(w:World)(r0 r1 r2 r3:Value)(hs:w.heap[sb]? =some (.cells #[r0,r1,r2,r3,v] 26))(hn:n0<=w.heap.size)(hb:sb<n0)(ho:Zp3 n0 w v L)(hl:L.length<=100):
 Calls Tryp.prog 46 #[.iface 98 (.agg #[.string x.nm,x.a0,x.a1,x.b0,x.b1,x.c0,x.c1]),.pointer (some ⟨sb,0,none⟩)] w λe w'=>e= .returned (.bool true)/\∃v',w'.heap[sb]? =some (.cells #[r0,r1,r2,r3,v'] 26)/\
  Zp3 n0 w' v' (L++[x])/\Kpt sb n0 w w'/\w'.os=w.os/\w'.tape=w.tape/\w'.output=w.output:=by
 have q4:=Z0 hs 4;have z4:=Z8 hs 4;simp only[YC,YA,YB] at q4;have A3:=Z5 hs;have In:L.length+1<=maxLen:=by simp[maxLen];omega
 have Fr:(L.length+1)*64<=140737488355328:=by omega
 replace hs:Hid _:=hs;replace hl:Hid _:=hl;go_enter fq Tryz.func46,Tryz.ntmps46
 go_wp2_with (
  at_builtin
  refine UG _ rfl _ _ 24 rfl n0 51 Tryz.t51 _ 7 64 u24p i51p t51z t51s t51b rfl (by decide) _ _ _ rfl (((show w.ownsRow n0 51 7 v L.length (L.flatMap sfC) from ho).alloc _).alloc _) ⟨w.heap.size+1,0,none⟩ 1 1 (sfC x) rfl rfl (by have:=Zpy (w.alloc (.cells (sfC x).toArray 98)) (sfC x) 51;rw[Z2] at this;exact this) (by intro u hu;simp only[sfC,XE,XL,VO] at hu;rcases hu with rfl|rfl|rfl|rfl|rfl|rfl|rfl<;>rfl) In Fr (by simp only[Z2];omega) ?_;intro v' w3 Aa A5 _;obtain⟨g',cp',rfl,Ol,Om⟩:=XP Aa (by omega);have g3:w3.heap[sb]? =some (.cells #[r0,r1,r2,r3,v] 26):=Z0m A5 (λe=>by have:=(ho.lt _ e.symm).1;omega) ((((Ext.rfl' w).alloc _).alloc _).get hs.out);have r4:=Z0 g3 4;have f4:=Z8 g3 4;simp only[YC,YA,YB] at r4)
 go_ret;have Bc:∀(j:Nat)(o:Obj),v.ownBlock=some j->((w.alloc (.cells (sfC x).toArray 98)).alloc (.cells (sfC x).toArray 51)).heap[j]? =some o->o.isCells=true:=by
  intro j o hj h;rcases(((show w.ownsRow n0 51 7 v L.length (L.flatMap sfC) from ho).alloc (.cells (sfC x).toArray 98)).alloc (.cells (sfC x).toArray 51)).2 with⟨rfl,_⟩|⟨g,cp,cur,rfl,_,hg',_⟩
  ·cases hj
  ·cases hj;rw[hg'] at h;cases h;rfl
 have Dy:((w.alloc (.cells (sfC x).toArray 98)).alloc (.cells (sfC x).toArray 51)).grownBy w3 v.ownBlock:=A5;have hA:=VI w3 ⟨sb,4,none⟩ (.slice (some ⟨g',0,none⟩) (L.length+1) cp');have hk:=(((UY w (.cells (sfC x).toArray 98)).trans (UY _ (.cells (sfC x).toArray 51))).trans (SJ Dy Bc)).trans (VJ w3 ⟨sb,4,none⟩ (.slice (some ⟨g',0,none⟩) (L.length+1) cp'));have g5:=Zb g3 (i:=4) (.slice (some ⟨g',0,none⟩) (L.length+1) cp');simp only[VG,VU,US] at g5;refine⟨rfl,_,g5,?_,⟨λk h1 h2=> ?_,hk⟩,hA.os.trans Dy.os,hA.tape.trans Dy.tape,hA.output.trans Dy.output⟩
 ·have:=VA Aa (a:=⟨sb,4,none⟩) hb (.slice (some ⟨g',0,none⟩) (L.length+1) cp');simpa[Zp3] using this
 ·rw[set_ne h2,Dy.block k (by simp only[Z2];omega) (λe=>by have:=(ho.lt _ e.symm).1;omega)];exact(((Ext.rfl' w).alloc _).alloc _).old k (by omega)
theorem ZqN(h:w.ownsRow n0 e sz v n xs)(hg:w.grownBy w' row)(hr:∀r,row=some r->r<n0\/∃o:Obj,w.heap[r]? =some o/\o.isCells=false):w'.ownsRow n0 e sz v n xs:=by
 refine h.kept hg ?_;cases hv:v.ownBlock with
 |none=>exact .inl rfl
 |some k=>
  refine .inr λq=> ?_
  obtain⟨c,hc⟩:∃c,w.heap[k]? =some (.cells c e):=by
   rcases h.2 with⟨rfl,_⟩|⟨g,cp,cur,rfl,_,hg',_⟩
   ·cases hv
   ·cases hv;exact⟨cur,hg'⟩
  rcases hr k q.symm with h1|⟨o,h1,h2⟩
  ·have:=(h.lt k hv).1;omega
  ·rw[hc] at h1;cases h1;cases h2
def JL(ty e sz:Nat)(z r:List Value)(xs:Nat->List Value)(sb:Nat)(w0:World)(n0 i:Nat)(W:World):Prop:=
 sb<n0/\Ext w0 W/\∃v,W.heap[sb]? =some (.cells ((if i=0 then z else r)++[v]).toArray ty)/\W.ownsRow n0 e sz v (i - 1) (xs (i - 1))
theorem JL.keep{xs:Nat->List Value}{sb:Nat}(n0 i:Nat)(W W':World)(row:Option Nat)(h:JL ty e sz z r xs sb w0 n0 i W)(hg:W.grownBy W' row)
 (hr:∀r,row=some r->w0.heap.size<=r/\r≠sb/\(r<n0\/∃o:Obj,W.heap[r]? =some o/\o.isCells=false)):JL ty e sz z r xs sb w0 n0 i W':=by
 obtain⟨h1,h2,v,h3,h4⟩:=h
 refine⟨h1,⟨XD h2.size hg.size,λk hk=>(hg.block k (YS hk h2.size) (λe=>by have:=(hr _ e.symm).1;omega)).trans (h2.old k hk),hg.tape.trans h2.tape,hg.os.trans h2.os,hg.output.trans h2.output⟩,v,
  (hg.block sb (Z5 h3) (λe=>(hr _ e.symm).2.1 rfl)).trans h3,ZqN h4 hg λr e=>(hr r e).2.2⟩
theorem Zpn{α:Type}(f:α->List Value)(k:Nat)(hf:∀x,(f x).length=k):∀(L:List α)(i:Nat)(x:α)(j:Nat),L[i]? =some x->j<k->(L.flatMap f)[i*k+j]? =(f x)[j]?
 |y::L,0,x,j,h,hj=>by
  simp at h;subst h;rw[UE,Nat.zero_mul,UA,List.getElem?_append_left (by rw[hf];exact hj)]
 |y::L,i+1,x,j,h,hj=>by
  have e:(i+1)*k+j - k=i*k+j:=by rw[QF];omega
  rw[UE,List.getElem?_append_right (by rw[hf,QF];omega),hf,e];exact Zpn f k hf L i x j (by simpa using h) hj
theorem Zr7{b:Nat}{L:List Sf}(h:Zp3 b w v L)(hn:∀x∈L,x.nm.size<=maxLen):∃base cap,v= .slice base L.length cap/\RawA w base L:=by
 cases L with
 |nil=>
  rcases h.2 with⟨h1,_⟩|⟨g,cp,cur,h1,_⟩
  ·exact⟨_,_,h1,λi x hx=>by simp at hx⟩
  ·exact⟨_,_,h1,λi x hx=>by simp at hx⟩
 |cons y L=>
  obtain⟨g,cp,h1,h2,h3⟩:=XP h (by simp);refine⟨_,_,h1,λi x hx=> ?_⟩;subst h1
  have key:∀(j:Nat)(u:Value),j<7->(sfC x)[j]? =some u->w.cell? ⟨g,0+i*7+j,none⟩=some u:=λj u hj hu=>by
   have:=h.cells (g:=g) rfl (i*7+j) u (by rw[Zpn sfC 7 (λ_=>rfl) _ i x j hx hj];exact hu);rw[Z0c] at this;rw[UA];exact this
  exact⟨g,0,rfl,h3,⟨key 0 _ (by omega) rfl,key 1 _ (by omega) rfl,key 2 _ (by omega) rfl,key 3 _ (by omega) rfl,key 4 _ (by omega) rfl,key 5 _ (by omega) rfl,key 6 _ (by omega) rfl⟩,hn x (YQ hx)⟩
theorem Zp4(K:Nat)(N:List (List UInt8))(c:Bool)(h:∀x∈N,x.length+1<=K):(pcs N c).flatten.length<=N.length*K:=by
 have h1:(pcs N false).flatten.length<=N.length*K:=by
  rw[pcs_false]
  have:=Zo5 K (N.map (·++[10])) (by
   intro y hy;obtain⟨x,hx,rfl⟩:=VD.1 hy;simpa using h x hx)
  simpa using this
 cases c with
 |false=>exact h1
 |true=>
  by_cases hn:N=[]
  ·subst hn;simp[pcs]
  ·have:=SG List.length (pcs_cut N hn);rw[XK] at this;omega
def Zp5(a b c m:Int)(L:List Sf):Nat->Value
 |0=> .iface 96 (.agg #[a,b,c,m])
 |i+1=>match L[i]? with
  |some x=> .iface 98 (.agg #[.string x.nm,x.a0,x.a1,x.b0,x.b1,x.c0,x.c1])
  |none=> .nilIface
theorem Zp6{L:List Sf}(h:Zp a b c m L=0)(ct:Bool):(pcs (ZnJ a b c m L) ct).flatten.length<=60000:=by
 obtain⟨ha,hb,hc,hm,hl,hL⟩:=ZnT h;refine XD (Zp4 6000 _ ct ?_) ?_
 ·intro x hx;rcases XE.1 hx with rfl|hx
  ·have:=ZnA 1000 ([114,117,108,101]::ZX a b c m) (by
    intro y hy;rcases XE.1 hy with rfl|hy
    ·decide
    ·exact ZnV ha hb hc hm y hy)
   simp only[ZX,VC,VQ,YP,XM] at this⊢;omega
  ·obtain⟨y,hy,rfl⟩:=VD.1 hx;have ho:=hL y hy
   have:=ZnA 1000 ([115,104,97,102,116]::ZnI y) (by
    intro z hz;simp only[ZnI,XE,XL,VO] at hz;rcases hz with rfl|rfl|rfl|rfl|rfl
    ·decide
    ·exact XD ho.sz (by omega)
    ·exact ZnF ho.a0 ho.a1
    ·exact ZnF ho.b0 ho.b1
    ·exact ZnF ho.c0 ho.c1)
   simp only[ZnI,YP,XM] at this⊢;omega
 ·simp only[ZnJ,YP,UI];omega
theorem ZoI(a b c m:Int)(L:List Sf)(ct:Bool)(w0 w:World)(sb:Nat)(h0:Zp a b c m L=0)(hx:MaxL w0)(he:ErrF w0)(Gb:w0.heap.size<=sb)(hE:Ext w0 w)
 (hs:w.heap[sb]? =some (.cells #[.int .i64 0,.int .i64 0,.int .i64 0,.int .i64 0,.slice none 0 0] 26)):
 Calls Tryp.prog 45 #[str (pcs (ZnJ a b c m L) ct).flatten,.func (.func 46) #[] #[.pointer (some ⟨sb,0,none⟩)]] w λe W'=>e= .returned .nilIface/\∃n0 v,Ext w0 W'/\W'.heap[sb]? =some (.cells #[a,b,c,m,v] 26)/\Zp3 n0 W' v L:=by
 obtain⟨ha,hb,hc,hm,hl,hL⟩:=ZnT h0;have A3:=Z5 hs;have Ug:(ZnJ a b c m L).length=L.length+1:=by simp[ZnJ]
 refine(Zpx 46 sb (ZnJ a b c m L) ct (Zp5 a b c m L) (JL 26 51 7 [.int .i64 0,.int .i64 0,.int .i64 0,.int .i64 0] [.int .i64 a,.int .i64 b,.int .i64 c,.int .i64 m] (λk=>(L.take k).flatMap sfC) sb w0) w0 w
  (by omega) (by omega) (Zqj h0) (Zp6 h0 ct) Gb A3 (Zrs 46) ?ln ?hd (λ_ _ _ h=>h.2.1) ?tk (λn0 i W W' row h hg hr=>JL.keep n0 i W W' row h hg hr) ?st).mono ?_
 case ln=>
  intro i B hB W hW
  match i with
  |0=>cases hB;exact Zpl a b c m W ha hb hc hm (hx.ext hW)
  |i+1=>
   have hB:(L.map λx=>[32].intercalate ([115,104,97,102,116]::ZnI x))[i]? =some B:=hB;rw[List.getElem?_map] at hB;cases hi:L[i]? with
   |none=>rw[hi] at hB;cases hB
   |some x=>
    rw[hi] at hB;cases hB;have:=Zp2 x W (hL x (YQ hi)) (hx.ext hW) (he.ext hW);simpa[Zp5,hi] using this
 case hd=>
  intro i hi
  match i with
  |0=>exact⟨_,_,_,_,rfl,Zrm _,(Zrs 252),Zro a b c m⟩
  |i+1=>
   obtain⟨x,hx⟩:∃x,L[i]? =some x:=⟨_,YH (by omega)⟩;exact⟨98,.agg #[.string x.nm,x.a0,x.a1,x.b0,x.b1,x.c0,x.c1],253,_,by simp only[Zp5,hx],Zrn _,(Zrs 253),λW=>by simpa using Zrp x W⟩
 case tk=>
  rintro n0 i W hi ⟨h1,h2,v,h3,h4⟩ hn
  match i with
  |0=>
   refine(Zqn a b c m sb n0 v W _ _ _ _ h3 hn).mono ?_;rintro e W' ⟨rfl,g1,g2,g3,g4,g5,g6⟩;exact⟨rfl,⟨h1,ZoH h2 Gb h1 g2 g4 g5 g6,v,g1,g3 [] h1 h4⟩,g2⟩
  |i+1=>
   obtain⟨x,hx⟩:∃x,L[i]? =some x:=⟨_,YH (by omega)⟩;have Yy:(L.take i).length=i:=by rw[UK];omega
   have ho:Zp3 n0 W v (L.take i):=by
    show W.ownsRow n0 51 7 v (L.take i).length _;rw[Yy];exact h4
   have hV:Zp5 a b c m L (i+1)= .iface 98 (.agg #[.string x.nm,x.a0,x.a1,x.b0,x.b1,x.c0,x.c1]):=by simp only[Zp5,hx]
   rw[hV];refine(ZpP x sb n0 v (L.take i) W _ _ _ _ h3 hn h1 ho (by omega)).mono ?_;rintro e W' ⟨rfl,v',g1,g2,g3,g4,g5,g6⟩;refine⟨rfl,⟨h1,ZoH h2 Gb h1 g3 g4 g5 g6,v',g1,?_⟩,g3⟩;have e2:L.take (i+1)=L.take i++[x]:=by rw[TG,hx];rfl
   have g7:W'.ownsRow n0 51 7 v' (L.take i++[x]).length _:=g2;rw[<-e2,UK,RS (by omega)] at g7;exact g7
 case st=>
  intro n0 hn;exact⟨by omega,hE,_,hs,VN _ _ _ _⟩
 rintro e W' ⟨rfl,n0,h1,h2,v,h3,h4⟩;rw[Ug,XA (by omega)] at h3;rw[Ug,Nat.add_sub_cancel] at h4;have h4:W'.ownsRow n0 51 7 v L.length ((L.take L.length).flatMap sfC):=h4;rw[UT] at h4;exact⟨rfl,n0,v,h2,h3,h4⟩
theorem ZqO{c:Array Value}(h:c[i]? =some v):c.setIfInBounds i v=c:=by
 apply Array.ext_getElem?;intro k;rw[Array.getElem?_setIfInBounds];split
 ·rename_i e;subst e;rw[YZ (YF.1 h).1,h]
 ·rfl
theorem Zns{b:Nat}(h:w.cell? ⟨b,i,none⟩=some v):w.setCell ⟨b,i,none⟩ v=w:=by
 have key:(w.setCell ⟨b,i,none⟩ v).heap=w.heap:=by
  unfold World.setCell;apply Array.ext_getElem?;intro k;show(w.heap.modify b _)[k]? =_;rw[Array.getElem?_modify];split
  ·rename_i e;subst e;unfold World.cell? at h;cases hb:w.heap[b]? with
   |none=>rfl
   |some o=>
    rw[hb] at h;cases o with
    |cells c e f=>
     have h:c[i]? =some v:=(by simpa using h);simp[ZqO h]
    |_=>rfl
  ·rfl
 have e:w.setCell ⟨b,i,none⟩ v={w with heap:=(w.setCell ⟨b,i,none⟩ v).heap}:=rfl;rw[e,key]
theorem Zoq(a b c m:Int)(L:List Sf)(ct:Bool)(w:World)(h0:Zp a b c m L=0)(hM:Meas w)(hx:MaxL w)(he:ErrF w):
 Calls Tryp.prog 11 #[str (pcs (ZnJ a b c m L) ct).flatten] w λe w'=>∃base cap,e= .returned (.tuple #[.agg #[a,b,c,m,.slice base L.length cap],.int .i64 0,.int .i64 0])/\RawA w' base L/\Ext w w':=by
 have Ab:Ext w (w.alloc (.cells #[.int .i64 0,.int .i64 0,.int .i64 0,.int .i64 0,.slice none 0 0] 26)):=(Ext.rfl' w).alloc _;have Fm:(w.alloc (.cells #[.int .i64 0,.int .i64 0,.int .i64 0,.int .i64 0,.slice none 0 0] 26)).heap[w.heap.size]? =some (.cells #[.int .i64 0,.int .i64 0,.int .i64 0,.int .i64 0,.slice none 0 0] 26):=by rw[Z3,YZ rfl]
 have K1:=ZoI a b c m L ct w _ w.heap.size h0 hx he (XB _) Ab Fm;have B3:=λW base cap hM hS=>Z24 a b c m base L.length cap L W rfl hM hS
 rw[h0] at B3;have Me:∀x∈L,x.nm.size<=maxLen:=λx h=>XD ((ZnT h0).2.2.2.2.2 x h).sz (by simp[maxLen])
 generalize (pcs (ZnJ a b c m L) ct).flatten=txt at K1⊢;clear Ab Fm;go_enter fq Tryz.func11,Tryz.ntmps11
 go_wp2_with (first
  |(go_at_call 45;refine K1.mono ?_;rintro e w2 ⟨rfl,n0,v,A4,C7,Ac⟩
    obtain⟨base,cap,rfl,P6⟩:=Zr7 Ac Me;have Ah:Ext w (w2.alloc (.cells #[.int .i64 0,.int .i64 0] 101)):=A4.alloc _;have Dt:=((Ext.rfl' w2).alloc (.cells #[.int .i64 0,.int .i64 0] 101)).get C7;have C9:=P6.ext ((Ext.rfl' w2).alloc (.cells #[.int .i64 0,.int .i64 0] 101));have q0:=Z0 Dt 0;have q1:=Z0 Dt 1;have q2:=Z0 Dt 2;have q3:=Z0 Dt 3;have q4:=Z0 Dt 4;simp only[YC,YA,YB] at q0 q1 q2 q3 q4)
  |(go_at_call 47;refine(ZqU _ _).mono ?_;rintro e w3 ⟨rfl,rfl⟩)
  |(go_at_call 36;refine(B3 _ base cap (hM.ext Ah) C9).mono ?_;rintro e w4 ⟨rfl,Ak⟩
    have Du:=Ak.get Dt;have B4:=Ah.trans Ak;have I8:=C9.ext Ak;have s0:=Z0 Du 0;have s1:=Z0 Du 1;have s2:=Z0 Du 2;have s3:=Z0 Du 3;have s4:=Z0 Du 4;have z0:=Z8 Du 0;have z1:=Z8 Du 1;have z2:=Z8 Du 2;have z3:=Z8 Du 3;have z4:=Z8 Du 4;simp only[YC,YA,YB] at s0 s1 s2 s3 s4))
 rw[Zns s0,Zns s1,Zns s2,Zns s3,Zns s4];refine VE (v:= .tuple #[.agg #[a,b,c,m,.slice base L.length cap],.int .i64 0,.int .i64 0]) ?_ rfl ⟨base,cap,rfl,I8,B4⟩;show(results Tryz.f11 _).run Tryp.prog _=_;have hr:Tryz.f11.results= #[.cell 2 26,.tmp 3,.tmp 4]:=by kernel_rfl
 unfold results;rw[hr];simp[go_sem,s0,s1,s2,s3,s4]
theorem Zr8(v:Value)(w:World):(method 457 108 v "nock/arrow.head").run Tryp.prog w= .ok (255,v) w:=by kernel_rfl
theorem Zr9(v:Value)(w:World):(method 457 110 v "nock/arrow.head").run Tryp.prog w= .ok (256,v) w:=by kernel_rfl
theorem Zra(a b c m:Int)(w:World):Calls Tryp.prog 255 #[.agg #[a,b,c,m]] w λe w'=>e= .returned (.bool true)/\Ext w w':=by
 go_enter fq Tryz.func255,Tryz.ntmps255;go_wp2;go_ret;exact⟨rfl,(Ext.rfl' w).alloc _⟩
theorem Zrb(x:Rs)(w:World):Calls Tryp.prog 256 #[.agg #[x.a,x.m,x.M,x.wi,x.li]] w λe w'=>e= .returned (.bool false)/\Ext w w':=by
 go_enter fq Tryz.func256,Tryz.ntmps256;go_wp2;go_ret;exact⟨rfl,(Ext.rfl' w).alloc _⟩
@[local go_sem] theorem ta108 (v:Value) (w:World):(Instr.typeAssert (.iface 108 v) 94 108 true).run Tryp.prog w= .ok (.tuple #[v,.bool true]) w:=by kernel_rfl
@[local go_sem] theorem ta110 (v:Value) (w:World):(Instr.typeAssert (.iface 110 v) 94 110 true).run Tryp.prog w= .ok (.tuple #[v,.bool true]) w:=by kernel_rfl
@[local go_sem] theorem tb110 (v:Value) (w:World):(Instr.typeAssert (.iface 110 v) 94 108 true).run Tryp.prog w= .ok (.tuple #[.agg #[.int .i64 0,.int .i64 0,.int .i64 0,.int .i64 0],.bool false]) w:=by kernel_rfl
theorem u29p:Tryp.prog.underlying 29=some (.slice 75):=(underlying_eq 29).trans Tryz.underlying29
theorem i75p:Tryp.prog.info? 75=some Tryz.t75:=by kernel_rfl
theorem t75z:Tryz.t75.zero=some (.agg #[.int .i64 0,.int .i64 0,.int .i64 0,.int .i64 0,.int .i64 0]):=by kernel_rfl
theorem t75s:Tryz.t75.size=5:=by kernel_rfl
theorem t75b:Tryz.t75.bytes=40:=by kernel_rfl
def rsC(x:Rs):List Value:=[.int .i64 x.a,.int .i64 x.m,.int .i64 x.M,.int .i64 x.wi,.int .i64 x.li]
def Zp7(b:Nat)(w:World)(v:Value)(L:List Rs):Prop:=w.ownsRow b 75 5 v L.length (L.flatMap rsC)
theorem ZpQ(a b c m:Int)(sb n0:Nat)(v:Value)(w:World)(r0 r1 r2 r3:Value)(hs:w.heap[sb]? =some (.cells #[r0,r1,r2,r3,v] 31))(hn:n0<=w.heap.size):
 Calls Tryp.prog 50 #[.iface 108 (.agg #[a,b,c,m]),.pointer (some ⟨sb,0,none⟩)] w λe w'=>e= .returned (.bool true)/\w'.heap[sb]? =some (.cells #[a,b,c,m,v] 31)/\
  Kpt sb n0 w w'/\(∀L,sb<n0->Zp7 n0 w v L->Zp7 n0 w' v L)/\w'.os=w.os/\w'.tape=w.tape/\w'.output=w.output:=by
 have q0:=Z0 hs 0;have q1:=Z0 hs 1;have q2:=Z0 hs 2;have q3:=Z0 hs 3;have z0:=Z8 hs 0;have z1:=Z8 hs 1;have z2:=Z8 hs 2;have z3:=Z8 hs 3;simp only[YC,YA,YB] at q0 q1 q2 q3;have A3:=Z5 hs;replace hs:Hid _:=hs;go_enter fq Tryz.func50,Tryz.ntmps50;go_wp2;go_ret;have g1:=Zb (Zb (Zb (Zb hs.out (i:=0) (.int .i64 a)) (i:=1) (.int .i64 b)) (i:=2) (.int .i64 c)) (i:=3) (.int .i64 m);simp only[VG,VU,US] at g1;have hk:=((((VJ w ⟨sb,0,none⟩ (.int .i64 a)).trans (VJ _ ⟨sb,1,none⟩ (.int .i64 b))).trans (VJ _ ⟨sb,2,none⟩ (.int .i64 c))).trans (VJ _ ⟨sb,3,none⟩ (.int .i64 m))).trans (UY _ (.cells #[a,b,c,m] 108));refine⟨rfl,?_,⟨λk h1 h2=> ?_,hk⟩,λL hb ho=> ?_,rfl,rfl,rfl⟩
 ·rw[Z3,XA (by simp;omega)];exact g1
 ·rw[Z3,XA (by simp;omega)];rw[set_ne h2,set_ne h2,set_ne h2,set_ne h2]
 ·exact World.ownsRow.alloc (VA (VA (VA (VA ho (a:=⟨sb,0,none⟩) hb _) (a:=⟨sb,1,none⟩) hb _) (a:=⟨sb,2,none⟩) hb _) (a:=⟨sb,3,none⟩) hb _) _
theorem Zqo(x:Rs)(sb n0:Nat)(v:Value)(L:List Rs)(w:World)(r0 r1 r2 r3:Value)(hs:w.heap[sb]? =some (.cells #[r0,r1,r2,r3,v] 31))(hn:n0<=w.heap.size)(hb:sb<n0)(ho:Zp7 n0 w v L)(hl:L.length<=100):
 Calls Tryp.prog 50 #[.iface 110 (.agg #[x.a,x.m,x.M,x.wi,x.li]),.pointer (some ⟨sb,0,none⟩)] w λe w'=>e= .returned (.bool true)/\∃v',w'.heap[sb]? =some (.cells #[r0,r1,r2,r3,v'] 31)/\
  Zp7 n0 w' v' (L++[x])/\Kpt sb n0 w w'/\w'.os=w.os/\w'.tape=w.tape/\w'.output=w.output:=by
 have q4:=Z0 hs 4;have z4:=Z8 hs 4;simp only[YC,YA,YB] at q4;have A3:=Z5 hs;have In:L.length+1<=maxLen:=by simp[maxLen];omega
 have Fr:(L.length+1)*40<=140737488355328:=by omega
 replace hs:Hid _:=hs;replace hl:Hid _:=hl;go_enter fq Tryz.func50,Tryz.ntmps50
 go_wp2_with (
  at_builtin
  refine UG _ rfl _ _ 29 rfl n0 75 Tryz.t75 _ 5 40 u29p i75p t75z t75s t75b rfl (by decide) _ _ _ rfl (((show w.ownsRow n0 75 5 v L.length (L.flatMap rsC) from ho).alloc _).alloc _) ⟨w.heap.size+1,0,none⟩ 1 1 (rsC x) rfl rfl (by have:=Zpy (w.alloc (.cells (rsC x).toArray 110)) (rsC x) 75;rw[Z2] at this;exact this) (by intro u hu;simp only[rsC,XE,XL,VO] at hu;rcases hu with rfl|rfl|rfl|rfl|rfl<;>rfl) In Fr (by simp only[Z2];omega) ?_;intro v' w3 Aa A5 _;obtain⟨g',cp',rfl,Ol,Om⟩:=XP Aa (by omega);have g3:w3.heap[sb]? =some (.cells #[r0,r1,r2,r3,v] 31):=Z0m A5 (λe=>by have:=(ho.lt _ e.symm).1;omega) ((((Ext.rfl' w).alloc _).alloc _).get hs.out);have r4:=Z0 g3 4;have f4:=Z8 g3 4;simp only[YC,YA,YB] at r4)
 go_ret;have Bc:∀(j:Nat)(o:Obj),v.ownBlock=some j->((w.alloc (.cells (rsC x).toArray 110)).alloc (.cells (rsC x).toArray 75)).heap[j]? =some o->o.isCells=true:=by
  intro j o hj h;rcases(((show w.ownsRow n0 75 5 v L.length (L.flatMap rsC) from ho).alloc (.cells (rsC x).toArray 110)).alloc (.cells (rsC x).toArray 75)).2 with⟨rfl,_⟩|⟨g,cp,cur,rfl,_,hg',_⟩
  ·cases hj
  ·cases hj;rw[hg'] at h;cases h;rfl
 have Dy:((w.alloc (.cells (rsC x).toArray 110)).alloc (.cells (rsC x).toArray 75)).grownBy w3 v.ownBlock:=A5;have hA:=VI w3 ⟨sb,4,none⟩ (.slice (some ⟨g',0,none⟩) (L.length+1) cp');have hk:=(((UY w (.cells (rsC x).toArray 110)).trans (UY _ (.cells (rsC x).toArray 75))).trans (SJ Dy Bc)).trans (VJ w3 ⟨sb,4,none⟩ (.slice (some ⟨g',0,none⟩) (L.length+1) cp'));have g5:=Zb g3 (i:=4) (.slice (some ⟨g',0,none⟩) (L.length+1) cp');simp only[VG,VU,US] at g5;refine⟨rfl,_,g5,?_,⟨λk h1 h2=> ?_,hk⟩,hA.os.trans Dy.os,hA.tape.trans Dy.tape,hA.output.trans Dy.output⟩
 ·have:=VA Aa (a:=⟨sb,4,none⟩) hb (.slice (some ⟨g',0,none⟩) (L.length+1) cp');simpa[Zp7] using this
 ·rw[set_ne h2,Dy.block k (by simp only[Z2];omega) (λe=>by have:=(ho.lt _ e.symm).1;omega)];exact(((Ext.rfl' w).alloc _).alloc _).old k (by omega)
theorem ZqP{b:Nat}{L:List Rs}(h:Zp7 b w v L):∃base cap,v= .slice base L.length cap/\RawS w base L:=by
 cases L with
 |nil=>
  rcases h.2 with⟨h1,_⟩|⟨g,cp,cur,h1,_⟩
  ·exact⟨_,_,h1,λi x hx=>by simp at hx⟩
  ·exact⟨_,_,h1,λi x hx=>by simp at hx⟩
 |cons y L=>
  obtain⟨g,cp,h1,h2,h3⟩:=XP h (by simp);refine⟨_,_,h1,λi x hx=> ?_⟩;subst h1
  have key:∀(j:Nat)(u:Value),j<5->(rsC x)[j]? =some u->w.cell? ⟨g,0+i*5+j,none⟩=some u:=λj u hj hu=>by
   have:=h.cells (g:=g) rfl (i*5+j) u (by rw[Zpn rsC 5 (λ_=>rfl) _ i x j hx hj];exact hu);rw[Z0c] at this;rw[UA];exact this
  exact⟨g,0,rfl,h3,⟨key 0 _ (by omega) rfl,key 1 _ (by omega) rfl,key 2 _ (by omega) rfl,key 3 _ (by omega) rfl,key 4 _ (by omega) rfl⟩⟩
def Zqp(a b c m:Int)(L:List Rs):Nat->Value
 |0=> .iface 108 (.agg #[a,b,c,m])
 |i+1=>match L[i]? with
  |some x=> .iface 110 (.agg #[x.a,x.m,x.M,x.wi,x.li])
  |none=> .nilIface
theorem Zpo{L:List Rs}(h:ZC a b c m L=0)(ct:Bool):(pcs (Zoc a b c m L) ct).flatten.length<=60000:=by
 obtain⟨ha,hb,hc,hm,hl,hL⟩:=Zob h;refine XD (Zp4 6000 _ ct ?_) ?_
 ·intro x hx;rcases XE.1 hx with rfl|hx
  ·have:=ZnA 1000 ([115,105,103,104,116]::ZX a b c m) (by
    intro y hy;rcases XE.1 hy with rfl|hy
    ·decide
    ·exact ZnV ha hb hc hm y hy)
   simp only[ZX,VC,VQ,YP,XM] at this⊢;omega
  ·obtain⟨y,hy,rfl⟩:=VD.1 hx;have ho:=hL y hy
   have:=ZnA 1000 ([115,104,111,116]::ZZ y) (by
    intro z hz;simp only[ZZ,XE,XL,VO] at hz;rcases hz with rfl|rfl|rfl|rfl|rfl
    ·decide
    ·exact ZnL ho.a
    ·exact ZnF ho.m ho.M
    ·exact ZnL ho.wi
    ·exact ZnL ho.li)
   simp only[ZZ,YP,XM] at this⊢;omega
 ·simp only[Zoc,YP,UI];omega
theorem Zp8(a b c m:Int)(L:List Rs)(ct:Bool)(w0 w:World)(sb:Nat)(h0:ZC a b c m L=0)(hx:MaxL w0)(he:ErrF w0)(Gb:w0.heap.size<=sb)(hE:Ext w0 w)
 (hs:w.heap[sb]? =some (.cells #[.int .i64 0,.int .i64 0,.int .i64 0,.int .i64 0,.slice none 0 0] 31)):
 Calls Tryp.prog 45 #[str (pcs (Zoc a b c m L) ct).flatten,.func (.func 50) #[] #[.pointer (some ⟨sb,0,none⟩)]] w λe W'=>e= .returned .nilIface/\∃n0 v,Ext w0 W'/\W'.heap[sb]? =some (.cells #[a,b,c,m,v] 31)/\Zp7 n0 W' v L:=by
 obtain⟨ha,hb,hc,hm,hl,hL⟩:=Zob h0;have A3:=Z5 hs;have Ug:(Zoc a b c m L).length=L.length+1:=by simp[Zoc]
 refine(Zpx 50 sb (Zoc a b c m L) ct (Zqp a b c m L) (JL 31 75 5 [.int .i64 0,.int .i64 0,.int .i64 0,.int .i64 0] [.int .i64 a,.int .i64 b,.int .i64 c,.int .i64 m] (λk=>(L.take k).flatMap rsC) sb w0) w0 w
  (by omega) (by omega) (ZqK h0) (Zpo h0 ct) Gb A3 (Zrs 50) ?ln ?hd (λ_ _ _ h=>h.2.1) ?tk (λn0 i W W' row h hg hr=>JL.keep n0 i W W' row h hg hr) ?st).mono ?_
 case ln=>
  intro i B hB W hW
  match i with
  |0=>cases hB;exact Zp1 a b c m W ha hb hc hm (hx.ext hW)
  |i+1=>
   have hB:(L.map λx=>[32].intercalate ([115,104,111,116]::ZZ x))[i]? =some B:=hB;rw[List.getElem?_map] at hB;cases hi:L[i]? with
   |none=>rw[hi] at hB;cases hB
   |some x=>
    rw[hi] at hB;cases hB;have:=Zpm x W (hL x (YQ hi)) (hx.ext hW) (he.ext hW);simpa[Zqp,hi] using this
 case hd=>
  intro i hi
  match i with
  |0=>exact⟨_,_,_,_,rfl,Zr8 _,(Zrs 255),Zra a b c m⟩
  |i+1=>
   obtain⟨x,hx⟩:∃x,L[i]? =some x:=⟨_,YH (by omega)⟩;exact⟨110,.agg #[x.a,x.m,x.M,x.wi,x.li],256,_,by simp only[Zqp,hx],Zr9 _,(Zrs 256),λW=>by simpa using Zrb x W⟩
 case tk=>
  rintro n0 i W hi ⟨h1,h2,v,h3,h4⟩ hn
  match i with
  |0=>
   refine(ZpQ a b c m sb n0 v W _ _ _ _ h3 hn).mono ?_;rintro e W' ⟨rfl,g1,g2,g3,g4,g5,g6⟩;exact⟨rfl,⟨h1,ZoH h2 Gb h1 g2 g4 g5 g6,v,g1,g3 [] h1 h4⟩,g2⟩
  |i+1=>
   obtain⟨x,hx⟩:∃x,L[i]? =some x:=⟨_,YH (by omega)⟩;have Yy:(L.take i).length=i:=by rw[UK];omega
   have ho:Zp7 n0 W v (L.take i):=by
    show W.ownsRow n0 75 5 v (L.take i).length _;rw[Yy];exact h4
   have hV:Zqp a b c m L (i+1)= .iface 110 (.agg #[x.a,x.m,x.M,x.wi,x.li]):=by simp only[Zqp,hx]
   rw[hV];refine(Zqo x sb n0 v (L.take i) W _ _ _ _ h3 hn h1 ho (by omega)).mono ?_;rintro e W' ⟨rfl,v',g1,g2,g3,g4,g5,g6⟩;refine⟨rfl,⟨h1,ZoH h2 Gb h1 g3 g4 g5 g6,v',g1,?_⟩,g3⟩;have e2:L.take (i+1)=L.take i++[x]:=by rw[TG,hx];rfl
   have g7:W'.ownsRow n0 75 5 v' (L.take i++[x]).length _:=g2;rw[<-e2,UK,RS (by omega)] at g7;exact g7
 case st=>
  intro n0 hn;exact⟨by omega,hE,_,hs,VN _ _ _ _⟩
 rintro e W' ⟨rfl,n0,h1,h2,v,h3,h4⟩;rw[Ug,XA (by omega)] at h3;rw[Ug,Nat.add_sub_cancel] at h4;have h4:W'.ownsRow n0 75 5 v L.length ((L.take L.length).flatMap rsC):=h4;rw[UT] at h4;exact⟨rfl,n0,v,h2,h3,h4⟩
theorem ZoJ(a b c m:Int)(L:List Rs)(ct:Bool)(w:World)(h0:ZC a b c m L=0)(hx:MaxL w)(he:ErrF w):
 Calls Tryp.prog 14 #[str (pcs (Zoc a b c m L) ct).flatten] w λe w'=>∃base cap,e= .returned (.tuple #[.agg #[a,b,c,m,.slice base L.length cap],.int .i64 0,.int .i64 0])/\RawS w' base L/\Ext w w':=by
 have Ab:Ext w (w.alloc (.cells #[.int .i64 0,.int .i64 0,.int .i64 0,.int .i64 0,.slice none 0 0] 31)):=(Ext.rfl' w).alloc _;have Fm:(w.alloc (.cells #[.int .i64 0,.int .i64 0,.int .i64 0,.int .i64 0,.slice none 0 0] 31)).heap[w.heap.size]? =some (.cells #[.int .i64 0,.int .i64 0,.int .i64 0,.int .i64 0,.slice none 0 0] 31):=by rw[Z3,YZ rfl]
 have K1:=Zp8 a b c m L ct w _ w.heap.size h0 hx he (XB _) Ab Fm;have B3:=λW base cap hS=>Z0U a b c m base L.length cap L W rfl hS
 simp only[Zh] at B3;rw[h0] at B3;generalize (pcs (Zoc a b c m L) ct).flatten=txt at K1⊢;clear Ab Fm;go_enter fq Tryz.func14,Tryz.ntmps14
 go_wp2_with (first
  |(go_at_call 45;refine K1.mono ?_;rintro e w2 ⟨rfl,n0,v,A4,C7,Ac⟩
    obtain⟨base,cap,rfl,P6⟩:=ZqP Ac;have Ah:Ext w (w2.alloc (.cells #[.int .i64 0,.int .i64 0] 101)):=A4.alloc _;have Dt:=((Ext.rfl' w2).alloc (.cells #[.int .i64 0,.int .i64 0] 101)).get C7;have C9:=P6.ext ((Ext.rfl' w2).alloc (.cells #[.int .i64 0,.int .i64 0] 101));have q0:=Z0 Dt 0;have q1:=Z0 Dt 1;have q2:=Z0 Dt 2;have q3:=Z0 Dt 3;have q4:=Z0 Dt 4;simp only[YC,YA,YB] at q0 q1 q2 q3 q4)
  |(go_at_call 47;refine(ZqU _ _).mono ?_;rintro e w3 ⟨rfl,rfl⟩)
  |(go_at_call 43;refine(B3 _ base cap C9).mono ?_;rintro e w4 ⟨rfl,Ak⟩
    have Du:=Ak.get Dt;have B4:=Ah.trans Ak;have I8:=C9.ext Ak;have s0:=Z0 Du 0;have s1:=Z0 Du 1;have s2:=Z0 Du 2;have s3:=Z0 Du 3;have s4:=Z0 Du 4;have z0:=Z8 Du 0;have z1:=Z8 Du 1;have z2:=Z8 Du 2;have z3:=Z8 Du 3;have z4:=Z8 Du 4;simp only[YC,YA,YB] at s0 s1 s2 s3 s4))
 rw[Zns s0,Zns s1,Zns s2,Zns s3,Zns s4];refine VE (v:= .tuple #[.agg #[a,b,c,m,.slice base L.length cap],.int .i64 0,.int .i64 0]) ?_ rfl ⟨base,cap,rfl,I8,B4⟩;show(results Tryz.f14 _).run Tryp.prog _=_;have hr:Tryz.f14.results= #[.cell 2 31,.tmp 3,.tmp 4]:=by kernel_rfl
 unfold results;rw[hr];simp[go_sem,s0,s1,s2,s3,s4]
end
end Go.Proofs.Tryp
