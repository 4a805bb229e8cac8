import Derived.Test.YthahddndgbpooaaGreatDoorNkA
import Derived.Test.YthahddndgbpooaaGreatDoorNk05
import Derived.Conc.WgGenN3
set_option linter.all false
set_option maxRecDepth 100000
set_option maxHeartbeats 32000000
open Go Go.RowKit Go.Conc
variable {es:Array Event}{g:Goroutine}{C Wg j m n:Nat}{Giv Sb o:Nat->Prop}{P:Program}{ty:TypeId}{a b w:World}
namespace Go.Nk
open Go.Conc.Lib Go.ConcR.Gen Go.ConcN.Gen
open Go.ConcN (ShN WgLive PayAt Has CTag)
open Go.ConcR (KK WgAt stA smA rd wr mk Payload DC0)
variable [Payload]{L:WgLink}
section
variable {S:(Nat->Prop)->Goroutine->World->Prop}
theorem Z5I(h:DC0 a b es):DMo Wg Sb Giv o a b es/\b.heap.size=a.heap.size:=by
 obtain⟨rfl,rfl⟩:=h;exact⟨⟨λ_ _ _=>rfl,XB _,rfl,rfl,rfl,λe he=>by simp at he⟩,rfl⟩
theorem Z13(h:Goes P true (RMo ty Wg C n o) DC0 (S o) m g w):∃r,GoT P true (RMo ty Wg C n) (DMo Wg Sb Giv) S r o g w:=
 ⟨_,GoT.of_goes (λ_ _=>id) (λ_ _ _=>Z5I) (λ_ _=>id) h⟩
theorem Z0X(h:Goes P true (RMo ty Wg C n o) DC0 (λg w=>∃r,GoT P true (RMo ty Wg C n) (DMo Wg Sb Giv) S r o g w) m g w):∃r,GoT P true (RMo ty Wg C n) (DMo Wg Sb Giv) S r o g w:=by
 have h1:GoT P true (RMo ty Wg C n) (DMo Wg Sb Giv) (λo g w=>∃r,GoT P true (RMo ty Wg C n) (DMo Wg Sb Giv) S r o g w) (.ofNat m) o g w:=
  GoT.of_goes (λ_ _=>id) (λ_ _ _=>Z5I) (λ_ _=>id) h
 exact h1.seq RMo.refl (λ_ _ _ h=>h)
theorem Z5J(hs:g.status= .running)(h:∀w₁,RMo ty Wg C n o w w₁->∃g' a x,stepG P true g w₁= .go g' w₁ #[⟨.mark x,false,true⟩]/\(x= .read a\/x= .write a)/\a.block=Wg/\WgLive ty Wg w₁/\∃r,GoT P true (RMo ty Wg C n) (DMo Wg Sb Giv) S r o g' w₁):
 ∃r,GoT P true (RMo ty Wg C n) (DMo Wg Sb Giv) S r o g w:=by
 refine GoT.step hs λw₁ hw=> ?_
 obtain⟨g',a,x,e,hx,ha,hl,r,hr⟩:=h w₁ hw;refine⟨g',w₁,_,r,e,⟨λ_ _ _=>rfl,XB _,rfl,rfl,rfl,λev Bb=> ?_⟩,by rw[Z0a rfl];exact hr⟩;rw[Array.mem_singleton] at Bb;subst Bb;have A3:a.block<w₁.heap.size:=by
  obtain⟨_,_,hat⟩:=hl;rw[ha];exact(YF.1 hat).1
 rcases hx with rfl|rfl
 ·refine⟨⟨λy hy=> .inl ?_,by simp[Z0r]⟩,?_⟩
  ·simp only[MemAct.ofEvent,MemAct.touch?,XJ] at hy;subst hy;exact⟨⟨a,rfl,ha⟩,by simp⟩
  ·simp[MemAct.ofEvent,MemAct.low,A3]
 ·refine⟨⟨λy hy=> .inl ?_,by simp[Z0r]⟩,?_⟩
  ·simp only[MemAct.ofEvent,MemAct.touch?,XJ] at hy;subst hy;exact⟨⟨a,rfl,ha⟩,by simp⟩
  ·simp[MemAct.ofEvent,MemAct.low,A3]
theorem Z1{F:World->Prop}(A0:∀w w',RMo ty Wg C n o w w'->F w->F w'){w w₁:World}(h:F w/\WgLive ty Wg w)(r:RMo ty Wg C n o w w₁):F w₁/\WgLive ty Wg w₁:=⟨A0 _ _ r h.1,r.live h.2⟩
theorem Z4P(ho:¬o Wg)(hC:C≠Wg){w:World}(a:Addr)(ha:a.block=Wg)(v:Value)(hl:WgLive ty Wg (w.setCell a v)):RMo ty Wg C n o w (w.setCell a v):=by
 have hs:=TI w a v;exact⟨λb hb=>hs.block b (λe=>ho (by rw[<-ha,<-e];exact hb)),TU hs.size.symm,λ_=>hl,fun⟨cs,h1,h2⟩=>⟨cs,by rw[hs.block C (by rw[ha];exact hC)];exact h1,h2⟩,hs.tape,hs.os,hs.output⟩
end
section
variable {Res:Nat->(Nat->Prop)->Value->World->Prop}{Next:(Nat->Prop)->Goroutine->World->Prop}{F:World->Prop}
 {b₀:Frame} {a₀:Act} {ops₀:Array Oper} {i₀:Nat} {rest₀:List Nat} {k₀:List Item} {cs:List Frame}
theorem addM(H:WgLib P L)(ho:¬o Wg)(hC:C≠Wg)(A0:∀w w',RMo L.tWg Wg C n o w w'->F w->F w')
 (hT:∀w,F w->WgLive L.tWg Wg w->∃r,GoT P true (RMo L.tWg Wg C n) (DMo Wg Sb Giv) (MGo P L.tWg Wg C n Sb Res j Next) r o (G (b₀.at (a₀.put ((ops₀[i₀]?).bind (·.dst)) (.tuple #[])) (.inRegion ops₀ rest₀::k₀)) cs) w)
 (w:World)(hF:F w/\WgLive L.tWg Wg w):
 ∃r,GoT P true (RMo L.tWg Wg C n) (DMo Wg Sb Giv) (ZdU P L.tWg Wg C n Sb Res Giv j Next) r o
  (G ((base L.add).at ⟨#[.pointer (some ⟨Wg,0,none⟩),.int .i64 1,undef,undef,undef,undef,undef,undef,undef,undef,undef,undef,undef,undef,undef,undef,undef,undef,undef,undef,undef,undef,undef,undef,undef,undef,undef,undef,undef,undef,undef,undef,undef,undef,undef,undef,undef,undef,undef,undef,undef,undef,undef,undef,undef,undef,undef,undef,undef,undef,undef,undef,undef,undef,undef,undef,undef,undef,undef,undef,undef,undef,undef,undef,undef,undef,undef,undef,undef,undef,undef,undef,undef,undef,undef,undef,undef,undef,undef,undef,undef,undef,undef,undef,undef,undef,undef,undef,undef,undef,undef,undef,undef,undef,undef,undef,undef,undef,undef,undef,undef,undef,undef,undef,undef,undef,undef,undef,undef,undef,undef,undef,undef,undef,undef,undef,undef],[]⟩ [.code (body_add L)]) (b₀.at a₀ (.inRegion ops₀ (i₀::rest₀)::k₀)::cs)) w:=by
 lib_facts
 simp only[body_add,addFn,VX];refine Z13 (m:=12) ?_
 u_c XH (Z1 A0) hF
 u_cond true (Z1 A0) hF
 iterate 2 u_c XH (Z1 A0) hF
 u_reg (Z1 A0) hF
 iterate 2 u_op (Z1 A0) hF
 u_c XC (Z1 A0) hF
 u_cond false (Z1 A0) hF
 u_c UN (Z1 A0) hF
 u_c XH (Z1 A0) hF
 u_reg (Z1 A0) hF
 refine UH (λw₁ h₁=> ?_);replace hF:=Z1 A0 hF h₁;clear h₁;refine⟨rfl,_,stepG_mark0 .disable (by simp) rfl rfl (by k_ne) rfl H.f_disable (x_disable_n L) (x_disable_b L) (x_disable_x L) (x_disable_f L),Z13 (m:=40) ?_⟩
 walk_nrm
 u_c XC (Z1 A0) hF
 u_reg (Z1 A0) hF
 u_defer (Z1 A0) hF
 u_c XC (Z1 A0) hF
 u_c XH (Z1 A0) hF
 u_reg (Z1 A0) hF
 u_op (Z1 A0) hF
 u_c XC (Z1 A0) hF
 iterate 2 u_c XH (Z1 A0) hF
 u_reg (Z1 A0) hF
 u_bub (Z1 A0) hF
 u_c XC (Z1 A0) hF
 u_cond false (Z1 A0) hF
 u_c UN (Z1 A0) hF
 u_c XH (Z1 A0) hF
 u_reg (Z1 A0) hF
 iterate 6 u_op (Z1 A0) hF
 u_call H.f_uAdd (nm_uAdd L) uAddFn (Z1 A0) hF
 u_c XH (Z1 A0) hF
 u_reg (Z1 A0) hF
 u_op (Z1 A0) hF
 u_c XC (Z1 A0) hF
 u_c XH (Z1 A0) hF
 u_reg (Z1 A0) hF
 iterate 4 u_op (Z1 A0) hF
 refine UH (λw₁ h₁=> ?_);replace hF:=Z1 A0 hF h₁;clear h₁;refine⟨rfl,λv hv hw=> ?_⟩;rcases TO v with rfl|hvp
 ·replace hw:WgAt L.tWg Wg w₁ 0 0:=by simpa using hw
  have z:(((0:Nat):Int)+1)*KK=KK:=by simp
  rw[z];have e0:IntKind.u64.wrap (0+4294967296)=KK:=by decide
  refine⟨_,(stepG_add_atomic rfl rfl (by k_ne) rfl H.f_addU64 (x_addU64_n L) (x_addU64_b L) (x_addU64_x L) .u64 (x_addU64_f L) rfl rfl hw.cellSt (hw.thaw 0)).trans (by rw[e0];rfl),Z0X (m:=110) ?_⟩;replace hF:=Z1 A0 hF (Z4P ho hC (stA Wg) rfl (.int .u64 KK) ⟨_,_,hw.setSt KK⟩);clear hw;simp only[KK] at hF⊢
  walk_nrm
  u_op (Z1 A0) hF
  u_c XC (Z1 A0) hF
  u_c SB (Z1 A0) hF
  u_leave1 H.f_uAdd (Z1 A0) hF
  u_op (Z1 A0) hF
  u_c XC (Z1 A0) hF
  iterate 2 u_c XH (Z1 A0) hF
  u_reg (Z1 A0) hF
  iterate 4 u_op (Z1 A0) hF
  iterate 2 u_skip (Z1 A0) hF
  u_op (Z1 A0) hF
  u_c XC (Z1 A0) hF
  u_cond false (Z1 A0) hF
  u_c UN (Z1 A0) hF
  u_c XH (Z1 A0) hF
  u_reg (Z1 A0) hF
  iterate 4 u_op (Z1 A0) hF
  u_c XC (Z1 A0) hF
  u_c XH (Z1 A0) hF
  u_reg (Z1 A0) hF
  iterate 4 u_op (Z1 A0) hF
  u_c XC (Z1 A0) hF
  iterate 2 u_c XH (Z1 A0) hF
  u_reg (Z1 A0) hF
  iterate 9 u_op (Z1 A0) hF
  u_op (Z1 A0) hF
  u_c XC (Z1 A0) hF
  u_cond true (Z1 A0) hF
  u_reg (Z1 A0) hF
  iterate 3 u_op (Z1 A0) hF
  u_conv H.underlying_tPU32 H.room_tU32 (WgLive.cell1 hF.2).choose_spec (Z1 A0) hF
  refine UH (λw₁ h₁=> ?_);replace hF:=Z1 A0 hF h₁;clear h₁;refine Z5J rfl λw₂ h₂=> ?_
  replace hF:=Z1 A0 hF h₂;clear h₂;refine⟨_,⟨Wg,1,none⟩,_,stepG_markAt .read (by simp) rfl rfl (by k_ne) rfl H.f_raceRead (x_raceRead_n L) (x_raceRead_b L) (x_raceRead_x L) (x_raceRead_f L) (ad:=⟨Wg,1,none⟩) (by simp[Act.eval]),.inl rfl,rfl,hF.2,Z13 (m:=90) ?_⟩
  walk_nrm
  u_c XC (Z1 A0) hF
  iterate 2 u_c XH (Z1 A0) hF
  u_reg (Z1 A0) hF
  iterate 2 u_op (Z1 A0) hF
  u_c XC (Z1 A0) hF
  u_cond false (Z1 A0) hF
  u_c UN (Z1 A0) hF
  iterate 2 u_c XH (Z1 A0) hF
  u_reg (Z1 A0) hF
  iterate 3 u_op (Z1 A0) hF
  iterate 2 u_skip (Z1 A0) hF
  iterate 2 u_op (Z1 A0) hF
  iterate 4 u_skip (Z1 A0) hF
  u_op (Z1 A0) hF
  u_c XC (Z1 A0) hF
  u_cond false (Z1 A0) hF
  u_c UN (Z1 A0) hF
  iterate 2 u_c XH (Z1 A0) hF
  u_reg (Z1 A0) hF
  iterate 3 u_op (Z1 A0) hF
  iterate 2 u_skip (Z1 A0) hF
  u_op (Z1 A0) hF
  u_c XC (Z1 A0) hF
  u_cond true (Z1 A0) hF
  u_c SB (Z1 A0) hF
  refine UH (λw₁ h₁=> ?_);replace hF:=Z1 A0 hF h₁;clear h₁;refine⟨rfl,_,stepG_unwind_entry (v:= .tuple #[]) (evs:= #[mk .enable]) rfl H.f_enable (x_enable_n L) (x_enable_b L) (x_enable_x L) (x_enable_f L) (by simp[Extern.Race.none_]) (by simp[mk]) (by simp[mk]),Z0X (m:=1) ?_⟩
  u_leave0 H.f_add (Z1 A0) hF
  exact UH (λw₁ h₁=>hT _ (Z1 A0 hF h₁).1 (Z1 A0 hF h₁).2)
 ·obtain⟨V,hV⟩:∃V:Int,V=(v:Int)+1:=⟨_,rfl⟩;obtain⟨S,hS⟩:∃S:Int,S=V*KK:=⟨_,rfl⟩;have eS:IntKind.u64.wrap ((v:Int)*KK+4294967296)=S:=by rw[IntKind.wrap_u64,hS,hV];simp only[KK];omega
  rw[<-hV,<-hS];have a1:S / 4294967296=V:=by rw[hS];simp only[KK];omega
  have b1:bits .and .u64 S 2147483648=0:=by rw[hS,hV];have:=Go.ConcN.st_flag (v+1) 0 (by omega) (by omega);simpa[KK] using this
  have b2:bits .and .u64 S 2147483647=0:=by rw[hS,hV];have:=Go.ConcN.st_waiters (v+1) 0 (by omega) (by omega);simpa[KK] using this
  have c1:IntKind.i32.wrap V=V:=by rw[IntKind.wrap_i32];omega
  have Re:1<V:=by omega
  have Rf:V<2147483648:=by omega
  have q1:(V==1)=false:=by simp;omega
  have q2:decide (V=1)=false:=XV (by omega);have q3:decide (V<0)=false:=XV (by omega);have q4:decide (0<V)=true:=XX (by omega);have q5:(V==0)=false:=by simp;omega
  have q6:decide (V=0)=false:=XV (by omega);refine⟨_,(stepG_add_atomic rfl rfl (by k_ne) rfl H.f_addU64 (x_addU64_n L) (x_addU64_b L) (x_addU64_x L) .u64 (x_addU64_f L) rfl rfl hw.cellSt (hw.thaw 0)).trans (by rw[eS];rfl),Z13 (m:=110) ?_⟩;replace hF:=Z1 A0 hF (Z4P ho hC (stA Wg) rfl (.int .u64 S) ⟨_,_,hw.setSt S⟩);clear hw hS hV eS
  walk_nrm
  u_op (Z1 A0) hF
  u_c XC (Z1 A0) hF
  u_c SB (Z1 A0) hF
  u_leave1 H.f_uAdd (Z1 A0) hF
  u_op (Z1 A0) hF
  u_c XC (Z1 A0) hF
  iterate 2 u_c XH (Z1 A0) hF
  u_reg (Z1 A0) hF
  iterate 4 u_op (Z1 A0) hF
  iterate 2 u_skip (Z1 A0) hF
  u_op (Z1 A0) hF
  u_c XC (Z1 A0) hF
  u_cnd false (Z1 A0) hF
  u_c UN (Z1 A0) hF
  u_c XH (Z1 A0) hF
  u_reg (Z1 A0) hF
  iterate 4 u_op (Z1 A0) hF
  u_c XC (Z1 A0) hF
  u_c XH (Z1 A0) hF
  u_reg (Z1 A0) hF
  iterate 4 u_op (Z1 A0) hF
  u_c XC (Z1 A0) hF
  iterate 2 u_c XH (Z1 A0) hF
  u_reg (Z1 A0) hF
  iterate 9 u_op (Z1 A0) hF
  u_op (Z1 A0) hF
  u_c XC (Z1 A0) hF
  u_cnd false (Z1 A0) hF
  u_c UN (Z1 A0) hF
  iterate 2 u_c XH (Z1 A0) hF
  u_reg (Z1 A0) hF
  iterate 2 u_op (Z1 A0) hF
  u_c XC (Z1 A0) hF
  u_cnd false (Z1 A0) hF
  u_c UN (Z1 A0) hF
  iterate 2 u_c XH (Z1 A0) hF
  u_reg (Z1 A0) hF
  iterate 3 u_op (Z1 A0) hF
  iterate 2 u_skip (Z1 A0) hF
  iterate 2 u_op (Z1 A0) hF
  iterate 4 u_skip (Z1 A0) hF
  u_op (Z1 A0) hF
  u_c XC (Z1 A0) hF
  u_cnd false (Z1 A0) hF
  u_c UN (Z1 A0) hF
  iterate 2 u_c XH (Z1 A0) hF
  u_reg (Z1 A0) hF
  iterate 3 u_op (Z1 A0) hF
  iterate 2 u_skip (Z1 A0) hF
  u_op (Z1 A0) hF
  u_c XC (Z1 A0) hF
  u_cnd true (Z1 A0) hF
  u_c SB (Z1 A0) hF
  refine UH (λw₁ h₁=> ?_);replace hF:=Z1 A0 hF h₁;clear h₁;refine⟨rfl,_,stepG_unwind_entry (v:= .tuple #[]) (evs:= #[mk .enable]) rfl H.f_enable (x_enable_n L) (x_enable_b L) (x_enable_x L) (x_enable_f L) (by simp[Extern.Race.none_]) (by simp[mk]) (by simp[mk]),Z0X (m:=1) ?_⟩
  u_leave0 H.f_add (Z1 A0) hF
  exact UH (λw₁ h₁=>hT _ (Z1 A0 hF h₁).1 (Z1 A0 hF h₁).2)
end
def Zbm(L:WgLink)(F:(Nat->Prop)->World->Prop)(Wg:Nat)(c:Frame)(cs:List Frame)(o:Nat->Prop)(g:Goroutine)(w:World):Prop:=
 ∃T:Array Value,g=G ((base L.wait).at ⟨T,[]⟩ [.code (L7 L),.inLoop (L7 L),.inBlock 0]) (c::cs)/\T.size=84/\T[0]? =some (.pointer (some ⟨Wg,0,none⟩))/\F o w/\WgLive L.tWg Wg w
section
variable {End:(Nat->Prop)->Goroutine->World->Prop}{F:(Nat->Prop)->World->Prop}
 {b₀:Frame} {a₀:Act} {ops₀:Array Oper} {i₀:Nat} {rest₀:List Nat} {k₀:List Item} {cs:List Frame}
theorem Z8i(H:WgLib P L)(Giv o:Nat->Prop)(O4:∀o w w',RMo L.tWg Wg C n o w w'->F o w->F o w')(w:World)(hF:F o w/\WgLive L.tWg Wg w):
 ∃r,GoT P true (RMo L.tWg Wg C n) (DMo Wg Sb Giv) (MKd P L.tWg Wg C n Sb (Zbm L F Wg (b₀.at a₀ (.inRegion ops₀ (i₀::rest₀)::k₀)) cs) Giv) r o
  (G ((base L.wait).at ⟨#[.pointer (some ⟨Wg,0,none⟩),undef,undef,undef,undef,undef,undef,undef,undef,undef,undef,undef,undef,undef,undef,undef,undef,undef,undef,undef,undef,undef,undef,undef,undef,undef,undef,undef,undef,undef,undef,undef,undef,undef,undef,undef,undef,undef,undef,undef,undef,undef,undef,undef,undef,undef,undef,undef,undef,undef,undef,undef,undef,undef,undef,undef,undef,undef,undef,undef,undef,undef,undef,undef,undef,undef,undef,undef,undef,undef,undef,undef,undef,undef,undef,undef,undef,undef,undef,undef,undef,undef,undef,undef],[]⟩ [.code (body_wait L)]) (b₀.at a₀ (.inRegion ops₀ (i₀::rest₀)::k₀)::cs)) w:=by
 lib_facts
 have A0:=O4 o;simp only[body_wait,waitFn,VX];refine Z13 (m:=3) ?_
 u_c XH (Z1 A0) hF
 u_cond true (Z1 A0) hF
 u_reg (Z1 A0) hF
 refine UH (λw₁ h₁=> ?_);replace hF:=Z1 A0 hF h₁;clear h₁;refine⟨rfl,_,stepG_mark0 .disable (by simp) rfl rfl (by k_ne) rfl H.f_disable (x_disable_n L) (x_disable_b L) (x_disable_x L) (x_disable_f L),Z13 (m:=3) ?_⟩
 walk_nrm
 u_c XC (Z1 A0) hF
 u_c stepG_block (Z1 A0) hF
 u_c stepG_loop (Z1 A0) hF
 exact UH (λw₂ h₂=>⟨_,rfl,by simp,by simp,Z1 A0 hF h₂⟩)
theorem Z8j(H:WgLib P L)(hC:C≠Wg)(O4:∀o w w',RMo L.tWg Wg C n o w w'->F o w->F o w')(hFo:∀o w,F o w->¬o Wg)
 (hT:∀Giv o w,F o w->WgLive L.tWg Wg w->∃r,GoT P true (RMo L.tWg Wg C n) (DMo Wg Sb Giv) End r o (G (b₀.at (a₀.put ((ops₀[i₀]?).bind (·.dst)) (.tuple #[])) (.inRegion ops₀ rest₀::k₀)) cs) w)
 (Giv o:Nat->Prop)(g:Goroutine)(w:World)(h:Zbm L F Wg (b₀.at a₀ (.inRegion ops₀ (i₀::rest₀)::k₀)) cs o g w):
 ∃r,GoT P true (RMo L.tWg Wg C n) (DMo Wg Sb Giv) (MW1 P L.tWg Wg C n Sb End (Zbm L F Wg (b₀.at a₀ (.inRegion ops₀ (i₀::rest₀)::k₀)) cs) Giv) r o g w:=by
 lib_facts
 obtain⟨T,rfl,X6,t0,hF⟩:=h;have A0:=O4 o;have ho:=hFo o w hF.1;obtain⟨v0,v1,v2,v3,v4,v5,v6,v7,v8,v9,v10,v11,v12,v13,v14,v15,v16,v17,v18,v19,v20,v21,v22,v23,v24,v25,v26,v27,v28,v29,v30,v31,v32,v33,v34,v35,v36,v37,v38,v39,v40,v41,v42,v43,v44,v45,v46,v47,v48,v49,v50,v51,v52,v53,v54,v55,v56,v57,v58,v59,v60,v61,v62,v63,v64,v65,v66,v67,v68,v69,v70,v71,v72,v73,v74,v75,v76,v77,v78,v79,v80,v81,v82,v83,rfl⟩:=array84 T X6;simp only[YC,YA,XJ] at t0;subst t0;simp only[L7,body_wait,waitFn,VX];refine Z13 (m:=30) ?_
 u_c stepG_block (Z1 A0) hF
 u_c XH (Z1 A0) hF
 u_reg (Z1 A0) hF
 iterate 3 u_op (Z1 A0) hF
 u_call H.f_uLoad (nm_uLoad L) uLoadFn (Z1 A0) hF
 u_c XH (Z1 A0) hF
 u_reg (Z1 A0) hF
 u_op (Z1 A0) hF
 u_c XC (Z1 A0) hF
 u_c XH (Z1 A0) hF
 u_reg (Z1 A0) hF
 iterate 3 u_op (Z1 A0) hF
 refine UH (λw₁ h₁=> ?_);replace hF:=Z1 A0 hF h₁;clear h₁;refine⟨rfl,λv hv hw=> ?_⟩;rcases TO v with rfl|hvp
 ·replace hw:WgAt L.tWg Wg w₁ 0 0:=by simpa using hw
  refine⟨_,stepG_load_atomic (v:=0) rfl rfl (by k_ne) rfl H.f_loadU64 (x_loadU64_n L) (x_loadU64_b L) (x_loadU64_x L) .u64 (x_loadU64_f L) rfl hw.cellSt,λ_=>Z13 (m:=50) ?_,λh=>absurd rfl h⟩;clear hw
  walk_nrm
  u_op (Z1 A0) hF
  u_c XC (Z1 A0) hF
  u_c SB (Z1 A0) hF
  u_leave1 H.f_uLoad (Z1 A0) hF
  u_op (Z1 A0) hF
  u_c XC (Z1 A0) hF
  u_c XH (Z1 A0) hF
  u_reg (Z1 A0) hF
  iterate 4 u_op (Z1 A0) hF
  u_c XC (Z1 A0) hF
  u_c XH (Z1 A0) hF
  u_reg (Z1 A0) hF
  iterate 4 u_op (Z1 A0) hF
  u_c XC (Z1 A0) hF
  iterate 2 u_c XH (Z1 A0) hF
  u_reg (Z1 A0) hF
  iterate 2 u_op (Z1 A0) hF
  u_c XC (Z1 A0) hF
  u_cond true (Z1 A0) hF
  u_c XH (Z1 A0) hF
  u_cond true (Z1 A0) hF
  u_c XH (Z1 A0) hF
  u_reg (Z1 A0) hF
  refine UH (λw₁ h₁=> ?_);replace hF:=Z1 A0 hF h₁;clear h₁;refine⟨rfl,_,stepG_mark0 .enable (by simp) rfl rfl (by k_ne) rfl H.f_enable (x_enable_n L) (x_enable_b L) (x_enable_x L) (x_enable_f L),Z13 (m:=12) ?_⟩
  walk_nrm
  u_c XC (Z1 A0) hF
  u_reg (Z1 A0) hF
  u_op (Z1 A0) hF
  u_conv H.underlying_tWgP H.room_tWg (WgLive.cell0 hF.2).choose_spec (Z1 A0) hF
  refine UH (λw₁ h₁=> ?_);replace hF:=Z1 A0 hF h₁;clear h₁;refine⟨rfl,_,stepG_markAt .acquire (by simp) rfl rfl (by k_ne) rfl H.f_acquire (x_acquire_n L) (x_acquire_b L) (x_acquire_x L) (x_acquire_f L) (by simp[Act.eval,stA]),Z0X (m:=30) ?_⟩
  walk_nrm
  u_c XC (Z1 A0) hF
  iterate 2 u_c XH (Z1 A0) hF
  u_reg (Z1 A0) hF
  iterate 8 u_op (Z1 A0) hF
  iterate 2 u_skip (Z1 A0) hF
  u_op (Z1 A0) hF
  u_c XC (Z1 A0) hF
  u_cond false (Z1 A0) hF
  u_c UN (Z1 A0) hF
  u_c SB (Z1 A0) hF
  u_leave0 H.f_wait (Z1 A0) hF
  exact UH (λw₁ h₁=>hT _ _ _ (Z1 A0 hF h₁).1 (Z1 A0 hF h₁).2)
 ·obtain⟨S,hS⟩:∃S:Int,(v:Int)*KK=S:=⟨_,rfl⟩;have a1:S / 4294967296=(v:Int):=by rw[<-hS];simp only[KK];omega
  have b1:bits .and .u64 S 2147483648=0:=by rw[<-hS];have:=Go.ConcN.st_flag v 0 (by omega) (by omega);simpa[KK] using this
  have b2:bits .and .u64 S 2147483647=0:=by rw[<-hS];have:=Go.ConcN.st_waiters v 0 (by omega) (by omega);simpa[KK] using this
  have c1:IntKind.i32.wrap (v:Int)=(v:Int):=by rw[IntKind.wrap_i32];omega
  have w1:IntKind.u64.wrap (S+1)=S+1:=by rw[IntKind.wrap_u64,<-hS];simp only[KK];omega
  have q3:decide ((v:Int)<0)=false:=XV (by omega);have q4:decide (0<(v:Int))=true:=XX (by omega);have q5:((v:Int)==0)=false:=by simp;omega
  have q6:decide ((v:Int)=0)=false:=XV (by omega);rw[hS] at hw;refine⟨_,stepG_load_atomic (v:=S) rfl rfl (by k_ne) rfl H.f_loadU64 (x_loadU64_n L) (x_loadU64_b L) (x_loadU64_x L) .u64 (x_loadU64_f L) rfl hw.cellSt,λh0=>absurd h0 (by omega),λ_=>Z13 (m:=60) ?_⟩;clear hw
  walk_nrm
  u_op (Z1 A0) hF
  u_c XC (Z1 A0) hF
  u_c SB (Z1 A0) hF
  u_leave1 H.f_uLoad (Z1 A0) hF
  u_op (Z1 A0) hF
  u_c XC (Z1 A0) hF
  u_c XH (Z1 A0) hF
  u_reg (Z1 A0) hF
  iterate 4 u_op (Z1 A0) hF
  u_c XC (Z1 A0) hF
  u_c XH (Z1 A0) hF
  u_reg (Z1 A0) hF
  iterate 4 u_op (Z1 A0) hF
  u_c XC (Z1 A0) hF
  iterate 2 u_c XH (Z1 A0) hF
  u_reg (Z1 A0) hF
  iterate 2 u_op (Z1 A0) hF
  u_c XC (Z1 A0) hF
  u_cnd false (Z1 A0) hF
  u_c UN (Z1 A0) hF
  u_c XH (Z1 A0) hF
  u_reg (Z1 A0) hF
  iterate 6 u_op (Z1 A0) hF
  u_call H.f_uCas (nm_uCas L) uCasFn (Z1 A0) hF
  u_c XH (Z1 A0) hF
  u_reg (Z1 A0) hF
  u_op (Z1 A0) hF
  u_c XC (Z1 A0) hF
  u_c XH (Z1 A0) hF
  u_reg (Z1 A0) hF
  iterate 5 u_op (Z1 A0) hF
  refine UH (λw₁ h₁=> ?_);replace hF:=Z1 A0 hF h₁;clear h₁;refine⟨rfl,λv' hv' hw=>⟨λe=> ?_,λe=> ?_⟩⟩
  ·subst e;rw[hS] at hw⊢;refine⟨_,(stepG_cas_hit (v:=S) (n:=S+1) rfl rfl (by k_ne) rfl H.f_casU64 (x_casU64_n L) (x_casU64_b L) (x_casU64_x L) .u64 (x_casU64_f L) rfl rfl rfl hw.cellSt (hw.thaw 0)).trans (by rfl),Z0X (m:=70) ?_⟩;replace hF:=Z1 A0 hF (Z4P ho hC (stA Wg) rfl (.int .u64 (S+1)) ⟨_,_,hw.setSt (S+1)⟩);clear hw
   walk_nrm
   u_op (Z1 A0) hF
   u_c XC (Z1 A0) hF
   u_c SB (Z1 A0) hF
   u_leave1 H.f_uCas (Z1 A0) hF
   u_c XC (Z1 A0) hF
   u_cond true (Z1 A0) hF
   iterate 2 u_c XH (Z1 A0) hF
   u_reg (Z1 A0) hF
   iterate 4 u_op (Z1 A0) hF
   u_c XC (Z1 A0) hF
   u_cond true (Z1 A0) hF
   u_reg (Z1 A0) hF
   iterate 3 u_op (Z1 A0) hF
   u_conv H.underlying_tPU32 H.room_tU32 (WgLive.cell1 hF.2).choose_spec (Z1 A0) hF
   refine UH (λw₁ h₁=> ?_);replace hF:=Z1 A0 hF h₁;clear h₁;refine Z5J rfl λw₂ h₂=> ?_
   replace hF:=Z1 A0 hF h₂;clear h₂;refine⟨_,⟨Wg,1,none⟩,_,stepG_markAt .write (by simp) rfl rfl (by k_ne) rfl H.f_raceWrite (x_raceWrite_n L) (x_raceWrite_b L) (x_raceWrite_x L) (x_raceWrite_f L) (ad:=⟨Wg,1,none⟩) (by simp[Act.eval]),.inr rfl,rfl,hF.2,Z13 (m:=90) ?_⟩
   walk_nrm
   u_c XC (Z1 A0) hF
   u_c XH (Z1 A0) hF
   u_reg (Z1 A0) hF
   u_op (Z1 A0) hF
   u_c XC (Z1 A0) hF
   iterate 2 u_c XH (Z1 A0) hF
   u_reg (Z1 A0) hF
   iterate 4 u_op (Z1 A0) hF
   u_skip (Z1 A0) hF
   u_op (Z1 A0) hF
   u_c XC (Z1 A0) hF
   u_cond false (Z1 A0) hF
   u_c UN (Z1 A0) hF
   u_c XH (Z1 A0) hF
   u_reg (Z1 A0) hF
   iterate 4 u_op (Z1 A0) hF
   refine UH (λw₁ h₁=> ?_);replace hF:=Z1 A0 hF h₁;clear h₁;refine⟨rfl,rfl,fun⟨st,hw⟩=>stepG_semacquire_wait rfl rfl rfl H.f_semacquire (x_semacquire_n L) (x_semacquire_b L) (x_semacquire_x L) (x_semacquire_f L) (by simp[Act.eval,smA]) hw.cellSm,λhf=> ?_⟩;refine⟨_,(stepG_semacquire (n:=1) rfl rfl (by k_ne) rfl H.f_semacquire (x_semacquire_n L) (x_semacquire_b L) (x_semacquire_x L) (x_semacquire_f L) (by simp[Act.eval,smA]) hf.cellSm (by k_ne) (hf.thaw 1)).trans (by rfl),Z13 (m:=30) ?_⟩;replace hF:=Z1 A0 hF (Z4P ho hC (smA Wg) rfl (.int .u32 0) ⟨_,_,hf.setSm 0⟩);clear hf
   walk_nrm
   u_c XC (Z1 A0) hF
   u_c XH (Z1 A0) hF
   u_reg (Z1 A0) hF
   iterate 3 u_op (Z1 A0) hF
   u_call H.f_uLoad (nm_uLoad L) uLoadFn (Z1 A0) hF
   u_c XH (Z1 A0) hF
   u_reg (Z1 A0) hF
   u_op (Z1 A0) hF
   u_c XC (Z1 A0) hF
   u_c XH (Z1 A0) hF
   u_reg (Z1 A0) hF
   iterate 3 u_op (Z1 A0) hF
   refine UH (λw₁ h₁=> ?_);replace hF:=Z1 A0 hF h₁;clear h₁;refine⟨rfl,λhw=>⟨_,stepG_load_atomic (v:=0) rfl rfl (by k_ne) rfl H.f_loadU64 (x_loadU64_n L) (x_loadU64_b L) (x_loadU64_x L) .u64 (x_loadU64_f L) rfl hw.cellSt,Z13 (m:=30) ?_⟩⟩;clear hw
   walk_nrm
   u_op (Z1 A0) hF
   u_c XC (Z1 A0) hF
   u_c SB (Z1 A0) hF
   u_leave1 H.f_uLoad (Z1 A0) hF
   iterate 2 u_op (Z1 A0) hF
   u_c XC (Z1 A0) hF
   u_c XH (Z1 A0) hF
   u_cond true (Z1 A0) hF
   u_c XH (Z1 A0) hF
   u_reg (Z1 A0) hF
   refine UH (λw₁ h₁=> ?_);replace hF:=Z1 A0 hF h₁;clear h₁;refine⟨rfl,_,stepG_mark0 .enable (by simp) rfl rfl (by k_ne) rfl H.f_enable (x_enable_n L) (x_enable_b L) (x_enable_x L) (x_enable_f L),Z13 (m:=12) ?_⟩
   walk_nrm
   u_c XC (Z1 A0) hF
   u_reg (Z1 A0) hF
   u_op (Z1 A0) hF
   u_conv H.underlying_tWgP H.room_tWg (WgLive.cell0 hF.2).choose_spec (Z1 A0) hF
   refine UH (λw₁ h₁=> ?_);replace hF:=Z1 A0 hF h₁;clear h₁;refine⟨rfl,_,stepG_markAt .acquire (by simp) rfl rfl (by k_ne) rfl H.f_acquire (x_acquire_n L) (x_acquire_b L) (x_acquire_x L) (x_acquire_f L) (by simp[Act.eval,stA]),Z0X (m:=30) ?_⟩
   walk_nrm
   u_c XC (Z1 A0) hF
   iterate 2 u_c XH (Z1 A0) hF
   u_reg (Z1 A0) hF
   u_op (Z1 A0) hF
   u_c XC (Z1 A0) hF
   u_cond false (Z1 A0) hF
   u_c UN (Z1 A0) hF
   u_c SB (Z1 A0) hF
   u_leave0 H.f_wait (Z1 A0) hF
   exact UH (λw₁ h₁=>hT _ _ _ (Z1 A0 hF h₁).1 (Z1 A0 hF h₁).2)
  ·refine⟨_,stepG_cas_miss (v:=(v':Int)*KK) (old:=S) (n:=S+1) rfl rfl (by k_ne) rfl H.f_casU64 (x_casU64_n L) (x_casU64_b L) (x_casU64_x L) .u64 (x_casU64_f L) rfl rfl rfl hw.cellSt (hw.thaw 0) (by rw[<-hS];simp only[KK];omega),Z13 (m:=20) ?_⟩;clear hw
   walk_nrm
   u_op (Z1 A0) hF
   u_c XC (Z1 A0) hF
   u_c SB (Z1 A0) hF
   u_leave1 H.f_uCas (Z1 A0) hF
   u_c XC (Z1 A0) hF
   u_cond false (Z1 A0) hF
   u_c UN (Z1 A0) hF
   u_c stepG_inBlock (Z1 A0) hF
   u_c stepG_inLoop (Z1 A0) hF
   exact UH (λw₂ h₂=>⟨_,rfl,by simp,by simp,Z1 A0 hF h₂⟩)
end
end Go.Nk
