import Derived.Test.YthahddndgbpooaaGreatDoorNkA
import Derived.Test.YthahddndgbpooaaGreatDoorNk06
set_option linter.all false
open Go Go.Conc
variable {c cs:Array Value}{b:Nat}{o:Obj}{e:TypeId}{v:Value}{w:World}
namespace Go.Nk
variable [Ban]
def Z5E(Gs:Nat->Bool):Value->Bool
 | .bool _| .int _ _| .string _| .nilFunc| .nilIface| .pointer none| .slice none _ _| .map none| .chan none=>true
 | .pointer (some a)=>Gs a.block
 | .slice (some a) _ _=>Gs a.block
 | .func (.func f) a c=> !Ban.ban f&&a.size==0&&c.size==0
 |_=>false
section
variable {Gs:Nat->Bool}
theorem Z5F(h:Z5E Gs v=true):VRel id (λb=>Gs b=true) v v:=by
 unfold Z5E at h;split at h
 ·exact .bool _
 ·exact .int _ _
 ·exact .string _
 ·exact .nilFunc
 ·exact .nilIface
 ·exact .nilPtr
 ·exact .nilSlice _ _
 ·exact .nilMap
 ·exact .nilChan
 ·exact .ptr (ρ:=id) h
 ·exact .slice (ρ:=id) _ _ h
 ·simp only[YG,XR,XW] at h;exact .func h.1.1 rfl (λi hi=>by omega) rfl (λi hi=>by omega)
 ·cases h
structure Masks(Gs:Nat->Bool)(u v:Value):Prop where
 rel:VRel id (λb=>Gs b=true) u v
 self:VRel id (λb=>Gs b=true) u u
 seen:Z5E Gs v=true->u=v
theorem Z8c(h:Z5E Gs v=true):Masks Gs v v:=⟨Z5F h,Z5F h,λ_=>rfl⟩
theorem Z8d(hh:Ban.holes=true){v:Value}(hw:wild v=true)(hs:Z5E Gs v=false):Masks Gs undef v:=⟨.hole hh hw,.undef,λh=>by rw[hs] at h;cases h⟩
theorem Z8e(hh:Ban.holes=true){n:String}{a c:Array Value}:Masks Gs bomb (.func (.method n) a c):=⟨.meth hh,.meth hh,λh=>by cases h⟩
theorem Z5G(h:∀v∈cs,∃u,Masks Gs u v):∃us:Array Value,AR id (λb=>Gs b=true) us cs/\AR id (λb=>Gs b=true) us us:=by
 have key:∀l:List Value,(∀v∈l,∃u,Masks Gs u v)->∃us:List Value,us.length=l.length/\∀(i:Nat)(u v:Value),us[i]? =some u->l[i]? =some v->Masks Gs u v:=by
  intro l
  induction l with
  |nil=>exact λ_=>⟨[],rfl,λi u v h=>by simp at h⟩
  |cons a l ih=>
   intro h;obtain⟨u,hu⟩:=h a YY;obtain⟨us,h1,h2⟩:=ih λv hv=>h v (YW _ hv)
   refine⟨u::us,by simp[h1],λi x y hx hy=> ?_⟩;cases i with
   |zero=>simp only[YA,XJ] at hx hy;subst hx hy;exact hu
   |succ i=>simp only[YB] at hx hy;exact h2 i x y hx hy
 obtain⟨us,h1,h2⟩:=key cs.toList λv hv=>h v (SP.1 hv)
 refine⟨us.toArray,AR.mk (by simpa using h1) λi x y hx hy=>(h2 i x y (by simpa using hx) (by simpa using hy)).rel,AR.mk rfl λi x y hx hy=> ?_⟩;rw[hx] at hy;cases hy;have hi:i<us.length:=by simpa using(YF.1 hx).1
 exact(h2 i x _ (by simpa using hx) (YH (by omega))).self
theorem Zd4(hh:Ban.holes=true):∀(n:Nat)(v:Value),SizeOf.sizeOf v<=n->∃u,Masks Gs u v:=by
 intro n
 induction n with
 |zero=>intro v h;cases v<;>simp at h
 |succ n ih=>
  intro v h;cases hs:Z5E Gs v with
  |true=>exact⟨v,Z8c hs⟩
  |false=>
   have hole:wild v=true->∃u,Masks Gs u v:=λhw=>⟨_,Z8d hh hw hs⟩
   cases v with
   |bool _|int _ _|string _|nilFunc|nilIface=>cases hs
   |pointer a=>cases a with|none=>cases hs|some a=>exact hole rfl
   |slice a _ _=>cases a with|none=>cases hs|some a=>exact hole rfl
   |map a=>cases a with|none=>cases hs|some a=>exact hole rfl
   |chan a=>cases a with|none=>cases hs|some a=>exact hole rfl
   |func f a c=>cases f with
    |method m=>exact⟨_,Z8e hh⟩
    |_=>exact hole rfl
   |float _ _|complex _ _ _|iface _ _=>exact hole rfl
   |agg cs=>
    obtain⟨us,h1,h2⟩:=Z5G (Gs:=Gs) (cs:=cs) λv hv=>ih v (by have:=Array.sizeOf_lt_of_mem hv;simp only[Value.agg.sizeOf_spec] at h;omega)
    exact⟨.agg us,.agg h1.1 h1.2,.agg h2.1 h2.2,λh=>by cases h⟩
   |tuple cs=>
    obtain⟨us,h1,h2⟩:=Z5G (Gs:=Gs) (cs:=cs) λv hv=>ih v (by have:=Array.sizeOf_lt_of_mem hv;simp only[Value.tuple.sizeOf_spec] at h;omega)
    exact⟨.tuple us,.tuple h1.1 h1.2,.tuple h2.1 h2.2,λh=>by cases h⟩
open Classical in
noncomputable def Z4N(Gs:Nat->Bool)(v:Value):Value:=if h:∃u,Masks Gs u v then Classical.choose h else undef
theorem Z4O(hh:Ban.holes=true)(v:Value):Masks Gs (Z4N Gs v) v:=by
 have h:∃u,Masks Gs u v:=Zd4 hh _ v (XB _);unfold Z4N;rw[dif_pos h];exact RM h
theorem Z8f(hh:Ban.holes=true){v:Value}(h:Z5E Gs v=true):Z4N Gs v=v:=(Z4O hh v).seen h
def Z1s(w:World)(b:Nat):Bool:=match w.heap[b]? with|some (.cells ..)=>true|_=>false
noncomputable def Zd5(Gs:Nat->Bool):Obj->Obj
 | .cells c e _=> .cells (c.map (Z4N Gs)) e (0,c.size)
 |_=> .coro none
noncomputable def Zx(w:World):World:={w with heap:=w.heap.map (Zd5 (Z1s w))}
theorem Z9A:Z1s w b=true↔∃c e f,w.heap[b]? =some (.cells c e f):=by
 unfold Z1s;constructor
 ·intro h;split at h
  ·exact⟨_,_,_,by assumption⟩
  ·cases h
 ·rintro⟨c,e,f,h⟩;rw[h]
theorem Z5H{f:Nat×Nat}(h:w.heap[b]? =some (.cells c e f)):(Zx w).heap[b]? =some (.cells (c.map (Z4N (Z1s w))) e (0,c.size)):=by
 simp only[Zx,Array.getElem?_map,h,XI,Zd5]
theorem Z3a(h:(Zx w).heap[b]? =some o)(hl:liveO o=true):∃c e f,w.heap[b]? =some (.cells c e f)/\o= .cells (c.map (Z4N (Z1s w))) e (0,c.size):=by
 simp only[Zx,Array.getElem?_map,XT] at h;obtain⟨o',h1,h2⟩:=h;cases o'<;>first|exact⟨_,_,_,h1,h2.symm⟩|(simp only[Zd5] at h2;subst h2;cases hl)
theorem Z8g:Z1s w b=true↔Live (Zx w) b:=by
 rw[Z9A];constructor
 ·rintro⟨c,e,f,h⟩;exact⟨_,Z5H h,rfl⟩
 ·rintro⟨o,h1,h2⟩;obtain⟨c,e,f,h,_⟩:=Z3a h1 h2;exact⟨c,e,f,h⟩
theorem Z1l(w:World):(Zx w).heap.size=w.heap.size:=by simp[Zx]
theorem Z9B(hh:Ban.holes=true)(w:World)(c:Array Value):AR id (Live (Zx w)) (c.map (Z4N (Z1s w))) c/\AR id (Live (Zx w)) (c.map (Z4N (Z1s w))) (c.map (Z4N (Z1s w))):=by
 have hL:∀b,Z1s w b=true->Live (Zx w) b:=λb=>Z8g.1
 constructor
 ·refine AR.mk (by simp) λi x y hx hy=> ?_
  simp only[Array.getElem?_map,hy,XI,XJ] at hx;subst hx;exact(Z4O hh y).rel.up hL
 ·refine AR.mk rfl λi x y hx hy=> ?_
  rw[hx] at hy;cases hy;simp only[Array.getElem?_map,XT] at hx;obtain⟨v,_,rfl⟩:=hx;exact(Z4O hh v).self.up hL
theorem Z8h(hh:Ban.holes=true){w:World}{G:Nat}(hG:G<=w.heap.size):Start (Z1s w) G (Zx w) w:=by
 refine⟨⟨λb o hb hl=> ?_,λ_ _ _ _ e=>e,λb hb=>(Z8g.1 hb).lt,λ_ _=>UO,by rw[Z1l];exact hG,hG⟩,{obj:=λb o hb hl=> ?_,inj:=λ_ _ _ _ e=>e,fz:=λ_ h=>h.elim,low:=λ_ _=>UO,gV:=by rw[Z1l];exact hG,gw:=by rw[Z1l];exact hG,tape:=λ_=>rfl,next:=λ_=>rfl},λb l h=> ?_,λg=>Z8g⟩
 ·obtain⟨c,e,f,h1,rfl⟩:=Z3a hb hl;exact⟨_,h1,λh=>absurd (Z9A.2 ⟨c,e,f,h1⟩) h,λ_=>⟨.cells (Z9B hh w c).1 (λh=>by cases h),_,_,_,rfl,by simp⟩⟩
 ·obtain⟨c,e,f,h1,rfl⟩:=Z3a hb hl;exact⟨_,hb,λ_=> .cells (Z9B hh w c).2 (λ_=>rfl),λh=>h.elim⟩
 ·obtain⟨c,e,f,_,h2⟩:=Z3a h rfl;cases h2
theorem Z0d(hh:Ban.holes=true){w:World}{a:Addr}{v:Value}(h:w.cell? a=some v)(hs:Z5E (Z1s w) v=true):(Zx w).cell? a=some v:=by
 obtain⟨c,e,f,h1,h2,h3⟩:=Z3h h;unfold World.cell?;rw[Z5H h1];simp only[h2,Option.isSome_none,YR,XZ,Array.getElem?_map,h3,XI,Z8f hh hs]
end
end Go.Nk
