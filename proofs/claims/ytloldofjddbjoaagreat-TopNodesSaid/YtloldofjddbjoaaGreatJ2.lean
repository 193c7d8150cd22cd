/- Part 2. -/
import Derived.Test.YtloldofjddbjoaaGreatJ1
set_option linter.all false
namespace Go.Sep
open Go.RowKit
structure Nr where
 b:Option Nat
 φ:Option Obj->Prop
abbrev ci:=List Nr
def Nr.at (e:Nr) (w:d7):Prop:=e.φ (e.b.bind (w.heap[·]?))
def dom (H:ci):bm:=H.filterMap Nr.b
structure HP (H:ci) (w:d7):Prop where
 holds:∀e∈H,e.at w
 nodup:(dom H).Nodup
 lt:∀b∈dom H,b<w.heap.size
structure Keep (w0:d7) (D:bm) (w:d7):Prop where
 os:w.os=w0.os
 tape:w.tape=w0.tape
 output:w.output=w0.output
 size:w0.heap.size<=w.heap.size
 block:∀b,b<w0.heap.size->b∉D->w.heap[b]?=w0.heap[b]?
structure St (w0:d7) (D:bm) (H:ci) (w:d7):Prop where
 hp:HP H w
 dom:∀b∈dom H,b∈D\/w0.heap.size<=b
 keep:Keep w0 D w
def Keep.refl (w:d7) (D:bm):Keep w D w:=⟨rfl,rfl,rfl,qb _,λ_ _ _=>rfl⟩
def Keep.trans {a b c:d7} {D d:bm} (h:Keep a D b) (x:Keep b d c) (f:∀k,k∈d->k<a.heap.size->k∈D):Keep a D c :=
 ⟨x.os.trans h.os,x.tape.trans h.tape,x.output.trans h.output,qM h.size x.size,λk y z=>(x.block k (sg y h.size)<|λe=>z<|f k e y).trans<|h.block k y z⟩
def Keep.below {w0 w:d7} (h:Keep w0 [] w):Below w0.heap.size w0 w:=⟨h.os,h.tape,h.output,h.size,λk x=>h.block k x j⟩
def St.below {w0 w:d7} {H:ci} (h:St w0 [] H w):Below w0.heap.size w0 w:=h.keep.below
def St.init {H:ci} {w:d7} (h:HP H w):St w (Sep.dom H) H w:=⟨h,λb x=>.inl x,Keep.refl _ _⟩
def HP.nil (w:d7):HP [] w:=⟨λe h=>wU,sh,λb h=>wU⟩
def St.nil (w:d7):St w [] [] w:=St.init<|HP.nil w
def Nr.eG {e:Nr} {w w':d7} (h:∀b,e.b=some b->w'.heap[b]?=w.heap[b]?) (x:e.at w):e.at w':=by
 unfold Nr.at at *;cases hb:e.b with
 |none=>rw[hb] at x; exact x
 |some b=>rw[hb] at x; simpa [h b hb] using x
def St.drawn {w0:d7} {D:bm} {H:ci}:Re (St w0 D H):=λw m h =>
 ⟨⟨λe x=>Nr.eG (λ_ _=>rfl)<|h.hp.holds e x,h.hp.nodup,h.hp.lt⟩,h.dom,⟨h.keep.os,h.keep.tape,h.keep.output,h.keep.size,h.keep.block⟩⟩
def St.drew {w0:d7} {D:bm} {H:ci} {w:d7} (h:St w0 D H w):St w0 D H w.drew:=St.drawn w _ h
def St.at {w0:d7} {D:bm} {H:ci} {w:d7} {e:Nr} (h:St w0 D H w) (i:Nat) (hi:H[i]?=some e):e.at w:=h.hp.holds e<|ry hi
def St.sublist {w0:d7} {D:bm} {H y:ci} {w:d7} (s:y.Sublist H) (h:St w0 D H w):St w0 D y w :=
 ⟨⟨λe z=>h.hp.holds e<|s.subset z,h.hp.nodup.sublist<|s.filterMap _,λb x=>h.hp.lt b<|(s.filterMap _).subset x⟩,λb x=>h.dom b<|(s.filterMap _).subset x,h.keep⟩
def St.perm {w0:d7} {D:bm} {H y:ci} {w:d7} (s:H.Perm y) (h:St w0 D H w):St w0 D y w :=
 ⟨⟨λe z=>h.hp.holds e<|s.mem_iff.2 z,(s.filterMap _).nodup_iff.1 h.hp.nodup,λb x=>h.hp.lt b<|(s.filterMap _).mem_iff.2 x⟩,λb x=>h.dom b<|(s.filterMap _).mem_iff.2 x,h.keep⟩
def St.drop {w0:d7} {D:bm} {e:Nr} {H:ci} {w:d7} (h:St w0 D (e::H) w):St w0 D H w:=h.sublist<|si _ _
def St.cut {w0:d7} {D:bm} {H T:ci} {w:d7} (h:St w0 D (H++T) w):St w0 D H w:=h.sublist<|List.sublist_append_left _ _
def St.oS {w0:d7} {D:bm} {H:ci} {w:d7} (h:St w0 D H w):St w0 D [] w:=h.sublist<|sj _
def St.head {w0:d7} {D:bm} {e e':Nr} {H:ci} {w:d7} (h:St w0 D (e::H) w) (z:e'.b=e.b) (hi:e.at w->e'.at w):St w0 D (e'::H) w:=by
 have hd:Sep.dom (e'::H)=Sep.dom (e::H):=ZGy;refine⟨⟨λx y=>?_,hd▸h.hp.nodup,hd▸h.hp.lt⟩,hd▸h.dom,h.keep⟩;rcases pj.1 y with rfl|y
 .exact hi<|h.hp.holds e<|rW ..
 exact h.hp.holds x<|sr _ y
def St.free {w0:d7} {D:bm} {e e':Nr} {H:ci} {w:d7} (h:St w0 D (e::H) w) (a:e'.b=Option.none) (hi:e'.at w):St w0 D (e'::H) w:=by
 have y:=h.drop;have hd:Sep.dom (e'::H)=Sep.dom H:=by simp only[Sep.dom,List.filterMap_cons,a]
 refine⟨⟨λx z=>?_,hd▸y.hp.nodup,hd▸y.hp.lt⟩,hd▸y.dom,y.keep⟩;rcases pj.1 z with rfl|z
 .exact hi
 exact y.hp.holds x z
def St.add {w0:d7} {D:bm} {e':Nr} {H:ci} {w:d7} (h:St w0 D H w) (z:e'.b=Option.none) (hi:e'.at w):St w0 D (e'::H) w:=by
 have hd:Sep.dom (e'::H)=Sep.dom H:=ZGy;refine⟨⟨λx y=>?_,hd▸h.hp.nodup,hd▸h.hp.lt⟩,hd▸h.dom,h.keep⟩;rcases pj.1 y with rfl|y
 .exact hi
 exact h.hp.holds x y
def St.alloc {w0:d7} {D:bm} {H:ci} {w:d7} {o:Obj} {φ:Option Obj->Prop} (h:St w0 D H w) (hφ:φ<|some o):St w0 D (⟨some w.heap.size,φ⟩::H) (w.alloc o):=by
 have z:∀b,b<w.heap.size->(w.alloc o).heap[b]?=w.heap[b]?:=λb y=>Below.heap_alloc w o b y
 have a:(w.alloc o).heap[w.heap.size]?=some o:=by show (w.heap.push o)[_]?=_; simp
 have d:(w.alloc o).heap.size=w.heap.size+1:=Array.size_push ..;refine⟨⟨λe c=>?_,?_,?_⟩,?_,⟨h.keep.os,h.keep.tape,h.keep.output,qM h.keep.size (by rw[d]; omega),λb y f=>(z b<|sg y h.keep.size).trans<|h.keep.block b y f⟩⟩
 .rcases pj.1 c with rfl|c
  .show φ ((w.alloc o).heap[w.heap.size]?); rw[a]; exact hφ
  exact Nr.eG (λb y=>z b<|h.hp.lt b<|List.mem_filterMap.2 ⟨e,c,y⟩)<|h.hp.holds e c
 .show (w.heap.size::Sep.dom H).Nodup
  exact ss.2 ⟨λhm=>absurd (h.hp.lt _ hm)<|Nat.lt_irrefl _,h.hp.nodup⟩
 .intro b y;have x:b=w.heap.size\/b∈Sep.dom H:=pj.1 y;show b<(w.heap.push o).size
  rw[Array.size_push];rcases x with rfl|x
  .omega
  have:=h.hp.lt b x; omega
 intro b y;have x:b=w.heap.size\/b∈Sep.dom H:=pj.1 y;rcases x with rfl|x
 .exact .inr h.keep.size
 exact h.dom b x
def St.write {w0:d7} {D:bm} {H:ci} {w w':d7} {b:Nat} {φ φ':Option Obj->Prop} (h:St w0 D (⟨some b,φ⟩::H) w) (z:w'.os=w.os) (g:w'.tape=w.tape) (j:w'.output=w.output) (d:w'.heap.size=w.heap.size)
 (f:∀k,k≠b->w'.heap[k]?=w.heap[k]?) (hφ:φ' w'.heap[b]?):St w0 D (⟨some b,φ'⟩::H) w':=by
 have a:b∉Sep.dom H/\(Sep.dom H).Nodup:=ss.1 h.hp.nodup;refine⟨⟨λe i=>?_,h.hp.nodup,λk x=>d▸h.hp.lt k x⟩,h.dom,⟨z.trans h.keep.os,g.trans h.keep.tape,j.trans h.keep.output,d▸h.keep.size,λk x c=>?_⟩⟩
 .rcases pj.1 i with rfl|y
  .exact hφ
  refine Nr.eG (λk x=>f k ?_) (h.hp.holds e<|sr _ y);rintro rfl;exact a.1<|List.mem_filterMap.2 ⟨e,y,x⟩
 refine (f k ?_).trans (h.keep.block k x c);rintro rfl;rcases h.dom k (rW ..) with hd|hd
 .exact c hd
 omega
def Df (P:d8) (f:FuncId) (vs:bi) (E:aU) (H:ci) {β:Type} (v:β->d0) (p:β->Prop) (H':β->ci):Prop :=
 ∀w,E w->HP H w->Calls P f vs.toArray w (λe w'=>∃b,e=.returned (v b)/\p b/\St w (dom H) (H' b) w')
def Df.frame {P:d8} {f:FuncId} {vs:bi} {E:aU} {H:ci} {β:Type} {v:β->d0} {p:β->Prop} {l:β->ci} (s:Df P f vs E H v p l) {w0:d7} {D:bm} {F:ci} {w:d7}
 (h:St w0 D (H++F) w) (q:E w):Calls P f vs.toArray w (λe m=>∃b,e=.returned (v b)/\p b/\St w0 D (l b++F) m):=by
 refine (s w q h.cut.hp).mono ?_;rintro e m ⟨b,r,o,a⟩;refine⟨b,r,o,?_⟩;have y:∀A B:ci,Sep.dom (A++B)=Sep.dom A++Sep.dom B:=λA B=>List.filterMap_append
 have d:=h.hp.nodup;rw[y,su] at d;obtain⟨C,n,t⟩:=d;have i:∀k∈Sep.dom F,k<w.heap.size/\k∉Sep.dom H:=λk z=>⟨h.hp.lt k (by rw[y]; exact sw _ z),λg=>t _ g _ z rfl⟩
 refine⟨⟨λx c=>?_,?_,λk z=>?_⟩,λk z=>?_,h.keep.trans a.keep<|λk z u=>?_⟩
 .rcases rB.1 c with c|c
  .exact a.hp.holds x c
  refine Nr.eG (λk z=>?_) (h.hp.holds x<|sw _ c);have:=i k<|List.mem_filterMap.2 ⟨x,c,z⟩;exact a.keep.block k this.1 this.2
 .rw[y,su];refine⟨a.hp.nodup,n,λk z j hj e=>?_⟩;subst e;have:=i k hj;rcases a.dom k z with hd|hd
  .exact this.2 hd
  omega
 .rw[y] at z;rcases rB.1 z with z|z
  .exact a.hp.lt k z
  exact sg (i k z).1 a.keep.size
 .rw[y] at z;rcases rB.1 z with z|z
  .rcases a.dom k z with hd|hd
   .exact h.dom k<|by rw[y]; exact qh _ hd
   exact .inr<|qM h.keep.size hd
  exact h.dom k<|by rw[y]; exact sw _ z
 rcases h.dom k (by rw[y]; exact qh _ z) with hd|hd
 .exact hd
 omega
def Ac (b:Nat) (t:d4) (cs:bi):Nr:=⟨some b,λo=>o=some (.cells cs.toArray t (0,0))⟩
def EE {b:Nat} {t:d4} {cs:bi} {w:d7} (h:(Ac b t cs).at w) {off:Nat} {v:d0} (x:cs[off]?=some v):w.cell? ⟨b,off,none⟩=some v:=by
 have y:w.heap[b]?=some (.cells cs.toArray t (0,0)):=h;unfold World.cell?;simp only[y];simpa using x
def Ig {b:Nat} {t:d4} {cs:bi} {w:d7} (h:(Ac b t cs).at w) (off:Nat):w.frozen? ⟨b,off,none⟩=false:=by
 have x:w.heap[b]?=some (.cells cs.toArray t (0,0)):=h;unfold World.frozen?;simp only[x];simp
structure Enc (α:Type) where
 sz:Nat
 f:α->bi
 len:∀a,(f a).length=sz
 one:∀a u,u∈f a->u.oneCell'=true
 pos:0<sz
def AI (k:d6):Enc Int:=⟨1,λz=>[.int k z],λ_=>rfl,λa u h=>by simp at h; subst h; rfl,by decide⟩
abbrev dt:=AI .u8
abbrev ds:=AI .i64
def D5:Enc Bool:=⟨1,λz=>[.bool z],λ_=>rfl,λa u h=>by simp at h; subst h; rfl,by decide⟩
section flat
variable {α:Type} (E:Enc α)
def Enc.flat (l:List α):bi:=l.flatMap E.f
def Enc.flat_nil:E.flat []=[]:=rfl
def Enc.pg (a:α) (l:List α):E.flat (a::l)=E.f a++E.flat l:=rfl
def Enc.pe (l m:List α):E.flat (l++m)=E.flat l++E.flat m:=List.flatMap_append
def Enc.oU:∀l:List α,(E.flat l).length=l.length*E.sz
 |[]=>jD
 |a::l=>by rw[E.pg,pK,E.len,Enc.oU l,pz,pW]; omega
def Enc.eu (l:List α) (u:d0) (h:u∈E.flat l):u.oneCell'=true:=by
 obtain⟨a,_,x⟩:=List.mem_flatMap.1 h;exact E.one a u x
def Enc.flat_get:∀(l:List α) (j k:Nat) (a:α) (u:d0),l[j]?=some a->(E.f a)[k]?=some u->(E.flat l)[j*E.sz+k]?=some u
 |[],j,k,a,u,h,hk=>yF
 |c::l,0,k,a,u,h,hk=>by
  simp at h; subst h
  rw[E.pg,Nat.zero_mul,qK,pL (by have:=(qp.1 hk).1; exact this)]
  exact hk
 |c::l,j+1,k,a,u,h,hk=>by
  have x:l[j]?=some a:=sv
  rw[E.pg,pO (by rw[E.len,pW]; omega),E.len]
  rw[show (j+1)*E.sz+k-E.sz=j*E.sz+k from by rw[pW]; omega]
  exact Enc.flat_get l j k a u x hk
def Enc.XI:∀(l:List α) (j:Nat),(E.flat l).take (j*E.sz)=E.flat (l.take j)
 |[],j=>jD
 |c::l,0=>jD
 |c::l,j+1=>by
  rw[E.pg,pD,E.pg,pW,qz,rp,<-E.len c,sx,E.len,Enc.XI l j]
def Enc.eY:∀(l:List α) (j:Nat),(E.flat l).drop (j*E.sz)=E.flat (l.drop j)
 |[],j=>jD
 |c::l,0=>A3
 |c::l,j+1=>by
  rw[E.pg,ra,pW,qz,rp,<-E.len c,sA,E.len,Enc.eY l j]
def set_mid {β:Type} (p q:List β) (x:β) (k:Nat) (h:k<q.length):(p++q).set (p.length+k) x=p++q.set k x:=by
 rw[rJ _ _ A1];congr 2;omega
def Enc.XcO:∀(l:List α) (j k:Nat) (a:α) (c:α) (u:d0),l[j]?=some a->k<E.sz->(E.f a).set k u=E.f c->(E.flat l).set (j*E.sz+k) u=E.flat (l.set j c)
 |[],j,k,a,c,u,h,hk,hs=>yF
 |d::l,0,k,a,c,u,h,hk,hs=>by
  simp at h; subst h
  rw[E.pg,rL,E.pg,Nat.zero_mul,qK,sB _ _ (by rw[E.len]; exact hk),hs]
 |d::l,j+1,k,a,c,u,h,hk,hs=>by
  have x:l[j]?=some a:=sv
  rw[E.pg,sC,E.pg,rJ _ _ (by rw[E.len,pW]; omega),E.len,
   show (j+1)*E.sz+k-E.sz=j*E.sz+k from by rw[pW]; omega,Enc.XcO l j k a c u x hk hs]
end flat
def blk:d0->Nat
 |.slice (some a) _ _=>a.block
 |_=>0
def Gl:d0->Nat
 |.slice (some a) _ _=>a.off
 |_=>0
def zh:d0->Nat
 |.slice _ n _=>n
 |_=>0
def Vr:d0->Nat
 |.slice _ _ c=>c
 |_=>0
def Ec {α:Type} (w:d7) (v:d0) (E:Enc α) (l:List α):Prop :=
 ∃a c,v=.slice a l.length c/\l.length<=c/\(l=[]\/∃b off,a=some ⟨b,off,none⟩/\∀k u,(E.flat l)[k]?=some u->w.cell? ⟨b,off+k,none⟩=some u)
def Ec.congr {α:Type} {w x:d7} {v:d0} {E:Enc α} {l:List α} (h:Ec w v E l) (y:l≠[]->x.heap[blk v]?=w.heap[blk v]?):Ec x v E l:=by
 obtain⟨a,c,rfl,d,h⟩:=h;refine⟨a,c,rfl,d,?_⟩;rcases h with rfl|⟨b,off,rfl,h⟩
 .exact .inl rfl
 by_cases hl:l=[]
 .exact .inl hl
 exact .inr ⟨b,off,rfl,λk u z=>by
  rw[<-h k u z]
  exact World.cell?_of_block (w:=w)<|y hl⟩
def Ec.lt {α:Type} {w:d7} {v:d0} {E:Enc α} {l:List α} (h:Ec w v E l) (d:l≠[]):blk v<w.heap.size:=by
 obtain⟨a,c,rfl,f,h⟩:=h;rcases h with h|⟨b,off,rfl,h⟩
 .exact absurd h d
 cases l with
 |nil=>exact absurd rfl d
 |cons x l =>
  have e:=E.pos;have:0<(E.flat<|x::l).length:=by rw[E.oU]; simp; exact e
  have z:=h 0 _<|pE this;unfold World.cell? at z;show b<_
  rcases pG b w.heap.size with y|y
  .exact y
  simp[qN y] at z
def Ec.keep {α:Type} {w0 w:d7} {D:bm} {H:ci} {v:d0} {E:Enc α} {l:List α} (h:Ec w0 v E l) (s:St w0 D H w) (x:blk v∉D):Ec w v E l :=
 h.congr<|λy=>s.keep.block _ (h.lt y) x
def Ec.zh {α:Type} {w:d7} {v:d0} {E:Enc α} {l:List α} (h:Ec w v E l):Sep.zh v=l.length:=by
 obtain⟨a,c,rfl,x,h⟩:=h; rfl
def Ec.cap {α:Type} {w:d7} {v:d0} {E:Enc α} {l:List α} (h:Ec w v E l):l.length<=Sep.Vr v:=by
 obtain⟨a,c,rfl,x,h⟩:=h; exact x
def Dv:d0->Option Nat
 |.slice (some a) _ c=>if c=0 then none else some a.block
 |_=>none
def Row {α:Type} (v:d0) (t:d4) (E:Enc α) (l:List α) (o:Option Obj):Prop :=
 (∃a,v=.slice a 0 0/\l=[]) \/
 ∃b cap pre post,v=.slice (some ⟨b,pre.length,none⟩) l.length cap/\0<cap/\o=some (.cells (pre++E.flat l++post).toArray t (0,0))/\l.length<=cap/\post.length=(cap-l.length)*E.sz
def AG {α:Type} (v:d0) (t:d4) (E:Enc α) (l:List α):Nr:=⟨Dv v,Row v t E l⟩
def BA {α:Type} {v:d0} {t:d4} {E:Enc α} {l:List α} {w:d7} (h:(AG v t E l).at w):Ec w v E l:=by
 rcases h with⟨a,rfl,rfl⟩|⟨b,cap,pre,x,rfl,g,d,c,e⟩
 .exact⟨a,0,rfl,qb _,.inl rfl⟩
 refine⟨_,cap,rfl,c,.inr ⟨b,pre.length,rfl,λk u z=>?_⟩⟩
 have y:w.heap[b]?=some (.cells (pre++E.flat l++x).toArray t (0,0)):=by
  have:Dv (.slice (some ⟨b,pre.length,none⟩) l.length cap)=some b:=by simp[Dv]; omega
  simpa [AG,this] using d
 unfold World.cell?;simp only[y];have f:=(qp.1 z).1;simp only[Option.isSome_none,r5,r9];rw[rj,qQ,pO A1,pL A1];rw[show pre.length+k-pre.length=k from by omega];exact z
def St.rd {w0:d7} {D:bm} {H:ci} {w:d7} {α:Type} {v:d0} {t:d4} {E:Enc α} {l:List α} (h:St w0 D H w) (i:Nat) (hi:H[i]?=some (AG v t E l)):Ec w v E l:=BA<|h.at i hi
def Eh {α:Type} {b:Nat} {t:d4} {cs:bi} {w:d7} (h:(Ac b t cs).at w) (E:Enc α) (l:List α) (off cap:Nat) (pre x:bi) (z:cs=pre++E.flat l++x) (y:off=pre.length) (c:l.length<=cap):Ec w (.slice (some ⟨b,off,none⟩) l.length cap) E l:=by
 subst z; subst y;refine⟨_,cap,rfl,c,.inr ⟨b,pre.length,rfl,λk u a=>EE h ?_⟩⟩;have d:=(qp.1 a).1;rw[qQ,pO A1,pL A1,show pre.length+k-pre.length=k from by omega];exact a
def AR {α:Type} {b:Nat} {t:d4} {cs:bi} {w:d7} {n:Nat} (h:(Ac b t cs).at w) (E:Enc α) (l:List α) (x:cs=E.flat l) (y:l.length=n):Ec w (.slice (some ⟨b,0,none⟩) n n) E l:=by
 subst y;exact Eh h E l 0 l.length [] [] Zm rfl (qb _)
section
variable {P:d8} {n:Nat} {L:Env} {X:aU} {o:Oper} {Q:aB} {K:aO}
def Nl.val {β:Type} (v:β->d0) (p:β->Prop) (X':β->aU) {d:Nat} (hd:o.dst=some d) (f:d.blt n)
 (c:∀a w,Know n L a->X w->∃b z,(execOp a.eval o).run P w=.ok (.value<|v b) z/\p b/\X' b z) (h:∀b,p b->Pre n ((d,v b)::L) (X' b) K):Nl P n L X o Q K:=λa w k x=>by
 obtain⟨b,z,y,e,g⟩:=c a w k x
 show o.upon P a K Q ((execOp a.eval o).run P w)
 rw[y]
 show K (a.put o.dst<|v b) z
 rw[hd]
 exact h b e _ _ (k.put _ f) g
def Nl.ZN {β:Type} (v:β->d0) (p:β->Prop) (X':β->aU) (hd:o.dst=none)
 (c:∀a w,Know n L a->X w->∃b z,(execOp a.eval o).run P w=.ok (.value<|v b) z/\p b/\X' b z) (h:∀b,p b->Pre n L (X' b) K):Nl P n L X o Q K:=λa w k x=>by
 obtain⟨b,z,y,e,d⟩:=c a w k x
 show o.upon P a K Q ((execOp a.eval o).run P w)
 rw[y]
 show K (a.put o.dst<|v b) z
 rw[hd]
 exact h b e _ _ k d
def Nl.skip (X':aU) (hd:o.dst=none) (b:∀a w,Know n L a->X w->∃z,(execOp a.eval o).run P w=.ok .skip z/\X' z) (h:Pre n L X' K):Nl P n L X o Q K:=λa w k x=>by
 obtain⟨z,y,c⟩:=b a w k x
 show o.upon P a K Q ((execOp a.eval o).run P w)
 rw[y]
 show K (a.put o.dst undef) z
 rw[hd]
 exact h _ _ k c
def evs (L:Env):bx->Option (bi)
 |[]=>some []
 |x::xs=>match ev L x,evs L xs with
  |some v,some vs=>some (v::vs)
  |_,_=>none
def Know.eX {a:Act} (k:Know n L a):∀{xs:bx} {vs:bi},evs L xs=some vs->xs.map a.eval=vs
 |[],vs,h=>jq
 |x::xs,vs,h=>by
  simp only[evs] at h
  cases h1:ev L x with
  |none=>rw[h1] at h; cases h
  |some v =>
   cases h2:evs L xs with
   |none=>rw[h1,h2] at h; cases h
   |some us=>rw[h1,h2] at h; cases h; rw[qG,k.eval h1,k.eX h2]
def WQ (L:Env):List (Nat×d5)->Option (List<|Nat×d0)
 |[]=>some []
 |(i,x)::xs=>match ev L x,WQ L xs with
  |some v,some vs=>some ((i,v)::vs)
  |_,_=>none
def Know.WQ {a:Act} (k:Know n L a):∀{xs:List<|Nat×d5} {vs:List<|Nat×d0},Sep.WQ L xs=some vs->xs.map (λ(i,x)=>(i,a.eval x))=vs
 |[],vs,h=>jq
 |(i,x)::xs,vs,h=>by
  simp only[Sep.WQ] at h
  cases h1:ev L x with
  |none=>rw[h1] at h; cases h
  |some v =>
   cases h2:Sep.WQ L xs with
   |none=>rw[h1,h2] at h; cases h
   |some us=>rw[h1,h2] at h; cases h; rw[qG,k.WQ h2]; simp only[k.eval h1]
def DA {β:Type} {v:β->d0} {p:β->Prop} {X':β->aU} {f:FuncId} {xs:bx} {t:ca} {d:Nat} {vs:bi} (l:o.op=.call ⟨.value<|.func f,xs.toArray,t⟩) (hd:o.dst=some d) (s:d.blt n)
 (q:∀us w,(callFunc f us).run P w=.ok (.enter f us) w) (r:evs L xs=some vs)
 (m:∀w,X w->Calls P f vs.toArray w (λe c=>∃b,e=.returned (v b)/\p b/\X' b c)) (h:∀b,p b->Pre n ((d,v b)::L) (X' b) K):Nl P n L X o Q K:=λa w k x=>by
 have y:(xs.toArray.map a.eval)=vs.toArray:=by rw[qF,k.eX r]
 have z:(execOp a.eval o).run P w=.ok (.enter f vs.toArray) w:=by
  have i:∀us:cb,(callFunc f<|#[]++us++#[]).run P w=.ok (.enter f us) w:=λus=>by simpa using q us w
  simp only[execOp,l,resolve,Act.eval,Deferred.ofValue,qC,qD,qE,invoke,y,i]
 show o.upon P a K Q ((execOp a.eval o).run P w)
 rw[z];show Calls P f vs.toArray w _
 refine (m w x).mono ?_;rintro e c ⟨b,rfl,g,j⟩;show K (a.put o.dst<|v b) c
 rw[hd];exact h b g _ _ (k.put _ s) j
def Hr {β:Type} {v:β->d0} {p:β->Prop} {X':β->aU} {g:d5} {f:FuncId} {xs:bx} {u:ca} {d:Nat} {vs us:bi} (m:o.op=.call ⟨.value g,xs.toArray,u⟩) (hd:o.dst=some d) (t:d.blt n)
 (A:ev L g=some (.func (.func f) #[] us.toArray)) (r:∀us w,(callFunc f us).run P w=.ok (.enter f us) w) (s:evs L xs=some vs)
 (q:∀w,X w->Calls P f (vs++us).toArray w (λe c=>∃b,e=.returned (v b)/\p b/\X' b c)) (h:∀b,p b->Pre n ((d,v b)::L) (X' b) K):Nl P n L X o Q K:=λa w k x=>by
 have y:(xs.toArray.map a.eval)=vs.toArray:=by rw[qF,k.eX s]
 have z:(execOp a.eval o).run P w=.ok (.enter f (vs++us).toArray) w:=by
  have j:(callFunc f<|#[]++vs.toArray++us.toArray).run P w=.ok (.enter f (vs++us).toArray) w:=by simpa using r (vs++us).toArray w
  simp only[execOp,m,resolve,k.eval A,Deferred.ofValue,qC,qD,qE,invoke,y,j]
 show o.upon P a K Q ((execOp a.eval o).run P w)
 rw[z];show Calls P f (vs++us).toArray w _
 refine (q w x).mono ?_;rintro e c ⟨b,rfl,i,l⟩;show K (a.put o.dst<|v b) c
 rw[hd];exact h b i _ _ (k.put _ t) l
variable {w0:d7} {D:bm} {H:ci}
def EB (e:d4) (cs:cb) (w:d7):(newRow e cs).run P w=.ok ⟨w.heap.size,0,none⟩ (w.alloc<|.cells cs e):=by
 simp[newRow]
def Ax {t:d4} {z:d0} {d:Nat} (c:o.op=.alloc t) (hd:o.dst=some d) (y:d.blt n) (e:∀w,(zeroValue t).run P w=.ok z w)
 (h:∀b,Pre n ((d,.pointer<|some ⟨b,0,none⟩)::L) (St w0 D<|Ac b t z.cells.toList::H) K):Nl P n L (St w0 D H) o Q K :=
 Nl.val (β:=Nat) (λb=>.pointer<|some ⟨b,0,none⟩) (λ_=>True) (λb=>St w0 D<|Ac b t z.cells.toList::H) hd y (λa w k x =>
  ⟨w.heap.size,_,by simp only[execOp,c,Instr.alloc,qC,e,qE,newVar,EB,qD],trivial,x.alloc rfl⟩)<|λb _=>h b
def AT {t:d4} {y:d5} {v:d0} {d:Nat} (c:o.op=.box t y) (hd:o.dst=some d) (z:d.blt n) (e:ev L y=some v)
 (h:∀b,Pre n ((d,.pointer<|some ⟨b,0,none⟩)::L) (St w0 D<|Ac b t v.cells.toList::H) K):Nl P n L (St w0 D H) o Q K :=
 Nl.val (β:=Nat) (λb=>.pointer<|some ⟨b,0,none⟩) (λ_=>True) (λb=>St w0 D<|Ac b t v.cells.toList::H) hd z (λa w k x =>
  ⟨w.heap.size,_,by simp only[execOp,c,Instr.box,k.eval e,qC,qE,newVar,EB,qD],trivial,x.alloc rfl⟩)<|λb _=>h b
def PB {t e:d4} {m sz:Nat} {ps:List<|Nat×d5} {vs:List<|Nat×d0} {zs cs:cb} {d:Nat} (l:o.op=.buildSlice t m ps.toArray) (hd:o.dst=some d) (s:d.blt n) (p:P.underlying t=some (.slice e))
 (q:∀w,(sizeOf e).run P w=.ok sz w) (c:(m*sz).ble 16777216) (g:∀w,(if m*sz=0 then pure #[] else do pure (<-zeroValue e).cells:Sem<|cb).run P w=.ok zs w) (r:WQ L ps=some vs)
 (f:Instr.fill (λi=>some (i*sz,sz)) ((Array.range<|m*sz).map (zs[·%zs.size]!)) vs=some cs)
 (h:∀b,Pre n ((d,.slice (some ⟨b,0,none⟩) m m)::L) (St w0 D<|Ac b e cs.toList::H) K):Nl P n L (St w0 D H) o Q K :=
 Nl.val (β:=Nat) (λb=>.slice (some ⟨b,0,none⟩) m m) (λ_=>True) (λb=>St w0 D<|Ac b e cs.toList::H) hd s (λa w k x =>
  ⟨w.heap.size,w.alloc<|.cells cs e,by
   have z:¬(m*sz>2^24):=by have:=rO c; omega
   have j:(ps.toArray.map λ(i,x)=>(i,a.eval x))=vs.toArray:=by rw[qF,k.WQ r]
   have y:=g w
   have u:(Instr.buildSlice t m vs.toArray).run P w=.ok (.slice (some ⟨w.heap.size,0,none⟩) m m) (w.alloc<|.cells cs e):=by
    unfold Instr.buildSlice;simp only[qC,Be p,q,qE,pQ z];by_cases h0:m*sz=0
    .rw[pN h0] at y ⊢;simp only[qD,Result.ok.injEq,and_true] at y;subst y;simp only[qC,qD,qE];rw[f];simp only[qC,EB,qE,qD]
    rw[pQ h0] at y ⊢;simp only[qC,qD,qE] at y ⊢;cases hzz:(zeroValue e).run P w with
    |halt a w1=>rw[hzz] at y; cases y
    |ok zv w1 =>
     rw[hzz] at y;simp only[qE,Result.ok.injEq] at y ⊢;obtain⟨rfl,rfl⟩:=y;rw[f];simp only[qC,EB,qE,qD]
   simp only[execOp,l,j,qC,u,qE,qD],trivial,x.alloc A3⟩)<|λb _=>h b
def PC:Nat->bx->List (Nat×d5)
 |_,[]=>[]
 |i,x::xs=>(i,x)::PC (i+1) xs
def JT:Nat->bi->List (Nat×d0)
 |_,[]=>[]
 |i,x::xs=>(i,x)::JT (i+1) xs
def Lp:∀(xs:bx) (i:Nat) (vs:bi),evs L xs=some vs->WQ L (PC i xs)=some (JT i vs)
 |[],i,vs,h=>jq
 |x::xs,i,vs,h=>by
  simp only[evs] at h
  cases h1:ev L x with
  |none=>rw[h1] at h; cases h
  |some v =>
   cases h2:evs L xs with
   |none=>rw[h1,h2] at h; cases h
   |some us=>rw[h1,h2] at h; cases h; simp only[PC,WQ,JT,h1,Lp xs (i+1) us h2]
def cellsOf (vs:bi):bi:=vs.flatMap<|λv=>v.cells.toList
def Xa2 (off:Nat):∀(vs:bi) (k:Nat) (y:cb),off+k+vs.length<=y.size ->
 ((vs.zipIdx k).foldl (λcs (x:d0×Nat)=>cs.setIfInBounds (off+x.2) x.1) y).toList=y.toList.take (off+k)++vs++y.toList.drop (off+k+vs.length)
 |[],k,y,h=>j
 |v::vs,k,y,h=>by
  simp only[pz] at h
  rw[List.zipIdx_cons,List.foldl_cons,Xa2 off vs (k+1) _ uj]
  have z:off+k<y.toList.length:=by rw[rF]; omega
  rw[Array.toList_setIfInBounds,List.drop_set_of_lt A1,show off+(k+1)=off+k+1 from rfl,rK uj,sD,List.set_eq_of_length_le uj]
  simp only[List.getElem_set_self,qQ,pt,qU,pz]
  rw[show off+k+1+vs.length=off+k+(vs.length+1) from by omega]
def Xa3 (sz:Nat):∀(vs:bi) (i:Nat) (arr:cb),(vs.all<|λv=>v.cells.size == sz)=true->arr.size=(i+vs.length)*sz ->
 ∃cs,Instr.fill (λi=>some (i*sz,sz)) arr (JT i vs)=some cs/\cs.toList=arr.toList.take (i*sz)++cellsOf vs
 |[],i,arr,h,ha=>⟨arr,rfl,by simp[cellsOf]; rw[pZ<|by simp[ha]]⟩
 |v::vs,i,arr,h,ha=>by
  simp only[List.all_cons,qW,rS] at h
  simp only[pz] at ha
  have y:(i+(vs.length+1))*sz=i*sz+sz+vs.length*sz:=by rw[pW,pW,qz]; omega
  have z:v.cells.toList.length=sz:=by rw[rF,h.1]
  have b:=Xa2 (i*sz) v.cells.toList 0 arr jW
  have a:v.cells.zipIdx.foldl (λcs (x:d0×Nat)=>cs.setIfInBounds (i*sz+x.2) x.1) arr=(v.cells.toList.zipIdx 0).foldl (λcs (x:d0×Nat)=>cs.setIfInBounds (i*sz+x.2) x.1) arr:=by
   rw[<-Array.foldl_toList,Array.toList_zipIdx]
  obtain⟨cs,c,d⟩:=Xa3 sz vs (i+1) (v.cells.zipIdx.foldl (λcs (x:d0×Nat)=>cs.setIfInBounds (i*sz+x.2) x.1) arr) h.2<|by
   rw[a,<-rF,b]; simp only[pK,pI,pJ,rF,z]; rw[show i+1+vs.length=i+(vs.length+1) from by omega,y]; omega
  refine⟨cs,?_,?_⟩
  .simp only[JT,Instr.fill];rw[pQ<|by simp[h.1]; omega];exact c
  rw[d,a,b,z,sf]
  have e:(i+1)*sz=(arr.toList.take (i*sz)++v.cells.toList).length:=by
   rw[pK,pI,z,rF,pW,qz]; omega
  rw[e];simp only[sf];rw[sE];simp[cellsOf]
def As {t e:d4} {m sz:Nat} {vs:bi} {z:d0} {d:Nat} (xs:bx) (l:o.op=.buildSlice t m (PC 0 xs).toArray) (hd:o.dst=some d) (k:d.blt n) (j:evs L xs=some vs) (hm:vs.length=m) (f:P.underlying t=some (.slice e))
 (g:∀w,(sizeOf e).run P w=.ok sz w) (x:(m*sz).ble 16777216) (a:∀w,(zeroValue e).run P w=.ok z w) (i:(vs.all<|λv=>v.cells.size == sz)=true)
 (h:∀b,Pre n ((d,.slice (some ⟨b,0,none⟩) m m)::L) (St w0 D<|Ac b e (cellsOf vs)::H) K):Nl P n L (St w0 D H) o Q K:=by
 obtain⟨cs,c,y⟩:=Xa3 sz vs 0 ((Array.range<|m*sz).map ((if m*sz=0 then #[] else z.cells)[·%(if m*sz=0 then #[] else z.cells).size]!)) i<|by simp[hm]
 rw[Nat.zero_mul,List.take_zero,qU] at y;refine PB (sz:=sz) (zs:=if m*sz=0 then #[] else z.cells) l hd k f g x (λw=>?_) (Lp xs 0 vs j) c<|λb=>by rw[y]; exact h b
 split
 .rfl
 simp[a]
def CY {α:Type} (E:Enc α) (a0:α) (m:Nat) {t e:d4} {i:TypeInfo} {x y:d5} {z:d0} {d:Nat} {j k:d6} {p q:Int} (W:o.op=.makeSlice t x y) (hd:o.dst=some d) (hn:d.blt n) (X:P.underlying t=some (.slice e))
 (hi:P.info? e=some i) (Y:i.size=E.sz) (J:i.zero=some z) (r:z.cells.toList=E.f a0) (U:ev L x=some (.int j p)) (hy:ev L y=some (.int k q)) (T:p=(m:Int)) (V:q=(m:Int)) (hm:m*i.bytes<=281474976710656) (R:m<=9223372036854775807)
 (h:∀v,Pre n ((d,v)::L) (St w0 D<|AG v e E (List.replicate m a0)::H) K):Nl P n L (St w0 D H) o Q K :=
 Nl.val (β:=d0) (λv=>v) (λ_=>True) (λv=>St w0 D<|AG v e E (List.replicate m a0)::H) hd hn (λa w M x=>by
  subst T; subst V
  have l:∀m:Nat,((Array.range<|m*E.sz).map (z.cells[·%z.cells.size]!)).toList=E.flat (List.replicate m a0):=λm=>by
   have g:z.cells.size=E.sz:=by rw[<-rF,r,E.len]
   refine qA<|λc=>?_
   by_cases hc:c<m*E.sz
   .have b:c%E.sz<E.sz:=qf _ E.pos
    have u:c/E.sz<m:=(Nat.div_lt_iff_lt_mul E.pos).2 hc
    have Z:c=c/E.sz*E.sz+c%E.sz:=by rw[qe]; exact (Nat.div_add_mod c E.sz).symm
    have N:=E.flat_get (List.replicate m a0) (c/E.sz) (c%E.sz) a0 _ (by simp[u])<|pE<|by rw[E.len]; exact b
    rw[<-Z] at N
    rw[N]
    have C:z.cells[c%z.cells.size]! = (E.f a0)[c%E.sz]'(by rw[E.len]; exact b):=by
     rw[getElem!_pos z.cells (c%z.cells.size)<|by rw[g]; exact b];have:z.cells.toList[c%z.cells.size]'(by rw[rF,g]; exact b)=(E.f a0)[c%E.sz]'(by rw[E.len]; exact b):=by simp only[r,g]
     simpa using this
    rw[<-C];simp[hc]
   .rw[pH uj,pH<|by rw[E.oU]; simp; omega]
  have B:IntKind.i64.wrap (m:Int)=(m:Int):=Co A1
  have O:∀w,(if m*E.sz=0 then pure #[] else do pure (<-zeroValue e).cells:Sem<|cb).run P w=.ok (if m*E.sz=0 then #[] else z.cells) w:=λw=>by
   split<;>simp[zeroValue,typeInfo,hi,J]
  have s:(Instr.makeSlice t (.int j (m:Int))<|.int k (m:Int)).run P w=.ok (.slice (some ⟨w.heap.size,0,none⟩) m m) (w.alloc (.cells ((Array.range<|m*E.sz).map (z.cells[·%z.cells.size]!)) e)):=by
   have A:¬((m:Int)<0):=A1
   have C:¬((i.bytes:Int)*(m:Int)>2^48):=by
    have h4:i.bytes*m<=281474976710656:=by rw[qe]; exact hm
    have S:((i.bytes*m:Nat):Int)<=281474976710656:=A1;rw[sF] at S;omega
   have h3:¬((m:Int)>(m:Int)):=A1;have F:(zeroValue e).run P w=.ok z w:=by simp[zeroValue,typeInfo,hi,J]
   unfold Instr.makeSlice;simp only[qC,Be X,qE,asInt,asIntOf,qD,Sem.run_map,typeInfo,run_program,hi,B];simp only[rA,A,C,h3,decide_false,Bool.or_self,r5,r9,qC,run_askRoom,qE,sizeOf,typeInfo,run_program,hi,qD,Sem.run_map,Y,rD];by_cases h0:m*E.sz=0
   .have G:∀f:Nat->d0,(Array.range 0).map f=#[]:=λf=>by simp
    simp[h0,EB,G]
   simp[h0,F,EB]
  refine⟨.slice (some ⟨w.heap.size,0,none⟩) m m,w.alloc (.cells ((Array.range<|m*E.sz).map (z.cells[·%z.cells.size]!)) e),by simp only[execOp,W,M.eval U,M.eval hy,qC,s,qE,qD],trivial,?_⟩;by_cases h0:m=0
  .subst h0;exact (x.alloc (φ:=λ_=>True) trivial).free rfl (.inl ⟨_,rfl,rfl⟩)
  have hb:Dv (.slice (some ⟨w.heap.size,0,none⟩) m m)=some w.heap.size:=by simp[Dv,h0]
  have A:=x.alloc (φ:=Row (.slice (some ⟨w.heap.size,0,none⟩) m m) e E<|List.replicate m a0) (o:=.cells ((Array.range<|m*E.sz).map (z.cells[·%z.cells.size]!)) e)<|.inr ⟨w.heap.size,m,[],[],A3,A1,by
   rw[<-l m,qU,sG,Array.toArray_toList],A3,A3⟩
  rw[<-hb] at A
  exact A)<|λv _=>h v
def AS {t:d4} {ps:List<|Nat×d5} {h:List<|Nat×d0} (vs:bi) (d:o.op=.build t ps.toArray) (y:WQ L ps=some h) (z:∀w,(Instr.build t h.toArray).run P w=.ok (.agg vs.toArray) w):MV P n L X o (.agg vs.toArray) :=
 MV.mk (λa=>Instr.build t<|ps.toArray.map λ(i,x)=>(i,a.eval x)) ZD9 (λa w b _=>by
  have c:(ps.toArray.map λ(i,x)=>(i,a.eval x))=h.toArray:=by rw[qF,b.WQ y]
  rw[c]; exact z w)
def Xet {b off:Nat} {t:d4} {cs:bi} {w:d7} (h:w.heap[b]?=some (.cells cs.toArray t (0,0))) (v:d0):(w.setCell ⟨b,off,none⟩ v).heap[b]?=some (.cells (cs.set off v).toArray t (0,0)):=by
 simp only[World.setCell,Array.getElem?_modify,qX];rw[h];simp
def Jy {b off:Nat} {t:d4} {cs:bi} {w:d7} {v:d0} (h:St w0 D (Ac b t cs::H) w) (y:off<cs.length) (z:v.oneCell') :
 ∃w',(store ⟨b,off,none⟩ v).run P w=.ok () w'/\St w0 D (Ac b t (cs.set off v)::H) w':=by
 have x:(Ac b t cs).at w:=h.at 0 rfl;refine⟨w.setCell ⟨b,off,none⟩ v,?_,?_⟩
 .rw[run_store _ _ _ _ _ z,EE x<|pE y,Ig x];rfl
 exact h.write rfl rfl rfl (by simp[World.setCell]) (λk a=>Below.heap_setCell _ _ _ _ a) (Xet x v)
def AB {t T:d4} {x y:d5} {b off:Nat} {cs:bi} {v:d0} (m:o.op=.store t x y) (hd:o.dst=none) (f:∀w,(sizeOf t).run P w=.ok 1 w) (d:ev L x=some (.pointer<|some ⟨b,off,none⟩)) (p:ev L y=some v) (c:v.oneCell')
 (z:off<cs.length) (h:Pre n L (St w0 D<|Ac b T (cs.set off v)::H) K):Nl P n L (St w0 D<|Ac b T cs::H) o Q K :=
 Nl.skip _ hd (λa w k j=>by
  obtain⟨l,e,g⟩:=Jy (P:=P) j z c
  have i:v.cells=#[v]:=by cases v<;>first|rfl|(cases c; done)
  refine⟨l,?_,g⟩
  simp[execOp,m,k.eval d,k.eval p,Instr.storeAt,Instr.sureAddr,storeVar,f,i,storeCells,BT,e]) h
def splice (cs:bi) (off:Nat):bi->bi
 |[]=>cs
 |v::vs=>splice (cs.set off v) (off+1) vs
def Vf:∀(vs cs:bi) (off:Nat),off+vs.length<=cs.length->splice cs off vs=cs.take off++vs++cs.drop (off+vs.length)
 |[],cs,off,h=>by simp[splice]
 |v::vs,cs,off,h=>by
  simp only[pz] at h
  have x:off<cs.length:=A1
  rw[splice,Vf vs _ _ uj]
  rw[sD,List.drop_set_of_lt A1,sH,pE x,rJ _ _ uj]
  simp only[pI,Option.toList_some]
  rw[show off-min off cs.length=0 from by omega]
  simp only[rL,qQ,pt,qU,pz]
  rw[show off+1+vs.length=off+(vs.length+1) from by omega]
def Jz:∀(vs cs:bi) (off:Nat),(splice cs off vs).length=cs.length
 |[],cs,off=>rfl
 |v::vs,cs,off=>by rw[splice,Jz vs,sI]
def CH {b off:Nat} {t:d4}:∀(vs cs:bi) (i:Nat) {w:d7},St w0 D (Ac b t cs::H) w->off+i+vs.length<=cs.length->(∀v∈vs,v.oneCell'=true) ->
 ∃w',(storeCells ⟨b,off,none⟩ vs i).run P w=.ok () w'/\St w0 D (Ac b t (splice cs (off+i) vs)::H) w'
 |[],cs,i,w,h,hl,h1=>⟨w,rfl,h⟩
 |v::vs,cs,i,w,h,hl,h1=>by
  simp only[pz] at hl
  obtain⟨e,z,y⟩:=Jy (P:=P) h (off:=off+i) A1<|h1 v<|rW ..
  obtain⟨c,a,x⟩:=CH (b:=b) (off:=off) vs _ (i+1) y uj<|λu d=>h1 u<|sr _ d
  refine⟨c,?_,x⟩
  simp only[storeCells,BT,qC,z,qE,a]
def AF {t T:d4} {x y:d5} {b off sz:Nat} {cs vs:bi} (m:o.op=.store t x y) (hd:o.dst=none) (f:∀w,(sizeOf t).run P w=.ok sz w) (d:ev L x=some (.pointer<|some ⟨b,off,none⟩)) (p:ev L y=some (.agg vs.toArray)) (z:vs.length=sz) (i:∀v∈vs,v.oneCell'=true)
 (c:off+vs.length<=cs.length) (h:Pre n L (St w0 D<|Ac b T (splice cs off vs)::H) K):Nl P n L (St w0 D<|Ac b T cs::H) o Q K :=
 Nl.skip _ hd (λa w k j=>by
  obtain⟨l,e,g⟩:=CH (P:=P) vs cs 0 j dP i
  refine⟨l,?_,g⟩
  simp[execOp,m,k.eval d,k.eval p,Instr.storeAt,Instr.sureAddr,storeVar,f,Value.cells,z,e]) h
def Ii {α:Type} {v:d0} {e:d4} {E:Enc α} {l:List α} {w:d7} (h:St w0 D (AG v e E l::H) w) (f:0<l.length) :
 ∃b cap pre x,v=.slice (some ⟨b,pre.length,none⟩) l.length cap/\l.length<=cap/\x.length=(cap-l.length)*E.sz/\St w0 D (Ac b e (pre++E.flat l++x)::H) w:=by
 have y:Row v e E l ((Dv v).bind (w.heap[·]?)):=h.at 0 rfl;rcases y with⟨a,rfl,rfl⟩|⟨b,cap,pre,x,rfl,g,c,z,d⟩
 .cases f
 refine⟨b,cap,pre,x,rfl,z,d,h.head ?_<|λ_=>?_⟩
 .simp[Ac,AG,Dv]; omega
 have:Dv (.slice (some ⟨b,pre.length,none⟩) l.length cap)=some b:=by simp[Dv]; omega
 rw[this] at c;exact c
def DB {α:Type} {b cap:Nat} {e:d4} {E:Enc α} {l:List α} {pre x:bi} {w:d7} (h:St w0 D (Ac b e (pre++E.flat l++x)::H) w) (f:0<cap) (d:l.length<=cap) (c:x.length=(cap-l.length)*E.sz) :
 St w0 D (AG (.slice (some ⟨b,pre.length,none⟩) l.length cap) e E l::H) w:=by
 have a:Dv (.slice (some ⟨b,pre.length,none⟩) l.length cap)=some b:=by simp[Dv]; omega
 refine h.head a<|λz=>.inr ⟨b,cap,pre,x,rfl,f,?_,d,c⟩
 have y:w.heap[b]?=some (.cells (pre++E.flat l++x).toArray e (0,0)):=z;simp only[AG,a];exact y
def DR {α:Type} {E:Enc α} {l:List α} {t e:d4} {x y:d5} {v u:d0} {off:Nat} (j k:Nat) (c:α) {a:α} (R:o.op=.store t x y) (hd:o.dst=none) (M:∀w,(sizeOf t).run P w=.ok 1 w) (F:ev L x=some (.pointer<|some ⟨blk v,off,none⟩)) (d:off=Gl v+j*E.sz+k) (S:ev L y=some u)
 (r:l[j]?=some a) (s:k<E.sz) (B:(E.f a).set k u=E.f c) (h:Pre n L (St w0 D<|AG v e E (l.set j c)::H) K):Nl P n L (St w0 D<|AG v e E l::H) o Q K :=
 Nl.skip _ hd (λT w p N=>by
  have hj:=(qp.1 r).1
  have q:u.oneCell'=true:=E.one c u<|by rw[<-B]; exact List.mem_set (by rw[E.len]; exact s) u
  obtain⟨b,cap,pre,post,rfl,i,C,G⟩:=Ii N A1
  have z:=E.oU l
  have g:(j+1)*E.sz<=l.length*E.sz:=qy _ A1
  rw[pW,qz] at g
  obtain⟨O,J,A⟩:=Jy (P:=P) G (off:=off) (by subst d; simp only[Gl,pK,z]; omega) q
  have Nn:(pre++E.flat l++post).set off u=pre++E.flat (l.set j c)++post:=by
   subst d;simp only[Gl];rw[show pre.length+j*E.sz+k=pre.length+(j*E.sz+k) from by omega,qQ,set_mid _ _ _ _ (by rw[pK,z]; omega),sB _ _ jW,E.XcO l j k a c u r s B,qQ]
  rw[Nn] at A;have m:u.cells=#[u]:=by cases u<;>first|rfl|(cases q; done)
  refine⟨O,by simp[execOp,R,p.eval F,p.eval S,Instr.storeAt,Instr.sureAddr,storeVar,M,m,storeCells,BT,blk]; simp[J],?_⟩;have:=DB (cap:=cap) A A1 (by simpa using i)<|by simpa using C
  simpa using this) h
def EF {α:Type} {E:Enc α} {l:List α} {t e:d4} {x y:d5} {v:d0} {off:Nat} (j:Nat) (c:α) {us:bi} (J:o.op=.store t x y) (hd:o.dst=none) (A:∀w,(sizeOf t).run P w=.ok E.sz w) (s:ev L x=some (.pointer<|some ⟨blk v,off,none⟩)) (d:off=Gl v+j*E.sz) (M:ev L y=some (.agg us.toArray))
 (C:us=E.f c) (hj:j<l.length) (h:Pre n L (St w0 D<|AG v e E (l.set j c)::H) K):Nl P n L (St w0 D<|AG v e E l::H) o Q K :=
 Nl.skip _ hd (λN w k F=>by
  subst C
  obtain⟨b,cap,pre,post,rfl,i,p,r⟩:=Ii F A1
  have z:=E.oU l
  have g:(j+1)*E.sz<=l.length*E.sz:=qy _ A1
  rw[pW,qz] at g
  have a:off+0+(E.f c).length<=(pre++E.flat l++post).length:=by subst d; simp only[Gl,pK,z,E.len]; omega
  obtain⟨G,u,m⟩:=CH (P:=P) (off:=off) (E.f c) _ 0 r a<|E.one c
  have Nn:splice (pre++E.flat l++post) (off+0) (E.f c)=pre++E.flat (l.set j c)++post:=by
   rw[Vf _ _ _<|by simpa using a];subst d;simp only[Gl,sf,E.len]
   have B:l.set j c=l.take j++[c]++l.drop (j+1):=by
    rw[sJ]; simp[hj]
   rw[B,E.pe,E.pe,<-E.XI,<-E.eY,pW,qz,E.pg,E.flat_nil,sG]
   have q:(pre++E.flat l++post).take (pre.length+j*E.sz)=pre++(E.flat l).take (j*E.sz):=by
    rw[qQ,sx,sK jW]
   have t2:(pre++E.flat l++post).drop (pre.length+j*E.sz+E.sz)=(E.flat l).drop (j*E.sz+E.sz)++post:=by
    rw[qQ,qS,sA,sL jW]
   rw[q,t2];simp only[qQ]
  rw[Nn] at m;refine⟨G,by simp[execOp,J,k.eval s,k.eval M,Instr.storeAt,Instr.sureAddr,storeVar,A,Value.cells,E.len,blk]; simp[u],?_⟩;have:=DB (cap:=cap) m A1 (by simpa using i)<|by simpa using p
  simpa using this) h
end
section
variable {P:d8} {n:Nat} {L:Env} {X:aU} {o:Oper} {Q:aB} {K:aO} {α:Type} {E:Enc α} {l:List α} {v:d0}
def AM {x:d5} {t e:d4} (d:o.op=.call ⟨.builtin .len,#[x],#[t]⟩) (f:P.underlying t=some (.slice e)) (b:ev L x=some v) (y:∀w,X w->Ec w v E l):MV P n L X o (aa (l.length:Int)):=λa w z h=>by
 obtain⟨g,c,rfl,_⟩:=y w h
 exact Fw (X:=X) d f b a w z h
def Aw {t e:d4} {x i:d5} {k:d6} {p:Int} (j:Nat) (r:o.op=.indexAddr t x i) (g:P.underlying t=some (.slice e)) (z:∀w,(sizeOf e).run P w=.ok E.sz w)
 (f:ev L x=some v) (m:∀w,X w->Ec w v E l) (hi:ev L i=some (.int k p)) (d:p=(j:Int)) (hj:j<l.length:=by omega):MV P n L X o (.pointer<|some ⟨blk v,Gl v+j*E.sz,none⟩):=λa w q y=>by
 obtain⟨s,c,rfl,_,h⟩:=m w y
 rcases h with rfl|⟨b,off,rfl,h⟩
 .simp at hj
 .exact Ic (X:=X) j r g z f hi d hj a w q y
def L5 {w:d7} (x:Ec w v E l) (y:0<l.length):∃b off c,v=.slice (some ⟨b,off,none⟩) l.length c:=by
 obtain⟨z,c,rfl,_,h⟩:=x;rcases h with rfl|⟨b,off,rfl,h⟩
 .simp at y
 exact⟨b,off,c,rfl⟩
def PD {w:d7} (z:Ec w v E l) {j k:Nat} {a:α} {u:d0} (x:l[j]?=some a) (y:(E.f a)[k]?=some u):w.cell? ⟨blk v,Gl v+j*E.sz+k,none⟩=some u:=by
 obtain⟨d,c,rfl,_,h⟩:=z;rcases h with rfl|⟨b,off,rfl,h⟩
 .simp at x
 have:=h _ _ (E.flat_get l j k a u x y);rwa[<-qS] at this
def AO {t:d4} {x:d5} {u:d0} {off:Nat} (j k:Nat) {a:α} (e:o.op=.load t x) (g:∀w,(isAgg t).run P w=.ok false w) (b:ev L x=some (.pointer<|some ⟨blk v,off,none⟩)) (h:off=Gl v+j*E.sz+k)
 (z:∀w,X w->Ec w v E l) (d:l[j]?=some a) (y:(E.f a)[k]?=some u):MV P n L X o u:=by
 subst h;exact Xb9 e g b<|λw c=>PD (z w c) d y
def Ij {t:d4} {x:d5} {off sz:Nat} (j k:Nat) {a:α} (c:o.op=.load t x) (p:∀w,(isAgg t).run P w=.ok true w) (m:∀w,(sizeOf t).run P w=.ok sz w) (z:ev L x=some (.pointer<|some ⟨blk v,off,none⟩)) (h:off=Gl v+j*E.sz+k)
 (e:∀w,X w->Ec w v E l) (d:l[j]?=some a) (q:k+sz<=E.sz):MV P n L X o (.agg (((E.f a).drop k).take sz).toArray):=by
 subst h;refine Xat c p m z (by rw[pI,pJ,E.len]; omega)<|λw g i u y=>?_
 have b:(E.f a)[k+i]?=some u:=by
  rw[pM] at y;split at y
  .rwa[pP] at y
  cases y
 rw[qS];exact PD (e w g) d b
def Bc {t:d4} {x:d5} {off:Nat} (j:Nat) {a:α} (d:o.op=.load t x) (e:∀w,(isAgg t).run P w=.ok true w) (z:∀w,(sizeOf t).run P w=.ok E.sz w) (b:ev L x=some (.pointer<|some ⟨blk v,off,none⟩)) (h:off=Gl v+j*E.sz)
 (y:∀w,X w->Ec w v E l) (c:l[j]?=some a):MV P n L X o (.agg (E.f a).toArray):=by
 have:=Ij (P:=P) (n:=n) (E:=E) (v:=v) (l:=l) j 0 d e z b (by rw[sf]; exact h) y c A1;rw[pU,pZ<|by rw[E.len]; exact qb _] at this;exact this
def Aj {t T:d4} {x:d5} {b off:Nat} {cs:bi} {u:d0} (c:o.op=.load t x) (d:∀w,(isAgg t).run P w=.ok false w) (z:ev L x=some (.pointer<|some ⟨b,off,none⟩)) (y:∀w,X w->(Ac b T cs).at w) (h:cs[off]?=some u):MV P n L X o u :=
 Xb9 c d z<|λw a=>EE (y w a) h
def AH {t T:d4} {x:d5} {b off sz:Nat} {cs:bi} (vs:bi) (z:o.op=.load t x) (g:∀w,(isAgg t).run P w=.ok true w) (f:∀w,(sizeOf t).run P w=.ok sz w) (y:ev L x=some (.pointer<|some ⟨b,off,none⟩)) (a:∀w,X w->(Ac b T cs).at w)
 (d:(cs.drop off).take sz=vs) (c:vs.length=sz):MV P n L X o (.agg vs.toArray) :=
 Xat z g f y c<|λw e i u h=>EE (a w e)<|by
  subst d
  rw[pM] at h
  split at h
  .rwa[pP] at h
  .cases h
def Oy:d0->Nat->Nat->Nat->d0
 |.slice a _ c,sz,lo,hi=>.slice (if c=lo then a else a.map (·.add (lo*sz))) (hi-lo) (c-lo)
 |v,_,_,_=>v
def Cg {w:d7} (h:Ec w v E l) {lo hi:Nat} (d:lo<=hi) (z:hi<=l.length):Ec w (Oy v E.sz lo hi) E ((l.take hi).drop lo):=by
 obtain⟨a,c,rfl,e,h⟩:=h;have x:((l.take hi).drop lo).length=hi-lo:=by rw[pJ,pI]; omega
 refine⟨(if c=lo then a else a.map (·.add (lo*E.sz))),c-lo,by rw[Oy,x],A1,?_⟩;by_cases hd:hi=lo
 .exact .inl<|pR A1
 rcases h with rfl|⟨b,off,rfl,h⟩
 .simp at z; omega
 refine .inr ⟨b,off+lo*E.sz,?_,λk u y=>?_⟩
 .rw[pQ A1]; simp[BT]
 rw[<-E.eY,<-E.XI,pP,pM] at y;split at y
 .have:=h _ _ y; rwa[<-qS] at this
 cases y
def Ik {t e:d4} {x lo hi:d5} {k u:d6} {f d:Int} (i j:Nat) (A:o.op=.slice t x (some lo) (some hi) none) (B:P.underlying t=some (.slice e)) (m:∀w,(sizeOf e).run P w=.ok E.sz w)
 (r:ev L x=some v) (C:∀w,X w->Ec w v E l) (y:ev L lo=some (.int k f)) (z:ev L hi=some (.int u d)) (q:f=(i:Int)) (D:d=(j:Int)) (s:i<=j) (F:j<=l.length) :
 MV P n L X o (Oy v E.sz i j):=λa w h g=>by
 obtain⟨p,c,rfl,G,_⟩:=C w g
 subst q; subst D
 have b:j<=c:=A1
 have:=MV.mk (P:=P) (n:=n) (L:=L) (X:=X) (o:=o) (v:=Oy (.slice p l.length c) E.sz i j) (λa=>Instr.sliceAt t (a.eval x) (some<|a.eval lo) (some<|a.eval hi) none) (λa=>by simp[execOp,A])<|λa w h _=>by
  rw[h.eval r,h.eval y,h.eval z]
  simp only[Instr.sliceAt,Instr.slice,Instr.sliceBounds,qC,Be B,qE,qD,CG (P:=P) w rfl b,CG (P:=P) w rfl s,m,Oy]
 exact this a w h g
def DC {t e:d4} {x lo:d5} {k:d6} {z:Int} (i:Nat) (m:o.op=.slice t x (some lo) none none) (p:P.underlying t=some (.slice e)) (r:∀w,(sizeOf e).run P w=.ok E.sz w)
 (g:ev L x=some v) (q:∀w,X w->Ec w v E l) (y:ev L lo=some (.int k z)) (f:z=(i:Int)) (j:i<=l.length) :
 MV P n L X o (Oy v E.sz i l.length):=λa w h b=>by
 obtain⟨d,c,rfl,s,_⟩:=q w b
 subst f
 have:=MV.mk (P:=P) (n:=n) (L:=L) (X:=X) (o:=o) (v:=Oy (.slice d l.length c) E.sz i l.length) (λa=>Instr.sliceAt t (a.eval x) (some<|a.eval lo) none none) (λa=>by simp[execOp,m])<|λa w h _=>by
  rw[h.eval g,h.eval y]
  simp only[Instr.sliceAt,Instr.slice,Instr.sliceBounds,qC,Be p,qE,qD,CG (P:=P) w rfl j,r,Oy]
 exact this a w h b
def EG {t e:d4} {x hi:d5} {k:d6} {b:Int} (j:Nat) (r:o.op=.slice t x none (some hi) none) (m:P.underlying t=some (.slice e)) (f:∀w,(sizeOf e).run P w=.ok E.sz w)
 (i:ev L x=some v) (p:∀w,X w->Ec w v E l) (y:ev L hi=some (.int k b)) (q:b=(j:Int)) (s:j<=l.length) :
 MV P n L X o (Oy v E.sz 0 j):=λa w h d=>by
 obtain⟨g,c,rfl,u,_⟩:=p w d
 subst q
 have z:j<=c:=A1
 have:=MV.mk (P:=P) (n:=n) (L:=L) (X:=X) (o:=o) (v:=Oy (.slice g l.length c) E.sz 0 j) (λa=>Instr.sliceAt t (a.eval x) none (some<|a.eval hi) none) (λa=>by simp[execOp,r])<|λa w h _=>by
  rw[h.eval i,h.eval y]
  simp only[Instr.sliceAt,Instr.slice,Instr.sliceBounds,qC,Be m,qE,qD,CG (P:=P) w rfl z,f,Oy]
 exact this a w h d
def KH {w:d7} (h:Ec w v E l):(Builtin.lenOf v).run P w=.ok l.length w:=by
 obtain⟨a,c,rfl,_⟩:=h; rfl
def E8 {w:d7} (h:Ec w v E l):(Builtin.firstCells E.sz l.length v).run P w=.ok (E.flat l).toArray w:=by
 obtain⟨a,c,rfl,_,h⟩:=h;rcases h with rfl|⟨b,off,rfl,h⟩
 .cases a<;>simp[Builtin.firstCells,loadCells,loadCellsFrom,Enc.flat_nil]
 simp only[Builtin.firstCells,loadCells];have:=Fk (P:=P) b off w (l.length*E.sz) 0 (E.flat l) #[] (E.oU l) (λj u x=>by rw[qK]; exact h j u x);simpa using this
def Ec.drew {w:d7} (h:Ec w v E l):Ec w.drew v E l:=h.congr XA
variable {w0:d7} {D:bm} {H:ci}
def St.row0 {w:d7} (e:d4) (E:Enc α) (a:ce) (h:St w0 D H w):St w0 D (AG (.slice a 0 0) e E []::H) w :=
 h.add (by cases a<;>simp[AG,Dv])<|.inl ⟨a,rfl,rfl⟩
def St.Sj {w:d7} {b m:Nat} {e:d4} {cs:bi} (E:Enc α) (l:List α) (a:l.length=m) (x:cs=E.flat l) (h:St w0 D (Ac b e cs::H) w):St w0 D (AG (.slice (some ⟨b,0,none⟩) m m) e E l::H) w:=by
 subst a; subst x;by_cases h0:l=[]
 .subst h0;exact h.drop.row0 e E _
 have z:0<l.length:=sM.2 h0;have y:St w0 D (Ac b e ([]++E.flat l++[])::H) w:=sv;exact DB (cap:=l.length) y z (qb _) j
def Xe8 {t tx e e':d4} {i:TypeInfo} {z x:d0} {m:List α} {ty:d4} {w:d7} (W:P.underlying t=some (.slice e)) (q:P.underlying tx=some (.slice e')) (hi:P.info? e=some i) (hs:i.size=E.sz) (hz:i.zero=some z) (L:z.cells.size=E.sz)
 (h:St w0 D (AG v e E l::H) w) (F:Ec w x E m) (hb:(l.length+m.length)*i.bytes<=140737488355328) (hn:l.length+m.length<=9223372036854775807) :
 ∃v' w',(Builtin.append_ #[t,tx] ty #[v,x]).run P w=.ok v' w'/\St w0 D (AG v' e E (l++m)::H) w':=by
 have p:Ec w v E l:=BA<|h.at 0 rfl;have K:=p;obtain⟨a,c,rfl,hc,_⟩:=K;have n:∀w,(sizeOf e).run P w=.ok E.sz w:=λw=>nU
 have R:∀w,(typeInfo e).run P w=.ok i w:=λw=>by simp[typeInfo,hi]
 have J:∀w,(zeroValue e).run P w=.ok z w:=λw=>nK
 have j:=KH (P:=P) F;by_cases hroom:l.length+m.length<=c
 ·-- there is room
  have y:(Builtin.append_ #[t,tx] ty #[.slice a l.length c,x]).run P w=(Sem.run P (match a with|some a=>storeCells (a.add<|l.length*E.sz) (E.flat m)|none=>pure ():Sem Unit) w).andThen (λ_ w'=>.ok (.slice a (l.length+m.length) c) w'):=by
   have hf:=E8 (P:=P) F;cases a<;>simp[Builtin.append_,Be W,Be q,n,j,hroom,hf]
  by_cases hm:m=[]
  .subst hm;refine⟨.slice a l.length c,w,?_,sv⟩;rw[y];cases a<;>simp[Enc.flat_nil,storeCells]
  have Z:0<m.length:=sM.2 hm;have B:Row (.slice a l.length c) e E l ((Dv<|.slice a l.length c).bind (w.heap[·]?)):=h.at 0 rfl;rcases B with⟨a',N,rfl⟩|⟨b,cap,pre,d,N,h4,Y,h3,s⟩
  .cases N; simp at hroom; exact absurd hroom hm
  cases N
  have f:Dv (.slice (some ⟨b,pre.length,none⟩) l.length c)=some b:=by simp[Dv]; omega
  have G:St w0 D (Ac b e (pre++E.flat l++d)::H) w:=h.head f.symm<|λ_=>by rw[f] at Y; exact Y
  have M:=E.oU l;have h5:=E.oU m;have k:(l.length+m.length)*E.sz<=c*E.sz:=qy _ hroom;have X:(c-l.length)*E.sz=c*E.sz-l.length*E.sz:=sN ..;rw[pW] at k
  have g:pre.length+l.length*E.sz+0+(E.flat m).length<=(pre++E.flat l++d).length:=by
   simp only[pK]; omega
  obtain⟨w',hr,r⟩:=CH (P:=P) (off:=pre.length+l.length*E.sz) (E.flat m) _ 0 G g<|λu hu=>E.eu m u hu
  refine⟨.slice (some ⟨b,pre.length,none⟩) (l.length+m.length) c,w',?_,?_⟩
  .rw[y];simp only[BT,hr,qE]
  rw[Vf _ _ _<|by simpa using g] at r
  have t1:(pre++E.flat l++d).take (pre.length+l.length*E.sz+0)=pre++E.flat l:=by
   rw[sf,<-M,<-pK,sE]
  rw[t1] at r;have e2:pre++E.flat l++E.flat m=pre++E.flat (l++m):=by rw[E.pe,qQ]
  rw[e2] at r
  have:=DB (cap:=c) r A1 (by simpa using hroom) (by
   simp only[pJ,pK,sf];have S:(c-(l.length+m.length))*E.sz=c*E.sz-(l.length*E.sz+m.length*E.sz):=by rw[sN,pW]
   rw[S]
   omega)
  simpa using this
 ·-- a new block
  have O:c<l.length+m.length:=A1;have V:¬(9223372036854775807<((l.length:Int)+(m.length:Int))):=A1;have T:=growslice_fits O hb;have C:¬(281474976710656<Builtin.nextslicecap (l.length+m.length) c*i.bytes):=A1;have Q:=E8 (P:=P) p.drew;have A:=E8 (P:=P) F.drew
  have y:(Builtin.append_ #[t,tx] ty #[.slice a l.length c,x]).run P w=.ok (.slice (some ⟨w.heap.size,0,none⟩) (l.length+m.length)<|grownCap w (l.length+m.length) c e)
   (w.drew.alloc<|.cells ((E.flat l).toArray++(E.flat m).toArray++Builtin.zeroCells z.cells (grownCap w (l.length+m.length) c e-(l.length+m.length))) e):=by
   simp[Builtin.append_,Be W,Be q,n,R,J,j,hroom,V,C,Question.forced,Q,A,newRow,grownCap,<-Array.append_assoc]
  refine⟨_,_,y,?_⟩;have h2:=grownCap_ge w (l.length+m.length) c e;have U:Dv (.slice (some ⟨w.heap.size,0,none⟩) (l.length+m.length)<|grownCap w (l.length+m.length) c e)=some w.heap.size:=by simp[Dv]; omega
  have G:=(h.drop.drew).alloc (o:=.cells ((E.flat l).toArray++(E.flat m).toArray++Builtin.zeroCells z.cells (grownCap w (l.length+m.length) c e-(l.length+m.length))) e)
   (φ:=Row (.slice (some ⟨w.heap.size,0,none⟩) (l.length+m.length)<|grownCap w (l.length+m.length) c e) e E<|l++m) (.inr ⟨w.heap.size,grownCap w (l.length+m.length) c e,[],(Builtin.zeroCells z.cells<|grownCap w (l.length+m.length) c e-(l.length+m.length)).toList,A3,A1,by
    congr 2;apply sO.1;simp[E.pe],uj,by
    rw[rF,sP,L,pK]⟩)
  show St w0 D (⟨Dv _,_⟩::H) _
  rw[U];exact G
def B0 {t tx e e':d4} {i:TypeInfo} {z p:d0} {s x:d5} {m:List α} {d:Nat} (A:o.op=.call ⟨.builtin .append,#[s,x],#[t,tx]⟩) (hd:o.dst=some d) (g:d.blt n) (B:P.underlying t=some (.slice e)) (j:P.underlying tx=some (.slice e')) (hi:P.info? e=some i) (F:i.size=E.sz) (r:i.zero=some z) (f:z.cells.size=E.sz)
 (c:ev L s=some v) (b:ev L x=some p) (u:∀w,St w0 D (AG v e E l::H) w->Ec w p E m) (M:(l.length+m.length)*i.bytes<=140737488355328) (J:l.length+m.length<=9223372036854775807)
 (h:∀y,Pre n ((d,y)::L) (St w0 D<|AG y e E (l++m)::H) K):Nl P n L (St w0 D<|AG v e E l::H) o Q K :=
 Nl.val (β:=d0) (λv=>v) (λ_=>True) (λy=>St w0 D<|AG y e E (l++m)::H) hd g (λa w k q=>by
  obtain⟨y,N,C,G⟩:=Xe8 (P:=P) (ty:=o.type) B j hi F r f q (u w q) M J
  exact⟨y,N,by simp[execOp,A,resolve,invoke,builtin,k.eval c,k.eval b,C],trivial,G⟩)<|λy _=>h y
variable {F:aO} {a b c d e f g h i:Nr}
def AD (k:Pre n L (St w0 D<|b::a::H) F):Pre n L (St w0 D<|a::b::H) F:=k.world _<|λw s=>s.perm<|.swap b a H
def AQ (k:Pre n L (St w0 D<|c::a::b::H) F):Pre n L (St w0 D<|a::b::c::H) F:=k.world _<|λw s=>s.perm<|.trans (.cons a<|.swap c b H)<|.swap c a<|b::H
def BP (k:Pre n L (St w0 D<|d::a::b::c::H) F):Pre n L (St w0 D<|a::b::c::d::H) F:=k.world _<|λw s=>s.perm<|.trans (.cons a<|.cons b<|.swap d c H)<|.trans (.cons a<|.swap d b<|c::H)<|.swap d a<|b::c::H
def Cd (k:Pre n L (St w0 D<|e::a::b::c::d::H) F):Pre n L (St w0 D<|a::b::c::d::e::H) F:=k.world _<|λw s=>s.perm<|sQ (l₁:=[a,b,c,d]) (l₂:=H)
def B7 (k:Pre n L (St w0 D<|f::a::b::c::d::e::H) F):Pre n L (St w0 D<|a::b::c::d::e::f::H) F:=k.world _<|λw s=>s.perm<|sQ (l₁:=[a,b,c,d,e]) (l₂:=H)
def C3 (k:Pre n L (St w0 D<|g::a::b::c::d::e::f::H) F):Pre n L (St w0 D<|a::b::c::d::e::f::g::H) F:=k.world _<|λw s=>s.perm<|sQ (l₁:=[a,b,c,d,e,f]) (l₂:=H)
def Ae (k:Pre n L (St w0 D H) F):Pre n L (St w0 D<|a::H) F:=k.world _<|λw s=>s.drop
abbrev m:=@Ae
def CQ {w:d7} {e:d4} (h:(AG v e E l).at w):∃a c,v=.slice a l.length c:=by
 obtain⟨a,c,h,_⟩:=BA h; exact⟨a,c,h⟩
def FK {w:d7} (h:Ec w v E l):∃a c,v=.slice a l.length c:=by
 obtain⟨a,c,h,_⟩:=h; exact⟨a,c,h⟩
def FQ {w:d7} {n c:Nat} (h:Ec w (.slice none n c) E l):l=[]:=by
 obtain⟨a,c',e,_,h⟩:=h;cases e
 rcases h with h|⟨b,off,e,_⟩
 .exact h
 cases e
def Bb {F:aO} {b:Nat} {t:d4} {cs cs':bi} (h:cs=cs') (k:Pre n L (St w0 D<|Ac b t cs'::H) F):Pre n L (St w0 D<|Ac b t cs::H) F:=h▸k
def Ba {F:aO} {v:d0} {t:d4} {E:Enc α} {l l':List α} (h:l=l') (k:Pre n L (St w0 D<|AG v t E l'::H) F):Pre n L (St w0 D<|AG v t E l::H) F:=h▸k
def row0 {F:aO} (e:d4) (E:Enc α) (a:ce) (k:Pre n L (St w0 D<|AG (.slice a 0 0) e E []::H) F):Pre n L (St w0 D H) F:=k.world _<|λw s=>s.row0 e E a
def Sj {F:aO} {b m:Nat} {e:d4} {cs:bi} (E:Enc α) (l:List α) (x:l.length=m) (h:cs=E.flat l) (k:Pre n L (St w0 D<|AG (.slice (some ⟨b,0,none⟩) m m) e E l::H) F):Pre n L (St w0 D<|Ac b e cs::H) F:=k.world _<|λw s=>s.Sj E l x h
end
section
variable {P:d8} {n:Nat} {L:Env} {o:Oper} {Q:aB} {K:aO} {w0:d7} {D:bm}
def AX {β:Type} {v:β->d0} {p:β->Prop} {E:aU} {F:ci} {x:β->Nr} {f:FuncId} {xs:bx} {e:ca} {d:Nat} {vs:bi} (s:Df P f vs E [] v p<|λb=>[x b]) (g:o.op=.call ⟨.value<|.func f,xs.toArray,e⟩) (hd:o.dst=some d) (c:d.blt n)
 (z:∀us w,(callFunc f us).run P w=.ok (.enter f us) w) (a:evs L xs=some vs) (y:∀w,St w0 D (F) w->E w) (h:∀b,p b->Pre n ((d,v b)::L) (St w0 D<|x b::F) K):Nl P n L (St w0 D<|F) o Q K :=
 DA g hd c z a (λw h=>s.frame (F:=F) h<|y w h) h
def DD {β:Type} {v:β->d0} {p:β->Prop} {E:aU} {F:ci} {y x:β->Nr} {f:FuncId} {xs:bx} {g:ca} {d:Nat} {vs:bi} (s:Df P f vs E [] v p<|λb=>[y b,x b]) (i:o.op=.call ⟨.value<|.func f,xs.toArray,g⟩) (hd:o.dst=some d) (e:d.blt n)
 (a:∀us w,(callFunc f us).run P w=.ok (.enter f us) w) (c:evs L xs=some vs) (z:∀w,St w0 D (F) w->E w) (h:∀b,p b->Pre n ((d,v b)::L) (St w0 D<|y b::x b::F) K):Nl P n L (St w0 D<|F) o Q K :=
 DA i hd e a c gu h
def Wl {β:Type} {v:β->d0} {p:β->Prop} {E:aU} {F:ci} {z y x:β->Nr} {f:FuncId} {xs:bx} {i:ca} {d:Nat} {vs:bi} (s:Df P f vs E [] v p<|λb=>[z b,y b,x b]) (j:o.op=.call ⟨.value<|.func f,xs.toArray,i⟩) (hd:o.dst=some d) (g:d.blt n)
 (c:∀us w,(callFunc f us).run P w=.ok (.enter f us) w) (e:evs L xs=some vs) (a:∀w,St w0 D (F) w->E w) (h:∀b,p b->Pre n ((d,v b)::L) (St w0 D<|z b::y b::x b::F) K):Nl P n L (St w0 D<|F) o Q K :=
 DA j hd g c e nT h
def EH {β:Type} {v:β->d0} {p:β->Prop} {E:aU} {F:ci} {z y x a:β->Nr} {f:FuncId} {xs:bx} {i:ca} {d:Nat} {vs:bi} (s:Df P f vs E [] v p<|λb=>[z b,y b,x b,a b]) (k:o.op=.call ⟨.value<|.func f,xs.toArray,i⟩) (hd:o.dst=some d) (j:d.blt n)
 (e:∀us w,(callFunc f us).run P w=.ok (.enter f us) w) (g:evs L xs=some vs) (c:∀w,St w0 D (F) w->E w) (h:∀b,p b->Pre n ((d,v b)::L) (St w0 D<|z b::y b::x b::a b::F) K):Nl P n L (St w0 D<|F) o Q K :=
 DA k hd j e g (λw h=>s.frame (F:=F) h<|c w h) h
def Bp {β:Type} {v:β->d0} {p:β->Prop} {E:aU} {F:ci} {x:Nr} {y:β->Nr} {f:FuncId} {xs:bx} {g:ca} {d:Nat} {vs:bi} (s:Df P f vs E [x] v p<|λb=>[y b]) (i:o.op=.call ⟨.value<|.func f,xs.toArray,g⟩) (hd:o.dst=some d) (e:d.blt n)
 (a:∀us w,(callFunc f us).run P w=.ok (.enter f us) w) (c:evs L xs=some vs) (z:∀w,St w0 D (x::F) w->E w) (h:∀b,p b->Pre n ((d,v b)::L) (St w0 D<|y b::F) K):Nl P n L (St w0 D<|x::F) o Q K :=
 DA i hd e a c gu h
def GZ {β:Type} {v:β->d0} {p:β->Prop} {E:aU} {F:ci} {x:Nr} {z y:β->Nr} {f:FuncId} {xs:bx} {i:ca} {d:Nat} {vs:bi} (s:Df P f vs E [x] v p<|λb=>[z b,y b]) (j:o.op=.call ⟨.value<|.func f,xs.toArray,i⟩) (hd:o.dst=some d) (g:d.blt n)
 (c:∀us w,(callFunc f us).run P w=.ok (.enter f us) w) (e:evs L xs=some vs) (a:∀w,St w0 D (x::F) w->E w) (h:∀b,p b->Pre n ((d,v b)::L) (St w0 D<|z b::y b::F) K):Nl P n L (St w0 D<|x::F) o Q K :=
 DA j hd g c e nT h
def Wm {β:Type} {v:β->d0} {p:β->Prop} {E:aU} {F:ci} {x y:Nr} {z:β->Nr} {f:FuncId} {xs:bx} {i:ca} {d:Nat} {vs:bi} (s:Df P f vs E [x,y] v p<|λb=>[z b]) (j:o.op=.call ⟨.value<|.func f,xs.toArray,i⟩) (hd:o.dst=some d) (g:d.blt n)
 (c:∀us w,(callFunc f us).run P w=.ok (.enter f us) w) (e:evs L xs=some vs) (a:∀w,St w0 D (x::y::F) w->E w) (h:∀b,p b->Pre n ((d,v b)::L) (St w0 D<|z b::F) K):Nl P n L (St w0 D<|x::y::F) o Q K :=
 DA j hd g c e nT h
def DE {β:Type} {v:β->d0} {p:β->Prop} {E:aU} {F:ci} {x y:Nr} {a z:β->Nr} {f:FuncId} {xs:bx} {i:ca} {d:Nat} {vs:bi} (s:Df P f vs E [x,y] v p<|λb=>[a b,z b]) (k:o.op=.call ⟨.value<|.func f,xs.toArray,i⟩) (hd:o.dst=some d) (j:d.blt n)
 (e:∀us w,(callFunc f us).run P w=.ok (.enter f us) w) (g:evs L xs=some vs) (c:∀w,St w0 D (x::y::F) w->E w) (h:∀b,p b->Pre n ((d,v b)::L) (St w0 D<|a b::z b::F) K):Nl P n L (St w0 D<|x::y::F) o Q K :=
 DA k hd j e g (λw h=>s.frame (F:=F) h<|c w h) h
def B5 {β:Type} {v:β->d0} {p:β->Prop} {E:aU} {F:ci} {x y z:Nr} {e c a:β->Nr} {f:FuncId} {xs:bx} {m:ca} {d:Nat} {vs:bi} (s:Df P f vs E [x,y,z] v p<|λb=>[e b,c b,a b]) (g:o.op=.call ⟨.value<|.func f,xs.toArray,m⟩) (hd:o.dst=some d) (l:d.blt n)
 (j:∀us w,(callFunc f us).run P w=.ok (.enter f us) w) (k:evs L xs=some vs) (i:∀w,St w0 D (x::y::z::F) w->E w) (h:∀b,p b->Pre n ((d,v b)::L) (St w0 D<|e b::c b::a b::F) K):Nl P n L (St w0 D<|x::y::z::F) o Q K :=
 DA g hd l j k (λw h=>s.frame (F:=F) h<|i w h) h
def OF {β:Type} {v:β->d0} {p:β->Prop} {E:aU} {F:ci} {x y z:Nr} {e c a g:β->Nr} {f:FuncId} {xs:bx} {q:ca} {d:Nat} {vs:bi} (s:Df P f vs E [x,y,z] v p<|λb=>[e b,c b,a b,g b]) (i:o.op=.call ⟨.value<|.func f,xs.toArray,q⟩) (hd:o.dst=some d) (m:d.blt n)
 (k:∀us w,(callFunc f us).run P w=.ok (.enter f us) w) (l:evs L xs=some vs) (j:∀w,St w0 D (x::y::z::F) w->E w) (h:∀b,p b->Pre n ((d,v b)::L) (St w0 D<|e b::c b::a b::g b::F) K):Nl P n L (St w0 D<|x::y::z::F) o Q K :=
 DA i hd m k l (λw h=>s.frame (F:=F) h<|j w h) h
def Wo {β:Type} {v:β->d0} {p:β->Prop} {E:aU} {F:ci} {y z a x:Nr} {g e c j i:β->Nr} {f:FuncId} {xs:bx} {t:ca} {d:Nat} {vs:bi} (s:Df P f vs E [y,z,a,x] v p<|λb=>[g b,e b,c b,j b,i b]) (k:o.op=.call ⟨.value<|.func f,xs.toArray,t⟩) (hd:o.dst=some d) (r:d.blt n)
 (m:∀us w,(callFunc f us).run P w=.ok (.enter f us) w) (q:evs L xs=some vs) (l:∀w,St w0 D (y::z::a::x::F) w->E w) (h:∀b,p b->Pre n ((d,v b)::L) (St w0 D<|g b::e b::c b::j b::i b::F) K):Nl P n L (St w0 D<|y::z::a::x::F) o Q K :=
 DA k hd r m q (λw h=>s.frame (F:=F) h<|l w h) h
def Xf7 {β:Type} {v:β->d0} {p:β->Prop} {E:aU} {F:ci} {z a c y x:Nr} {i g e k j:β->Nr} {f:FuncId} {xs:bx} {u:ca} {d:Nat} {vs:bi} (s:Df P f vs E [z,a,c,y,x] v p<|λb=>[i b,g b,e b,k b,j b]) (l:o.op=.call ⟨.value<|.func f,xs.toArray,u⟩) (hd:o.dst=some d) (t:d.blt n)
 (q:∀us w,(callFunc f us).run P w=.ok (.enter f us) w) (r:evs L xs=some vs) (m:∀w,St w0 D (z::a::c::y::x::F) w->E w) (h:∀b,p b->Pre n ((d,v b)::L) (St w0 D<|i b::g b::e b::k b::j b::F) K):Nl P n L (St w0 D<|z::a::c::y::x::F) o Q K :=
 DA l hd t q r (λw h=>s.frame (F:=F) h<|m w h) h
end
section
variable {P:d8} {n:Nat} {L:Env} {X:aU} {Q:aB}
def Bm {h:Type} {c:Code} (z:h->Env) (b:h->aU) (p:h->Prop) (μ:h->Nat) (a:h) (d:p a) (g:Sub (z a) L) (e:∀w,X w->b a w)
 (y:∀a1,p a1->Pre n (z a1) (b a1) (c.wp P<|Exit.then (Ll n (λx:h=>μ x) (λx=>z x) (λx=>b x) (λx=>p x)<|μ a1) Q)):Pre n L X ((Code.loop c).wp P Q) :=
 KD (α:=h) (λx=>z x) (λx=>b x) (λx=>p x) (λx=>μ x) a d g e<|λx f=>y x f
def ES {h:Type} {c:Code} {K:aO} (d:h->Env) (z:h->aU) (p:h->Prop) (l:Pre n L X<|c.wp P<|Exit.then (dD n (λx:h=>d x) (λx=>z x)<|λx=>p x) Q) (i:∀a1,p a1->Pre n (d a1) (z a1) K):Pre n L X (c.wp P<|Exit.then K Q) :=
 λa w k x=>wp_mono (l a w k x)<|λe f o y=>by
  cases e<;>first|(obtain⟨b,g,m,j⟩:=y; exact i _ g f o m j)|exact y
def B6 {y h:Type} {c:Code} (a:y->h->Env) (e:y->h->aU) (p:y->h->Prop) (μ:y->h->Nat) (b:y) (d:h) (f:p b d) (j:Sub (a b d) L) (g:∀w,X w->e b d w)
 (z:∀a1 a2,p a1 a2->Pre n (a a1 a2) (e a1 a2) (c.wp P<|Exit.then (Ll n (λx:y×h=>μ (x.1)<|x.2) (λx=>a (x.1)<|x.2) (λx=>e (x.1)<|x.2) (λx=>p (x.1)<|x.2)<|μ a1 a2) Q)):Pre n L X ((Code.loop c).wp P Q) :=
 KD (α:=y×h) (λx=>a (x.1)<|x.2) (λx=>e (x.1)<|x.2) (λx=>p (x.1)<|x.2) (λx=>μ (x.1)<|x.2) (b,d) f j g<|λx i=>z x.1 x.2 i
def Ew {h y:Type} {c:Code} {K:aO} (f:h->y->Env) (d:h->y->aU) (p:h->y->Prop) (m:Pre n L X<|c.wp P<|Exit.then (dD n (λx:h×y=>f (x.1)<|x.2) (λx=>d (x.1)<|x.2)<|λx=>p (x.1)<|x.2) Q) (j:∀a1 a2,p a1 a2->Pre n (f a1 a2) (d a1 a2) K):Pre n L X (c.wp P<|Exit.then K Q) :=
 λa w k x=>wp_mono (m a w k x)<|λe g q z=>by
  cases e<;>first|(obtain⟨b,i,o,l⟩:=z; exact j _ _ i g q o l)|exact z
def Fm {y h z:Type} {c:Code} (b:y->h->z->Env) (g:y->h->z->aU) (p:y->h->z->Prop) (μ:y->h->z->Nat) (d:y) (f:h) (e:z) (i:p d f e) (l:Sub (b d f e) L) (j:∀w,X w->g d f e w)
 (a:∀a1 a2 a3,p a1 a2 a3->Pre n (b a1 a2 a3) (g a1 a2 a3) (c.wp P<|Exit.then (Ll n (λx:y×h×z=>μ (x.1) (x.2.1)<|x.2.2) (λx=>b (x.1) (x.2.1)<|x.2.2) (λx=>g (x.1) (x.2.1)<|x.2.2) (λx=>p (x.1) (x.2.1)<|x.2.2)<|μ a1 a2 a3) Q)):Pre n L X ((Code.loop c).wp P Q) :=
 KD (α:=y×h×z) (λx=>b x.1 (x.2.1)<|x.2.2) (λx=>g x.1 (x.2.1)<|x.2.2) (λx=>p x.1 (x.2.1)<|x.2.2) (λx=>μ x.1 (x.2.1)<|x.2.2) (d,f,e) i l j<|λx k=>a x.1 x.2.1 x.2.2 k
def dE {h z y:Type} {c:Code} {K:aO} (g:h->z->y->Env) (f:h->z->y->aU) (p:h->z->y->Prop) (o:Pre n L X<|c.wp P<|Exit.then (dD n (λx:h×z×y=>g (x.1) (x.2.1)<|x.2.2) (λx=>f (x.1) (x.2.1)<|x.2.2)<|λx=>p (x.1) (x.2.1)<|x.2.2) Q) (l:∀a1 a2 a3,p a1 a2 a3->Pre n (g a1 a2 a3) (f a1 a2 a3) K):Pre n L X (c.wp P<|Exit.then K Q) :=
 λa w k x=>wp_mono (o a w k x)<|λe i r d=>by
  cases e<;>first|(obtain⟨b,j,q,m⟩:=d; exact l _ _ _ j i r q m)|exact d
def Xiq {z h a y:Type} {c:Code} (d:z->h->a->y->Env) (i:z->h->a->y->aU) (p:z->h->a->y->Prop) (μ:z->h->a->y->Nat) (e:z) (g:h) (f:a) (j:y) (k:p e g f j) (o:Sub (d e g f j) L) (l:∀w,X w->i e g f j w)
 (b:∀a1 a2 a3 a4,p a1 a2 a3 a4->Pre n (d a1 a2 a3 a4) (i a1 a2 a3 a4) (c.wp P<|Exit.then (Ll n (λx:z×h×a×y=>μ (x.1) (x.2.1) (x.2.2.1)<|x.2.2.2) (λx=>d (x.1) (x.2.1) (x.2.2.1)<|x.2.2.2) (λx=>i (x.1) (x.2.1) (x.2.2.1)<|x.2.2.2) (λx=>p (x.1) (x.2.1) (x.2.2.1)<|x.2.2.2)<|μ a1 a2 a3 a4) Q)):Pre n L X ((Code.loop c).wp P Q) :=
 KD (α:=z×h×a×y) (λx=>d x.1 x.2.1 (x.2.2.1)<|x.2.2.2) (λx=>i x.1 x.2.1 (x.2.2.1)<|x.2.2.2) (λx=>p x.1 x.2.1 (x.2.2.1)<|x.2.2.2) (λx=>μ x.1 x.2.1 (x.2.2.1)<|x.2.2.2) (e,g,f,j) k o l<|λx m=>b x.1 x.2.1 x.2.2.1 x.2.2.2 m
def PE {y b a d z:Type} {c:Code} (k:y->b->a->d->z->Env) (i:y->b->a->d->z->aU) (p:y->b->a->d->z->Prop) (μ:y->b->a->d->z->Nat) (g:y) (f:b) (e:a) (l:d) (j:z) (o:p g f e l j) (r:Sub (k g f e l j) L) (q:∀w,X w->i g f e l j w)
 (h:∀a1 a2 a3 a4 a5,p a1 a2 a3 a4 a5->Pre n (k a1 a2 a3 a4 a5) (i a1 a2 a3 a4 a5) (c.wp P<|Exit.then (Ll n (λx:y×b×a×d×z=>μ (x.1) (x.2.1) (x.2.2.1) (x.2.2.2.1)<|x.2.2.2.2) (λx=>k (x.1) (x.2.1) (x.2.2.1) (x.2.2.2.1)<|x.2.2.2.2) (λx=>i (x.1) (x.2.1) (x.2.2.1) (x.2.2.2.1)<|x.2.2.2.2) (λx=>p (x.1) (x.2.1) (x.2.2.1) (x.2.2.2.1)<|x.2.2.2.2)<|μ a1 a2 a3 a4 a5) Q)):Pre n L X ((Code.loop c).wp P Q) :=
 KD (α:=y×b×a×d×z) (λx=>k x.1 x.2.1 x.2.2.1 (x.2.2.2.1)<|x.2.2.2.2) (λx=>i x.1 x.2.1 x.2.2.1 (x.2.2.2.1)<|x.2.2.2.2) (λx=>p x.1 x.2.1 x.2.2.1 (x.2.2.2.1)<|x.2.2.2.2) (λx=>μ x.1 x.2.1 x.2.2.1 (x.2.2.2.1)<|x.2.2.2.2) (g,f,e,l,j) o r q<|λx m=>h x.1 x.2.1 x.2.2.1 x.2.2.2.1 x.2.2.2.2 m
def Xir {y e b f a d g z i:Type} {c:Code} (s:y->e->b->f->a->d->g->z->i->Env) (o:y->e->b->f->a->d->g->z->i->aU) (p:y->e->b->f->a->d->g->z->i->Prop) (μ:y->e->b->f->a->d->g->z->i->Nat) (m:y) (l:e) (k:b) (u:f) (q:a) (t:d) (j:g) (z8:z) (r:i) (A:p m l k u q t j z8 r) (C:Sub (s m l k u q t j z8 r) L) (B:∀w,X w->o m l k u q t j z8 r w)
 (h:∀a1 a2 a3 a4 a5 a6 a7 a8 a9,p a1 a2 a3 a4 a5 a6 a7 a8 a9->Pre n (s a1 a2 a3 a4 a5 a6 a7 a8 a9) (o a1 a2 a3 a4 a5 a6 a7 a8 a9) (c.wp P<|Exit.then (Ll n (λx:y×e×b×f×a×d×g×z×i=>μ (x.1) (x.2.1) (x.2.2.1) (x.2.2.2.1) (x.2.2.2.2.1) (x.2.2.2.2.2.1) (x.2.2.2.2.2.2.1) (x.2.2.2.2.2.2.2.1)<|x.2.2.2.2.2.2.2.2) (λx=>s (x.1) (x.2.1) (x.2.2.1) (x.2.2.2.1) (x.2.2.2.2.1) (x.2.2.2.2.2.1) (x.2.2.2.2.2.2.1) (x.2.2.2.2.2.2.2.1)<|x.2.2.2.2.2.2.2.2) (λx=>o (x.1) (x.2.1) (x.2.2.1) (x.2.2.2.1) (x.2.2.2.2.1) (x.2.2.2.2.2.1) (x.2.2.2.2.2.2.1) (x.2.2.2.2.2.2.2.1)<|x.2.2.2.2.2.2.2.2) (λx=>p (x.1) (x.2.1) (x.2.2.1) (x.2.2.2.1) (x.2.2.2.2.1) (x.2.2.2.2.2.1) (x.2.2.2.2.2.2.1) (x.2.2.2.2.2.2.2.1)<|x.2.2.2.2.2.2.2.2)<|μ a1 a2 a3 a4 a5 a6 a7 a8 a9) Q)):Pre n L X ((Code.loop c).wp P Q) :=
 KD (α:=y×e×b×f×a×d×g×z×i) (λx=>s x.1 x.2.1 x.2.2.1 x.2.2.2.1 x.2.2.2.2.1 x.2.2.2.2.2.1 x.2.2.2.2.2.2.1 (x.2.2.2.2.2.2.2.1)<|x.2.2.2.2.2.2.2.2) (λx=>o x.1 x.2.1 x.2.2.1 x.2.2.2.1 x.2.2.2.2.1 x.2.2.2.2.2.1 x.2.2.2.2.2.2.1 (x.2.2.2.2.2.2.2.1)<|x.2.2.2.2.2.2.2.2) (λx=>p x.1 x.2.1 x.2.2.1 x.2.2.2.1 x.2.2.2.2.1 x.2.2.2.2.2.1 x.2.2.2.2.2.2.1 (x.2.2.2.2.2.2.2.1)<|x.2.2.2.2.2.2.2.2) (λx=>μ x.1 x.2.1 x.2.2.1 x.2.2.2.1 x.2.2.2.2.1 x.2.2.2.2.2.1 x.2.2.2.2.2.2.1 (x.2.2.2.2.2.2.2.1)<|x.2.2.2.2.2.2.2.2) (m,l,k,u,q,t,j,z8,r) A C B<|λx v=>h x.1 x.2.1 x.2.2.1 x.2.2.2.1 x.2.2.2.2.1 x.2.2.2.2.2.1 x.2.2.2.2.2.2.1 x.2.2.2.2.2.2.2.1 x.2.2.2.2.2.2.2.2 v
end
open Go.Proofs.YtloldofjddbjoaaGreat
def Xca {α:Type} {w:d7} {B:Nat} {A:ce} {E:Enc α} {l:List α} {c:Nat} (h:Rd w B A<|E.flat l) (a:l.length<=c):Ec w (.slice A l.length c) E l:=by
 refine⟨A,c,rfl,a,?_⟩;by_cases h0:E.flat l=[]
 .left;have x:=E.oU l;rw[h0,sR] at x;have:=E.pos;rcases qB.1 x.symm with y|y
  .exact pR y
  omega
 right;obtain⟨b,off,e,_,z⟩:=h h0;exact⟨b,off,e,z⟩
def Xis {α:Type} (E:Enc α) {ks:cB} {W:α->Prop} (c:ks.length=E.sz) (one:∀cs,Kinds ks cs->∃a,cs=E.f a/\W a):∀(n:Nat) (xs:bi),xs.length=n*ks.length->(∀i,i<n->Kinds ks ((xs.drop<|i*ks.length).take ks.length))->∃l:List α,xs=E.flat l/\l.length=n/\∀a∈l,W a
 |0,xs,h,_=>⟨[],pR sv,rfl,j⟩
 |n+1,xs,h,hc=>by
  obtain⟨a,y,z⟩:=one _<|hc 0 A1
  rw[Nat.zero_mul,pU] at y
  obtain⟨l,d,g,e⟩:=Xis E c one n (xs.drop ks.length) (by rw[pJ,h,pW]; omega) (λi hi=>by
   have:=hc (i+1) A1
   rw[pX]
   rwa[show ks.length+i*ks.length=(i+1)*ks.length from by rw[pW]; omega])
  refine⟨a::l,?_,by simp[g],λb x=>by rcases pj.1 x with rfl|x; exact z; exact e b x⟩
  rw[E.pg,<-d,<-y,qV]
def KJ {α:Type} (E:Enc α) (f:α->d0) (h:∀a,E.f a=[f a]) (l:List α):E.flat l=l.map f:=by
 induction l with
 |nil=>rfl
 |cons a l ih=>rw[E.pg,h,ih]; rfl
def wf_u8 {a:Int} (h:(Lit.int .u8 a).wf):0<=a/\a<=255:=by
 simp only[Lit.wf,qW,rA] at h;exact⟨h.1,h.2⟩
def wf_u64 {a:Int} (h:(Lit.int .u64 a).wf):0<=a/\a<=18446744073709551615:=by
 simp only[Lit.wf,qW,rA] at h;exact⟨h.1,h.2⟩
def ir {α:Type} {w:d7} {A:ce} {E:Enc α} {l:List α} {n c:Nat} (h:Ec w (.slice A n c) E l):Rd w w.heap.size A (E.flat l):=λx=>by
 have y:=h.lt<|λe=>x<|by subst e; rfl
 obtain⟨a,c',e,_,h⟩:=h
 cases e
 rcases h with rfl|⟨b,off,rfl,h⟩
 .exact absurd rfl x
 .exact⟨b,off,rfl,y,h⟩
def Xf8 {α:Type} {w w':d7} {v:d0} {e:d4} {E:Enc α} {l:List α} (h:w'.ownsRow w.heap.size e E.sz v l.length<|E.flat l) (c:Go.RowKit.Below w.heap.size w w'):St w [] [AG v e E l] w':=by
 have m:Keep w [] w':=⟨c.os,c.tape,c.output,c.size,λb y _=>c.block b y⟩;have j:St w [] [] w':=⟨HP.nil w',λb c=>(by cases c),m⟩;obtain⟨r,h|⟨g,cap,a,rfl,q,n,f,hm,p,o⟩⟩:=h
 .obtain⟨rfl,f⟩:=h;have:l=[]:=pR f;subst this;exact j.row0 e E none
 by_cases hc:cap=0
 .subst hc;have:l=[]:=pR A1;subst this;exact j.row0 e E _
 have i:g<w'.heap.size:=(pY.1 n).1;have z:Dv (.slice (some ⟨g,0,none⟩) l.length cap)=some g:=by simp[Dv,hc]
 have d:a=([]++E.flat l++a.toList.drop (l.length*E.sz)).toArray:=by
  apply sO.1;rw[qU,<-o,qV]
 refine⟨⟨λx k=>?_,?_,λb y=>?_⟩,λb y=>?_,m⟩
 .simp only[rU] at k;subst k;simp only[Nr.at,AG,z,Option.bind_some];refine .inr ⟨g,cap,[],a.toList.drop<|l.length*E.sz,rfl,A1,?_,f,?_⟩
  .rw[<-d]; exact n
  rw[pJ,rF,p,sN]
 .simp[dom,AG,z]
 .simp[dom,AG,z] at y; subst y; exact i
 simp[dom,AG,z] at y; subst y; exact .inr q
def Xha {α:Type} {w:d7} {a:ce} {c:Nat} (E:Enc α):Ec w (.slice a 0 c) E ([]:List α):=⟨a,c,rfl,qc _,.inl rfl⟩
def rdE {α:Type} (w0:d7) (s:Bool) (v:d0) (t:d4) (E:Enc α) (l:List α):Nr:=if s then AG v t E l else⟨none,λ_=>Ec w0 v E l⟩
def St.rdE {α:Type} {w0 w:d7} {H:ci} {s:Bool} {v:d0} {t:d4} {E:Enc α} {l:List α} (h:St w0 [] H w) (i:Nat) (hi:H[i]?=some (Sep.rdE w0 s v t E l)):Ec w v E l:=by
 have x:=h.at i hi;cases s with
 |true=>exact BA x
 |false=>exact Ec.keep (x:Ec w0 v E l) h j
def Xhb {P:d8} {f:FuncId} {vs:bi} {E:aU} {w:d7} (s:Df P f vs E [] (λ_:Unit=>.bool true) (λ_=>True)<|λ_=>[]) (y:E w):Calls P f vs.toArray w (λe x=>e=.returned (.bool true)/\Go.RowKit.Below w.heap.size w x) :=
 (s w y<|HP.nil w).mono<|λe x ⟨b,he,_,h⟩=>⟨he,St.below h⟩
open Go.RowKit Go.Proofs.YtloldofjddbjoaaGreat
open Go.Instr
section
variable {P:d8} {n:Nat} {L:Env} {X:aU} {o:Oper}
def Ex {t:d4} {x:d5} {v:d0} {d:TypeDesc} (z:o.op=.makeInterface t x) (b:P.underlying t=some d) (hd:∀ms,d≠.interface ms) (y:ev L x=some v):MV P n L X o (.iface t v) :=
 MV.mk (λa=>Instr.makeInterface t<|a.eval x) bK<|λa w h _=>by
  rw[h.eval y]
  unfold Instr.makeInterface
  simp only[qC,Be b]
  cases d with
  |interface ms=>exact absurd rfl (hd ms)
  |_=>rfl
def Cj {t u:d4} {x:d5} {v:d0} {d:TypeDesc} (z:o.op=.typeAssert x t u true) (b:P.underlying u=some d) (hd:∀ms,d≠.interface ms) (y:ev L x=some (.iface u v)):MV P n L X o (.tuple #[v,.bool true]) :=
 MV.mk (λa=>Instr.typeAssert (a.eval x) t u true) (λa=>by simp[execOp,z])<|λa w h _=>by
  rw[h.eval y]
  unfold Instr.typeAssert
  simp only[qC,Be b]
  cases d with
  |interface ms=>exact absurd rfl (hd ms)
  |_=>simp
def CJ {t u s:d4} {x:d5} {v z:d0} {d:TypeDesc} (c:o.op=.typeAssert x t u true) (f:P.underlying u=some d) (hd:∀ms,d≠.interface ms) (b:ev L x=some (.iface s v)) (y:s≠u) (e:∀w,(zeroValue u).run P w=.ok z w):MV P n L X o (.tuple #[z,.bool false]) :=
 MV.mk (λa=>Instr.typeAssert (a.eval x) t u true) (λa=>by simp[execOp,c])<|λa w h _=>by
  rw[h.eval b]
  unfold Instr.typeAssert
  simp only[qC,Be f]
  cases d with
  |interface ms=>exact absurd rfl (hd ms)
  |_=>simp[y,e w]
variable {Q:aB} {K:aO}
def Xbp {β:Type} {v:β->d0} {p:β->Prop} {X':β->aU} {f:FuncId} {d:Nat} {vs:bi} (hd:o.dst=some d) (j:d.blt n)
 (y:∀a w,Know n L a->X w->(execOp a.eval o).run P w=.ok (.enter f vs.toArray) w)
 (i:∀w,X w->Calls P f vs.toArray w (λe z=>∃b,e=.returned (v b)/\p b/\X' b z)) (h:∀b,p b->Pre n ((d,v b)::L) (X' b) K):Nl P n L X o Q K:=λa w k x=>by
 show o.upon P a K Q ((execOp a.eval o).run P w)
 rw[y a w k x]
 show Calls P f vs.toArray w _
 refine (i w x).mono ?_
 rintro e z ⟨b,rfl,c,g⟩
 show K (a.put o.dst<|v b) z
 rw[hd]
 exact h b c _ _ (k.put _ j) g
def My {r:d5} {name:String} {xs:bx} {d:ca} {t:d4} {x:d0} {us:bi} {f:FuncId} {vs:bi} (e:o.op=.call ⟨.invoke r name,xs.toArray,d⟩) (b:ev L r=some (.iface t x)) (c:evs L xs=some us)
 (hm:∀w,(callMethod (.iface t x) name us.toArray).run P w=.ok (.enter f vs.toArray) w) (a:Act) (w:d7) (k:Know n L a):(execOp a.eval o).run P w=.ok (.enter f vs.toArray) w:=by
 have h:(xs.toArray.map a.eval)=us.toArray:=by rw[qF,k.eX c]
 have z:((#[Value.iface t x]++us.toArray).extract 1 (#[Value.iface t x]++us.toArray).size)=us.toArray:=j;have y:(#[Value.iface t x]++us.toArray)[0]?=some (.iface t x):=j;simp only[execOp,e,resolve,qC,qD,qE,invoke,h,k.eval b,y,z,hm]
end
end Go.Sep
namespace Go.Proofs.YtloldofjddbjoaaGreat
open Go.Sep Go.RowKit
variable {l:Nat} {J:aO}
section
variable {P:d8} {n:Nat} {L:Env} {X:aU} {Q:aB}
def IQ {c rest:Code} (l:Nat) (z:findLabel c l=some rest) (h:Pre n L X<|c.wp P<|Exit.jump l (rest.wp P<|Exit.noGoto Q) Q):Pre n L X ((Code.scope c).wp P Q):=λa w k x =>
 wp_scope_jumps l _ (λ_ _=>0) z Vm<|λa w b=>wp_mono b<|λe d f y=>by
  cases e<;>first|exact y|exact y.elim
def Xbq (h:Pre n L X<|Q .normal):Pre n L X ((Code.label l).wp P Q):=λa w k x=>wp_label Vm
def Hs (h:Pre n L X<|Q<|.goto l):Pre n L X ((Code.goto l).wp P Q):=λa w k x=>wp_goto Vm
def Dh {K:aO} (h:Pre n L X<|Q<|.goto l):Pre n L X (Exit.then K Q<|.goto l):=h
def C6 {x:Nat} (h:Pre n L X<|Q<|.goto l):Pre n L X (Exit.inBlock x Q<|.goto l):=h
def Di (h:Pre n L X J):Pre n L X (Exit.jump l J Q<|.goto l):=λa w k x=>⟨rfl,h a w k x⟩
def Mz (h:Pre n L X<|Q .ret):Pre n L X (Exit.jump l J Q .ret):=h
def C7 (h:Pre n L X<|Q .ret):Pre n L X (Exit.noGoto Q .ret):=h
def Xej (h:Fu Q):Fu (Exit.jump l J Q):=λc a d v w x=>h c a d v w x
end
end Go.Proofs.YtloldofjddbjoaaGreat
namespace Go.Sep
section tail
variable {P:d8} {ops:bM} {Q:aB} {md:Region.Mode} {S:aU} {T:bm}
def Hu (md:Region.Mode) (ops:bM) (T:bm):Bool:=T.all<|λt=>(List.range ops.size).all<|λi=>T.contains i||EN md ops i 8 t
def PF {listed:bz} (h:Hu md ops T) (e:EO md ops listed) {t i:Nat} (d:T.contains t) (hi:T.contains i=false) (z:i<ops.size) (c:t∈Region.ready md ops listed):listed.getD i false=true:=by
 have a:=rT.1 (rT.1 h t<|by simpa using d) i<|qm.2 z;rw[hi,Bool.false_or] at a;obtain⟨_,f,y,x⟩:=mem_ready.1 c;exact EP e 8 t a<|λo b=>by rw[y] at b; cases b; exact x
def Xeu {i:Nat} {g:Oper} {v:d0} (hi:ops[i]?=some g) (X:Hu md ops T) (J:T.contains i=false) (d:∀(j:Nat) (o:Oper) cs b,ops[j]?=some o->o.op≠.select cs b)
 (U:∀c a w,Q (.panic c) (a.put g.dst v) w->Q (.panic c) a w) :
 ∀(x:Nat) (listed:bz) (a:Act) (w:d7),EO md ops listed ->
  (∀j l,ops[j]?=some l->j≠i->listed.getD j true=false->(∀e∈l.after,Region.binds md e=true->e.on≠i)->g.apart ops l=true) ->
  i∈Region.ready md ops listed->YieldsIf P ops S g v a->S w ->
  Em P md ops Q S T x (listed.setIfInBounds i true) (a.put g.dst v) w->Em P md ops Q S T (x+1) listed a w:=by
 intro x
 induction x with
 |zero =>
  exact XdP
 |succ x ih =>
  intro listed a w u y m C s H;refine⟨λh=>uw,λj hj=>?_⟩;by_cases hji:j=i
  .subst hji; exact wS
  have p:=H.2 j (ready_mono hj hji);obtain⟨f,l,n,q⟩:=mem_ready.1 hj
  have A:listed.getD i false≠true:=λp=>by
   exact Xd7
  have t:∀e∈l.after,Region.binds md e=true->e.on≠i:=λe O V K=>A<|K▸q e O V
  have D:T.contains j=false:=by
   cases hc:T.contains j with
   |false=>rfl
   |true=>exact absurd (PF X u hc J (pY.1 hi).1 hj) A
  have N:=wpOp_putIf n (y j l n hji f t) (λcs b=>d i g cs b hi) (λcs b=>d j l cs b n) U C p
  have z:∀k ok,ops[k]?=some ok->k≠i->(listed.setIfInBounds j true).getD k true=false ->
   (∀e∈ok.after,Region.binds md e=true->e.on≠i)->g.apart ops ok=true:=λk ok R E r F=>by
   exact ZAG
  refine wpOp_mono (λM W B=>⟨B.2.1,ih (listed.setIfInBounds j true) M W (CA u hj) z (ready_mono m<|rQ hji) B.1 (B.2.1 D) ?_⟩) N;rw[Array.setIfInBounds_comm _ _ hji];exact B.2.2
end tail
def Xf9 {P:d8} {ops:bM} {Q:aB} {S:aU} {T:bm} {i:Nat} {y:Oper} {v:d0} {x:Nat} {listed:bz} {a:Act} {w:d7} (z:EO .any ops listed) (hi:ops[i]?=some y) (l:Hu .any ops T) (b:T.contains i=false)
 (g:Region.noSelect ops) (j:Region.free .any ops listed i) (e:(Region.ready .any ops listed).contains i)
 (f:∀c a w,Q (.panic c) (a.put y.dst v) w->Q (.panic c) a w) (k:YieldsIf P ops S y v a) (d:S w)
 (h:Em P .any ops Q S T x (listed.setIfInBounds i true) (a.put y.dst v) w):Em P .any ops Q S T (x+1) listed a w :=
 Xeu hi l b (Region.noSelect_spec g) f x listed a w z (Region.free_spec hi j) (by simpa using e) k d h
def Xa4 {P:d8} {ops:bM} {Q:aB} {S:aU} {T:bm} {i:Nat} {x:Nat} {listed:bz} {a:Act} {w:d7} (y:Region.ready .any ops listed=[i])
 (h:wpOp P ops Q i (λb z=>(T.contains i=false->S z)/\Em P .any ops Q S T x (listed.setIfInBounds i true) b z) a w):Em P .any ops Q S T (x+1) listed a w :=
 ⟨λc=>(by rw[c] at y; cases y),λj hj=>ZG0⟩
def E9 {P:d8} {ops:bM} {Q:aB} (p:Fu Q) {S:aU} {T:bm} (r:Hu .any ops T) (n:Region.noSelect ops):∀(y:List<|Nat×EA) (l:List<|Oper×EA) (listed:bz) (a:Act) (w:d7),
 l.map (λx=>some x.1)=y.map (λx=>ops[x.1]?)->l.map (·.2)=y.map (·.2)->Dy ops T y listed=true->EO .any ops listed->(S w\/(y.all<|λx=>match x.2 with|none=>true|_=>false)=true)->Q8 P ops Q S l a w->Em P .any ops Q S T y.length listed a w
 |[],l,listed,a,w,f,e,z,hcl,hS,b=>by
  exact ZDY
 |(i,q)::y,[],listed,a,w,f,e,z,hcl,hS,b=>by simp at f
 |(i,q)::y,(o,q')::l,listed,a,w,f,e,z,hcl,hS,b=>by
  simp only[qG,List.cons.injEq] at f e
  obtain⟨t,f⟩:=f
  obtain⟨rfl,e⟩:=e
  match q',e,z,hS,b with
  |some true,e,z,hS,b =>
   simp only[Dy,qW,rV] at z
   obtain⟨⟨⟨j,u⟩,m⟩,z⟩:=z
   have g:S w:=hS.resolve_right A3
   obtain⟨v,A,b⟩:=b
   have d:i∈Region.ready .any ops listed:=by simpa using m
   exact Xf9 hcl t.symm r j n u m (λc a w h=>p c a _ _ w h) A g (E9 p r n y l _ _ _ f e z XD (.inl g) b)
  |some false,e,z,hS,b =>
   simp only[Dy,qW,rS] at z
   obtain⟨m,z⟩:=z
   have g:S w:=hS.resolve_right A3
   have d:i∈Region.ready .any ops listed:=jC
   refine Xa4 m ?_
   unfold wpOp
   rw[<-t]
   simp only
   unfold Q8 at b
   split
   .rename_i hq
    rw[pN hq] at b
    exact .inl<|Oper.wp_mono (λa w h=>⟨λ_=>h.1,E9 p r n y l _ _ _ f e z XD (.inl h.1) h.2⟩) b
   .rename_i hq
    rw[pQ hq] at b
    exact⟨λ_=>g,E9 p r n y l _ _ _ f e z XD (.inl g) b⟩
  |none,e,z,hS,b =>
   simp only[Dy,qW,rS] at z
   obtain⟨⟨⟨j,m⟩,k⟩,z⟩:=z
   have d:i∈Region.ready .any ops listed:=jC
   refine Xa4 m ?_
   unfold wpOp
   rw[<-t]
   simp only
   unfold Q8 at b
   split
   .rename_i hq
    rw[pN hq] at b
    exact .inl<|Oper.wp_mono (λa w h=>⟨λs=>iJ,E9 p r n y l _ _ _ f e z XD (.inr k) h⟩) b
   .rename_i hq
    rw[pQ hq] at b
    exact⟨λs=>iJ,E9 p r n y l _ _ _ f e z XD (.inr k) b⟩
section region
variable {P:d8} {n:Nat} {L:Env} {X:aU} {Q:aB} {ops:bM}
def IS {m:Nat} {z:bv} (y:List<|Nat×EA) (T:bm) (l:List<|Oper×EA) (S:aU) (j:Fu Q) (hm:P.follows .mixedOrders) (i:Region.noSelect z.toArray) (o:Hu .any z.toArray T) (d:y.length=z.length)
 (f:l.map (λx=>some x.1)=y.map (λx=>z[x.1]?)) (e:l.map (·.2)=y.map (·.2)) (c:Dy z.toArray T y<|Array.replicate z.length false)
 (hd:Re X) (g:∀w,X w->S w) (h:Pre n L X<|Q8 P z.toArray Q S l):Pre n L X ((Code.region m z.toArray true).wp P Q):=λa w k x=>by
 refine wp_region_any hm<|Mx (S:=S) (T:=T) _ _ _ _ ?_
 have b:l.map (λx=>some x.1)=y.map (λx=>z.toArray[x.1]?):=by simpa using f
 rw[List.size_toArray,<-d]
 exact E9 j o i y l _ a _ b e (by rw[d]; exact c) (by rw[d]; simpa using Rb (ops:=z.toArray)) (.inl<|g _<|hd w _ x)<|h a _ k<|hd w _ x
end region
section anyC
variable {P:d8} {n:Nat} {L:Env} {X:aU} {Q:aB} {S:aU} {T:bm} {l:bv} {listed:bz} {k:Nat}
end anyC
section
variable {P:d8} {n:Nat} {L:Env} {X:aU} {o:Oper}
def zY {t u:d4} {x y:d5} {p q:ByteArray} (b:o.op=.binOp .add t x y u) (a:ev L x=some (.string p)) (c:ev L y=some (.string q)) (d:p.size+q.size<=9223372036854775807):MV P n L X o (.string<|p++q) :=
 DJ b a c (λw _=>by
  have h:(binOp .add t (.string p)<|.string q).run P w=.ok (.string<|p++q) w:=by
   have z:¬((p.size+q.size:Nat):Int)>IntKind.i64.max:=by
    exact ZFj
   show (Go.Op.stringOp .add p q).run P w=_
   unfold Go.Op.stringOp;simp only[pQ z]; rfl
  exact Fv rfl h)
end
def I.{u} {α:Sort u} {a:α}:a=a:=rfl
section short
variable {P:d8} {n:Nat} {L:Env} {X:aU} {Q:aB} {ops:bM} {o:Oper} {rest:bv} {restD:List (Oper×EA)} {S:aU} {v:d0} {d:Nat} {x:d5} {p:Addr}
def Lq (h:(o.dst,CL ops L o,d.blt n)=(some d,some true,true)) (x:MV P n L X o v) (k:Pre n ((d,v)::L) X<|Ol P ops Q rest):Pre n L X (Ol P ops Q<|o::rest):=by
 simp only[Prod.mk.injEq] at h;exact ZH h.1 x h.2.1 h.2.2 k
abbrev U:=@Lq
def Lm (h:(o.dst,o.op,ev L x,CL ops L o,d.blt n)=(some d,Op.move x,some v,some true,true)) (k:Pre n ((d,v)::L) X<|Ol P ops Q rest):Pre n L X (Ol P ops Q<|o::rest):=by
 simp only[Prod.mk.injEq] at h;exact ZH h.1 (AY h.2.1 h.2.2.1) h.2.2.2.1 h.2.2.2.2 k
abbrev r:=@Lm
def Nh (h:(o.dst,o.op,ev L x,CL ops L o,d.blt n)=(some d,Op.assign x,some v,some true,true)) (k:Pre n ((d,v)::L) X<|Ol P ops Q rest):Pre n L X (Ol P ops Q<|o::rest):=by
 simp only[Prod.mk.injEq] at h;exact ZH h.1 (Az h.2.1 h.2.2.1) h.2.2.2.1 h.2.2.2.2 k
def Lc (h:(o.dst,o.op,ev L x,CL ops L o,d.blt n)=(some d,Op.nilCheck x,some<|.pointer<|some p,some true,true)) (k:Pre n ((d,.pointer<|some p)::L) X<|Ol P ops Q rest):Pre n L X (Ol P ops Q<|o::rest):=by
 simp only[Prod.mk.injEq] at h;exact ZH h.1 (By h.2.1 h.2.2.1) h.2.2.2.1 h.2.2.2.2 k
def Dq (h:(o.dst,CL ops L o,d.blt n)=(some d,some true,true)) (x:MV P n L S o v) (k:Pre n ((d,v)::L) X<|Q8 P ops Q S restD):Pre n L X (Q8 P ops Q S<|(o,some true)::restD):=by
 simp only[Prod.mk.injEq] at h;exact aY h.1 x h.2.1 h.2.2 k
def Dm (h:(o.dst,o.op,ev L x,CL ops L o,d.blt n)=(some d,Op.move x,some v,some true,true)) (k:Pre n ((d,v)::L) X<|Q8 P ops Q S restD):Pre n L X (Q8 P ops Q S<|(o,some true)::restD):=by
 simp only[Prod.mk.injEq] at h;exact aY h.1 (AY h.2.1 h.2.2.1) h.2.2.2.1 h.2.2.2.2 k
def Sz (h:(o.dst,o.op,ev L x,CL ops L o,d.blt n)=(some d,Op.assign x,some v,some true,true)) (k:Pre n ((d,v)::L) X<|Q8 P ops Q S restD):Pre n L X (Q8 P ops Q S<|(o,some true)::restD):=by
 simp only[Prod.mk.injEq] at h;exact aY h.1 (Az h.2.1 h.2.2.1) h.2.2.2.1 h.2.2.2.2 k
def Dc (h:(o.dst,o.op,ev L x,CL ops L o,d.blt n)=(some d,Op.nilCheck x,some<|.pointer<|some p,some true,true)) (k:Pre n ((d,.pointer<|some p)::L) X<|Q8 P ops Q S restD):Pre n L X (Q8 P ops Q S<|(o,some true)::restD):=by
 simp only[Prod.mk.injEq] at h;exact aY h.1 (By h.2.1 h.2.2.1) h.2.2.2.1 h.2.2.2.2 k
def Cr {x:Nat} {l:bv} (y:ops=l.toArray) (h:Pre n L X<|Ol P ops Q l):Pre n L X ((Code.region x ops false).wp P Q):=Xa0 l y h
def Cs {x:Nat} {l:bv} {c:Code} (y:ops=l.toArray) (h:Pre n L X<|Ol P ops (Exit.then (c.wp P Q) Q) l):Pre n L X ((Code.seq (Code.region x ops false) c).wp P Q):=Ad<|Xa0 l y h
abbrev Y:=@Cs
def Kt {K:aO} (h:Pre n L X K):Pre n L X (Exit.then K Q .normal):=h
def Ks {c e:Code} (h:Pre n L X<|c.wp P<|Exit.then (e.wp P Q) Q):Pre n L X (Exit.then ((Code.seq c e).wp P Q) Q .normal):=Mu<|Ad h
def Nk {K:aO} (h:Pre n L X K):Pre n L X (Ol P ops (Exit.then K Q) []):=AE<|Mu h
abbrev G:=@Nk
def Ns {c e:Code} (h:Pre n L X<|c.wp P<|Exit.then (e.wp P Q) Q):Pre n L X (Ol P ops (Exit.then ((Code.seq c e).wp P Q) Q) []):=AE<|Mu<|Ad h
def Ak {K:aO} (h:(o.dst,o.op,ev L x,CL ops L o,d.blt n)=(some d,Op.assign x,some v,some true,true)) (k:Pre n ((d,v)::L) X K):Pre n L X (Ol P ops (Exit.then K Q) [o]):=Nh h<|AE<|Mu k
abbrev A:=@Ak
def Sb {F:aO} (t:Nat) (c:Bool) {b:Bool} (x:look L t=some (.bool b)) (e:b=c) (h:Pre n ((t,.bool c)::L) X F):Pre n L X F:=Pre.setB x e h
def LH {F:aO} (t:Nat) (c:d0) {b:d0} (x:look L t=some b) (e:b=c) (h:Pre n ((t,c)::L) X F):Pre n L X F:=Pre.XlI x e h
def Ob {w0:d7} {D:bm} {H:ci} {e:Nr} (i:Nat) (hi:H[i]?=some e):∀w,St w0 D H w->e.at w:=λ_ h=>h.at i hi
def SN {w0:d7} {D:bm} {H:ci} {α:Type} {v:d0} {t:d4} {E:Enc α} {l:List α} (i:Nat) (hi:H[i]?=some (AG v t E l)):∀w,St w0 D H w->Ec w v E l:=λ_ h=>h.rd i hi
abbrev O:EA:=some true
abbrev V:EA:=some false
abbrev W:EA:=none
def D8 {c:Nat} {z:bv} (y:List<|Nat×EA) (T:bm) (l:List<|Oper×EA) (S:aU) (hm:P.follows .mixedOrders) (d:y.length=z.length)
 (e:l.map (λx=>some x.1)=y.map (λx=>z[x.1]?)) (i:l.map (·.2)=y.map (·.2)) (hd:Re X) (f:∀w,X w->S w) (h:Pre n L X<|Q8 P z.toArray Q S l) (b:Fu Q:=by repeat (first|exact BO|refine Bg ?_|refine Cn ?_)) (g:Region.noSelect z.toArray=true:=by kernel_rfl) (j:Hu .any z.toArray T=true:=by kernel_rfl) (a:Dy z.toArray T y (Array.replicate z.length false)=true:=by kernel_rfl):Pre n L X ((Code.region c z.toArray true).wp P Q):=IS y T l S b hm g j d e i a hd f h
def B4:(∀(p:Prop) [Decidable p],(decide p=true)=p)/\(∀(p:Prop) [Decidable p],(decide p=false)=¬p)/\(∀b:Bool,((!b)=true)=(b=false))/\(∀b:Bool,((!b)=false)=(b=true)):=⟨λp _=>j,λp _=>j,λb=>j,λb=>j⟩
def Ih {α:Type} {p:α->Prop}:∀w,p w->p w:=λ_ h=>h
def Tt {α:Type} {p:α->Prop}:∀w,p w->True:=λ_ _=>trivial
def H2 {w0:d7} {D:bm} {H:ci} {e f:Nr} (i j:Nat) (h:(H[i]?,H[j]?)=(some e,some f)):∀w,St w0 D H w->e.at w/\f.at w:=λ_ x=>by
 simp only[Prod.mk.injEq] at h
 exact⟨x.at i h.1,x.at j h.2⟩
def Sn {t:Nat} {v:d0} {A B:Env} (x:look B t=some v) (h:Sub A B):Sub ((t,v)::A) B:=Sub.cons x h
def EJ {s:d4} {i b off:Nat} {fs:List Field} {f:Field} {sz:Nat} (a:P.underlying s=some (.struct fs.toArray)) (h:(o.dst,o.op,fs[i]?,ev L x,CL ops L o,d.blt n)=(some d,Op.fieldAddr s x i,some f,some<|.pointer<|some ⟨b,off,none⟩,some true,true)) (z:∀w,(sizeOf f.type).run P w=.ok sz w) (y:sz.beq 0=false) (k:Pre n ((d,.pointer<|some ⟨b,off+f.offset,none⟩)::L) X<|Ol P ops Q rest):Pre n L X (Ol P ops Q<|o::rest):=by
 simp only[Prod.mk.injEq] at h;exact ZH h.1 (AU h.2.1 a h.2.2.1 z y h.2.2.2.1) h.2.2.2.2.1 h.2.2.2.2.2 k
abbrev N:=@EJ
def Ht {s:d4} {i b off:Nat} {fs:List Field} {f:Field} {sz:Nat} (a:P.underlying s=some (.struct fs.toArray)) (h:(o.dst,o.op,fs[i]?,ev L x,CL ops L o,d.blt n)=(some d,Op.fieldAddr s x i,some f,some<|.pointer<|some ⟨b,off,none⟩,some true,true)) (z:∀w,(sizeOf f.type).run P w=.ok sz w) (y:sz.beq 0=false) (k:Pre n ((d,.pointer<|some ⟨b,off+f.offset,none⟩)::L) X<|Q8 P ops Q S restD):Pre n L X (Q8 P ops Q S<|(o,some true)::restD):=by
 simp only[Prod.mk.injEq] at h;exact aY h.1 (AU h.2.1 a h.2.2.1 z y h.2.2.2.1) h.2.2.2.2.1 h.2.2.2.2.2 k
def Lo {w0:d7} {D:bm} {H:ci} {t T:d4} {b off:Nat} {cs:bi} (y:∀w,(isAgg t).run P w=.ok false w) (i:Nat) (h:(o.dst,o.op,ev L x,H[i]?,cs[off]?,CL ops L o,d.blt n)=(some d,Op.load t x,some<|.pointer<|some ⟨b,off,none⟩,some<|Ac b T cs,some v,some true,true)) (k:Pre n ((d,v)::L) (St w0 D H)<|Ol P ops Q rest):Pre n L (St w0 D H) (Ol P ops Q<|o::rest):=by
 simp only[Prod.mk.injEq] at h;exact ZH h.1 (Aj h.2.1 y h.2.2.1 (λ_ x=>x.at i h.2.2.2.1) h.2.2.2.2.1) h.2.2.2.2.2.1 h.2.2.2.2.2.2 k
section any
variable {l:bv} {listed:bz} {k:Nat} {T:bm}
def Aq (i:Nat) (hi:(l[i]?,o.dst,CL l.toArray L o,d.blt n)=(some o,some d,some true,true)) (x:∀w,X w->S w) (b:MV P n L S o v)
 (h:Pre n ((d,v)::L) X<|wpAnyH P .any l.toArray Q S k<|listed.setIfInBounds i true) (y:Fu Q:=by repeat (first|exact BO|refine Bg ?_|refine Cn ?_)) (c:Region.noSelect l.toArray=true:=by kernel_rfl) (a:Region.free .any l.toArray listed i=true:=by kernel_rfl) (z:(Region.ready .any l.toArray listed).contains i=true:=by kernel_rfl):Pre n L X (wpAnyH P .any l.toArray Q S (k+1) listed):=by
 simp only[Prod.mk.injEq] at hi;exact a_q y i hi.1 c a z x hi.2.1 b hi.2.2.1 hi.2.2.2 h
end any
end short
section short
variable {P:d8} {n:Nat} {L:Env} {X:aU} {Q:aB} {ops:bM} {o:Oper} {rest:bv} {restD:List (Oper×EA)} {S:aU} {v u:d0} {d:Nat} {x y z:d5} {t s:d4} {K:aO} {w0:d7} {D:bm} {H:ci} {k:d6} {p q:Int} {F:aO} {b:Bool}
def Ey {f:Nat} {fn:Func} {c:Code} {vs:bi} {w:d7} {R:Ending->aU} (y:P.funcs[f]?=some fn) (x:(fn.body,fn.ntmps,vs.length.ble n)=(some c,n,true)) (z:HP H w) (h:Pre n (Ju 0 vs) (St w (dom H) H)<|c.wp P<|bodyPost P fn R):Calls P f vs.toArray w R:=by
 simp only[Prod.mk.injEq] at x;exact enter (St w (dom H) H) y x.1 x.2.1 x.2.2 (St.init z) h
def E0 {f:Nat} {fn:Func} {c:Code} {vs:bi} {w:d7} {R:Ending->aU} (y:P.funcs[f]?=some fn) (x:(fn.body,fn.ntmps,vs.length.ble n)=(some c,n,true)) (z:HP [] w) (h:Pre n (Ju 0 vs) (St w [] [])<|c.wp P<|bodyPost P fn R):Calls P f vs.toArray w R:=by
 simp only[Prod.mk.injEq] at x;exact enter (St w [] []) y x.1 x.2.1 x.2.2 (St.init z) h
def Ce {b:Nat} {cs:bi} (cs':bi) (h:cs=cs') (k:Pre n L (St w0 D<|Ac b t cs'::H) F):Pre n L (St w0 D<|Ac b t cs::H) F:=Bb h k
abbrev M:=@Ce
def Pw (X':aU) (h:Pre n L X' F) (s:∀w,X w->X' w:=by exact λ_ h=>h):Pre n L X F:=h.world _ s
def Qe (h:(o.op,ev L x,ev L y)=(.binOp .eql t x y s,some<|.int k p,some<|.int k q)):MV P n L X o (.bool<|decide (p=q)):=by simp only[Prod.mk.injEq] at h; exact ij h.1 h.2.1 h.2.2
def Qn (h:(o.op,ev L x,ev L y)=(.binOp .neq t x y s,some<|.int k p,some<|.int k q)):MV P n L X o (.bool<|!decide (p=q)):=by simp only[Prod.mk.injEq] at h; exact ik h.1 h.2.1 h.2.2
def Ql (h:(o.op,ev L x,ev L y)=(.binOp .lss t x y s,some<|.int k p,some<|.int k q)):MV P n L X o (.bool<|decide (p<q)):=by simp only[Prod.mk.injEq] at h; exact il h.1 h.2.1 h.2.2
def Qg (h:(o.op,ev L x,ev L y)=(.binOp .geq t x y s,some<|.int k p,some<|.int k q)):MV P n L X o (.bool<|decide (q<=p)):=by simp only[Prod.mk.injEq] at h; exact im h.1 h.2.1 h.2.2
def Qt (h:(o.op,ev L x)=(.unOp .not t x,some<|.bool b)):MV P n L X o (.bool<|!b):=by simp only[Prod.mk.injEq] at h; exact Xc3 h.1 h.2
def Qy (h:(o.op,ev L x,ev L y)=(.pick x y z,some<|.bool true,some v)):MV P n L X o v:=by simp only[Prod.mk.injEq] at h; exact Rg h.1 h.2.1 h.2.2
def Qz (h:(o.op,ev L x,ev L z)=(.pick x y z,some<|.bool false,some v)):MV P n L X o v:=by simp only[Prod.mk.injEq] at h; exact Xa1 h.1 h.2.1 h.2.2
def Qi {p:Nat} (h:(o.op,ev L x,ev L y)=(.binOp .add t x y s,some<|aa (p:Int),some<|aa 1)) (z:p<9223372036854775807:=by omega):MV P n L X o (aa ((p+1:Nat):Int)):=by simp only[Prod.mk.injEq] at h; exact Xkx h.1 h.2.1 h.2.2 z
def Qx {i:Nat} {vs:bi} (h:(o.op,ev L x,vs[i]?)=(.extract x i,some<|.tuple vs.toArray,some v)):MV P n L X o v:=by simp only[Prod.mk.injEq] at h; exact BB h.1 h.2.1 h.2.2
def Cq {T:d4} {b off sz:Nat} {cs:bi} (vs:bi) (z:∀w,(isAgg t).run P w=.ok true w) (a:∀w,(sizeOf t).run P w=.ok sz w) (j:Nat) (h:(o.op,ev L x,H[j]?)=(.load t x,some<|.pointer<|some ⟨b,off,none⟩,some<|Ac b T cs)) (y:(cs.drop off).take sz=vs) (c:vs.length=sz):MV P n L (St w0 D H) o (.agg vs.toArray):=by
 simp only[Prod.mk.injEq] at h;exact AH vs h.1 z a h.2.1 (λ_ x=>x.at j h.2.2) y c
def SA {T:d4} {b off sz:Nat} {cs vs:bi} (c:∀w,(sizeOf t).run P w=.ok sz w) (z:(o.op,o.dst,ev L x,ev L y,vs.length,(off+vs.length).ble cs.length)=(.store t x y,none,some<|.pointer<|some ⟨b,off,none⟩,some<|.agg vs.toArray,sz,true)) (a:∀v∈vs,v.oneCell'=true)
 (h:Pre n L (St w0 D<|Ac b T (splice cs off vs)::H) K):Nl P n L (St w0 D<|Ac b T cs::H) o Q K:=by
 simp only[Prod.mk.injEq] at z;exact AF z.1 z.2.1 c z.2.2.1 z.2.2.2.1 z.2.2.2.2.1 a (rO z.2.2.2.2.2) h
def Sf {a:Prop} [Decidable a] (t:Nat) (x:look L t=some (.bool<|decide a)) (e:¬a) (h:Pre n ((t,.bool false)::L) X F):Pre n L X F:=Pre.setB x (sS e) h
def Yf {a:Prop} [Decidable a] (t:Nat) (x:look L t=some (.bool<|decide a)) (e:a) (h:Pre n ((t,.bool true)::L) X F):Pre n L X F:=Pre.setB x (sT e) h
def Rl (H:ci):bm->Option (ci)
 |[]=>some H
 |i::l=>match H[i]? with
  |some x=>match Rl (H.eraseIdx i) l with
   |some r=>some (x::r)
   |none=>none
  |none=>none
def Xbj:∀{H:ci} {i:Nat} {x:Nr},H[i]?=some x->H.Perm (x::H.eraseIdx i)
 |[],i,x,h=>yF
 |y::H,0,x,h=>by simp at h; subst h; exact sU _
 |y::H,i+1,x,h=>((Xbj (H:=H) (i:=i) (x:=x) sv).cons y).trans<|List.Perm.swap x y _
def MA:∀{l:bm} {H y:ci},Rl H l=some y->H.Perm y
 |[],H,y,h=>by cases h; exact sU _
 |i::l,H,y,h=>by
  unfold Rl at h
  cases hx:H[i]? with
  |none=>rw[hx] at h; cases h
  |some x =>
   rw[hx] at h
   dsimp only at h
   cases hr:Rl (H.eraseIdx i) l with
   |none=>rw[hr] at h; cases h
   |some r =>
    rw[hr] at h
    cases h
    have z:=MA hr
    exact (Xbj hx).trans<|z.cons _
def Pm {x:ci} (l:bm) (y:Rl H l=some x) (h:Pre n L (St w0 D x) F):Pre n L (St w0 D H) F:=h.world _<|λ_ s=>s.perm<|MA y
def Ee {β:Type} {v:β->d0} {p:β->Prop} {E:aU} {HA:ci} {HB:β->ci} {f:FuncId} {xs:bx} {c:ca} {d:Nat} {vs:bi} (pre:ci) (s:Df P f vs E HA v p HB)
 (y:(o.op,o.dst,d.blt n,evs L xs)=(.call ⟨.value<|.func f,xs.toArray,c⟩,some d,true,some vs)) (a:∀us w,(callFunc f us).run P w=.ok (.enter f us) w) (z:∀w,St w0 D (pre++HA) w->E w) (h:∀b,p b->Pre n ((d,v b)::L) (St w0 D<|pre++HB b) K):Nl P n L (St w0 D<|pre++HA) o Q K:=by
 simp only[Prod.mk.injEq] at y;exact DA y.1 y.2.1 y.2.2.1 a y.2.2.2 yL h
def E1 {β:Type} {v:β->d0} {p:β->Prop} {E:aU} {f:FuncId} {xs:bx} {c:ca} {d:Nat} {vs:bi} (s:Df P f vs E [] v p<|λ_=>[])
 (y:(o.op,o.dst,d.blt n,evs L xs)=(.call ⟨.value<|.func f,xs.toArray,c⟩,some d,true,some vs)) (a:∀us w,(callFunc f us).run P w=.ok (.enter f us) w) (z:∀w,St w0 D H w->E w) (h:∀b,p b->Pre n ((d,v b)::L) (St w0 D H) K):Nl P n L (St w0 D H) o Q K:=by
 simp only[Prod.mk.injEq] at y;exact DA y.1 y.2.1 y.2.2.1 a y.2.2.2 (λw x=>(s.frame (F:=H) x<|z w x).mono<|λe w' ⟨b,he,hp,h'⟩=>⟨b,he,hp,h'⟩) h
def kq:Nat->Nat->List EA
 |0,_=>[]
 |n+1,c=>(if c%3=0 then some true else if c%3=1 then some false else none)::kq n (c/3)
def fH (l0:bv):bm->List EA->Option (List<|Oper×EA)
 |[],[]=>some []
 |i::is,k::ks=>match l0[i]? with
  |some o=>match fH l0 is ks with
   |some r=>some ((o,k)::r)
   |none=>none
  |none=>none
 |_,_=>none
def TB {y:bv}:∀{is:bm} {ks:List EA} {l:List<|Oper×EA},fH y is ks=some l->l.map (λx=>some x.1)=(is.zip ks).map (λx=>y[x.1]?)/\l.map (·.2)=(is.zip ks).map (·.2)
 |[],[],l,h=>by cases h; exact⟨rfl,rfl⟩
 |i::is,k::ks,l,h=>by
  unfold fH at h
  cases hx:y[i]? with
  |none=>rw[hx] at h; cases h
  |some o =>
   rw[hx] at h
   dsimp only at h
   cases hr:fH y is ks with
   |none=>rw[hr] at h; cases h
   |some r =>
    rw[hr] at h
    cases h
    obtain⟨z,a⟩:=TB hr
    exact⟨by simp[hx,z],by simp[a]⟩
 |[],k::ks,l,h=>wU
 |i::is,[],l,h=>wU
abbrev tz (is:bm) (ks:List EA):bm:=((is.zip ks).filter<|λx=>x.2.isNone).map (·.1)
def LZ {b:Nat} {x:bv} {l:List<|Oper×EA} (is:bm) (c:Nat) (S:aU) (y:(P.follows .mixedOrders,(is.zip<|kq is.length c).length,fH x is<|kq is.length c)=(true,x.length,some l)) (hd:Re X) (d:∀w,X w->S w) (h:Pre n L X<|Q8 P x.toArray Q S l) (a:Fu Q:=by repeat (first|exact BO|refine Bg ?_|refine Cn ?_)) (e:Region.noSelect x.toArray=true:=by kernel_rfl) (f:Hu .any x.toArray (tz is<|kq is.length c)=true:=by kernel_rfl) (z:Dy x.toArray (tz is<|kq is.length c) (is.zip<|kq is.length c) (Array.replicate x.length false)=true:=by kernel_rfl):Pre n L X ((Code.region b x.toArray true).wp P Q):=by
 simp only[Prod.mk.injEq] at y;exact IS _ _ l S a y.1 e f y.2.1 (TB y.2.2).1 (TB y.2.2).2 z hd d h
abbrev rg:Nat->bm:=List.range
def Si:∀{x L:Env},x.map (λp=>look L p.1)=x.map (λp=>some p.2)->Sub x L
 |[],_,_=>Sub.nil
 |(i,v)::x,L,h=>by
  simp only[qG,List.cons.injEq] at h
  exact Sub.cons h.1<|Si h.2
class BD (b:Bool) (p q:outParam Prop):Prop where
 t:b=true->p
 f:b=false->q
instance (priority:=100) {b:Bool}:BD b (b=true) (b=false):=⟨id,id⟩
instance {p:Prop} [Decidable p]:BD (decide p) p (¬p):=⟨sW,of_decide_eq_false⟩
instance (priority:=500) {b:Bool}:BD (!b) (b=false) (b=true):=⟨λh=>(by simpa using h),λh=>(by simpa using h)⟩
instance {p:Prop} [Decidable p]:BD (!decide p) (¬p) p:=⟨λh=>(by simpa using h),λh=>(by simpa using h)⟩
def CB {b:Bool} {p q:Prop} [i:BD b p q] (t:Nat) (y:look L t=some (.bool b)) (x:p->Pre n ((t,.bool true)::L) X F) (z:q->Pre n ((t,.bool false)::L) X F):Pre n L X F:=Pre.PY t y (λh=>x<|i.t h)<|λh=>z<|i.f h
abbrev B:=@CB
def Ap {α:Type} {E:Enc α} {l m:List α} {v b z:d0} {s x:d5} {t tx e e':d4} {i:TypeInfo} {d:Nat} (r:P.underlying t=some (.slice e)) (y:P.underlying tx=some (.slice e')) (hi:P.info? e=some i) (a:(o.op,o.dst,d.blt n,i.size,i.zero,z.cells.size,ev L s,ev L x,i.bytes.ble 1024)=(.call ⟨.builtin .append,#[s,x],#[t,tx]⟩,some d,true,E.sz,some z,E.sz,some v,some b,true)) (p:∀w,St w0 D (AG v e E l::H) w->Ec w b E m) (c:l.length+m.length<=137438953472)
 (h:∀v',Pre n ((d,v')::L) (St w0 D<|AG v' e E (l++m)::H) K):Nl P n L (St w0 D<|AG v e E l::H) o Q K:=by
 simp only[Prod.mk.injEq] at a;obtain⟨j,g,k,A,f,C,u,B,q⟩:=a;exact B0 j g k r y hi A f C u B p (qM (Nat.mul_le_mul c<|rO q) A2) (qM c A2) h
def Xef {p:Prop} [Decidable p] (h:¬p:=by omega):decide p=false:=sS h
def Dt {p:Prop} [Decidable p] (h:p:=by omega):decide p=true:=sT h
abbrev Tr {α:Type}:α->Prop:=λ_=>True
abbrev Eb (b:Bool):Ending:=.returned<|.bool b
abbrev Ei (z:Int):Ending:=.returned<|aa z
def Hb {e:Nr} {α:Type} {v:d0} {t:d4} {E:Enc α} {l:List α} (i j:Nat) (h:(H[i]?,H[j]?)=(some e,some<|AG v t E l)):∀w,St w0 D H w->e.at w/\Ec w v E l:=λ_ x=>by
 simp only[Prod.mk.injEq] at h
 exact⟨x.at i h.1,x.rd j h.2⟩
def Hc {e f g:Nr} (i j k:Nat) (h:(H[i]?,H[j]?,H[k]?)=(some e,some f,some g)):∀w,St w0 D H w->e.at w/\f.at w/\g.at w:=λ_ x=>by
 simp only[Prod.mk.injEq] at h
 exact⟨x.at i h.1,x.at j h.2.1,x.at k h.2.2⟩
def Ec.kp {α:Type} {v:d0} {E:Enc α} {l:List α} (h:Ec w0 v E l) (x:blk v∉D:=by simp[dom]):∀w,St w0 D H w->Ec w v E l:=λ_ s=>h.keep s x
def SW {T:d4} {b sz:Nat} {cs vs:bi} (k:∀w,(sizeOf t).run P w=.ok sz w) (z:(o.op,o.dst,ev L x,ev L y,vs.length,vs.length.ble cs.length,cs.length.ble vs.length)=(.store t x y,none,some<|.pointer<|some ⟨b,0,none⟩,some<|.agg vs.toArray,sz,true,true)) (a:∀v∈vs,v.oneCell'=true) (h:Pre n L (St w0 D<|Ac b T vs::H) K):Nl P n L (St w0 D<|Ac b T cs::H) o Q K:=by
 simp only[Prod.mk.injEq] at z;obtain⟨j,i,c,g,d,l,f⟩:=z;have e:vs.length=cs.length:=Nat.le_antisymm (rO l)<|rO f;exact AF j i k c g d a A1<|Bb (by rw[Vf _ _ _ A1]; simp[e]) h
abbrev pV (b:Nat):d0:=.pointer<|some ⟨b,0,none⟩
def gE {α:Type} (l:List α) (i:Nat) (h:i<l.length:=by omega):∃x,l[i]?=some x:=⟨_,pE h⟩
def T0:True:=trivial
def Hd {e:Nr} {p:aU} (i:Nat) (h:H[i]?=some e) (k:∀w,St w0 D H w->p w):∀w,St w0 D H w->e.at w/\p w:=λw s=>⟨s.at i h,k w s⟩
def U4 (L:Env):Op->Option d0
 |.move x=>ev L x
 |.assign x=>ev L x
 |.nilCheck x=>match ev L x with
  |some (.pointer<|some a)=>some (.pointer<|some a)
  |_=>none
 |.extract x i=>match ev L x with
  |some (.tuple vs)=>vs.toList[i]?
  |_=>none
 |.pick c x y=>match ev L c with
  |some (.bool true)=>ev L x
  |some (.bool false)=>ev L y
  |_=>none
 |.unOp .not _ x=>match ev L x with
  |some (.bool b)=>some (.bool<|!b)
  |_=>none
 |.binOp .eql _ x y _=>match ev L x,ev L y with
  |some (.int k p),some (.int k' q)=>if k=k' then some (.bool<|decide (p=q)) else none
  |_,_=>none
 |.binOp .neq _ x y _=>match ev L x,ev L y with
  |some (.int k p),some (.int k' q)=>if k=k' then some (.bool<|!decide (p=q)) else none
  |_,_=>none
 |.binOp .lss _ x y _=>match ev L x,ev L y with
  |some (.int k p),some (.int k' q)=>if k=k' then some (.bool<|decide (p<q)) else none
  |_,_=>none
 |.binOp .geq _ x y _=>match ev L x,ev L y with
  |some (.int k p),some (.int k' q)=>if k=k' then some (.bool<|decide (q<=p)) else none
  |_,_=>none
 |_=>none
def Xa5 {L:Env} {v:d0} (h:U4 L o.op=some v):MV P n L X o v:=by
 unfold U4 at h;split at h
 .rename_i e; exact AY e h
 .rename_i e; exact Az e h
 .rename_i e; split at h
  .rename_i a; cases h; exact By e a
  cases h
 .rename_i e; split at h
  .rename_i vs a;obtain⟨l⟩:=vs;exact BB e a h
  cases h
 .rename_i e; split at h
  .rename_i a; exact Rg e a h
  .rename_i a; exact Xa1 e a h
  cases h
 .rename_i e; split at h
  .rename_i a; cases h; exact Xc3 e a
  cases h
 any_goals (cases h; done)
 all_goals
  rename_i e; split at h
  .rename_i a b; split at h
   .rename_i hk; subst hk; cases h; first|exact ij e a b|exact ik e a b|exact il e a b|exact im e a b
   cases h
  cases h
def oZ (ops:bM) (n:Nat):Nat->bv->Env->Option (bv×Env)
 |0,r,L=>some (r,L)
 |_+1,[],_=>none
 |k+1,o::r,L=>match o.dst,CL ops L o,U4 L o.op with
  |some d,some true,some v=>if d.blt n=true then oZ ops n k r ((d,v)::L) else none
  |some d,some false,_=>if d.blt n=true then oZ ops n k r ((d,undef)::L) else none
  |_,_,_=>none
def PG:∀(k:Nat) {r r':bv} {L x:Env},oZ ops n k r L=some (r',x)->Pre n x X (Ol P ops Q r')->Pre n L X (Ol P ops Q r)
 |0,r,r',L,x,h,g=>by cases h; exact g
 |k+1,[],r',L,x,h,g=>wU
 |k+1,o::r,r',L,x,h,g=>by
  unfold oZ at h
  split at h
  .rename_i d v h1 h2 h3
   split at h
   .rename_i hd; exact ZH h1 (Xa5 h3) h2 hd<|PG k h g
   .cases h
  .rename_i d v h1 h2
   split at h
   .rename_i hd; exact XkO h1 h2 hd<|PG k h g
   .cases h
  .cases h
def Mv (k:Nat) {r r':bv} {L x:Env} (h:oZ ops n k r L=some (r',x)) (g:Pre n x X<|Ol P ops Q r'):Pre n L X (Ol P ops Q r):=PG k h g
abbrev C:=@Mv
def YF (ops:bM) (n:Nat):Nat->List (Oper×EA)->Env->Option (List (Oper×EA)×Env)
 |0,r,L=>some (r,L)
 |_+1,[],_=>none
 |k+1,(o,q)::r,L=>match q,o.dst,CL ops L o,U4 L o.op with
  |some true,some d,some true,some v=>if d.blt n=true then YF ops n k r ((d,v)::L) else none
  |_,some d,some false,_=>if d.blt n=true then YF ops n k r ((d,undef)::L) else none
  |_,_,_,_=>none
def PH:∀(k:Nat) {r r':List<|Oper×EA} {L x:Env},YF ops n k r L=some (r',x)->Pre n x X (Q8 P ops Q S r')->Pre n L X (Q8 P ops Q S r)
 |0,r,r',L,x,h,g=>by cases h; exact g
 |k+1,[],r',L,x,h,g=>wU
 |k+1,(o,q)::r,r',L,x,h,g=>by
  unfold YF at h
  split at h
  .rename_i d v h1 h2 h3
   split at h
   .rename_i hd; exact aY h1 (Xa5 h3) h2 hd<|PH k h g
   .cases h
  .rename_i d v h1 h2 h3
   split at h
   .rename_i hd; exact l4 Yo Yo hd<|PH k h g
   .cases h
  .cases h
def Md (k:Nat) {r r':List<|Oper×EA} {L x:Env} (h:YF ops n k r L=some (r',x)) (g:Pre n x X<|Q8 P ops Q S r'):Pre n L X (Q8 P ops Q S r):=PH k h g
section any
variable {l:bv} {listed:bz} {k:Nat}
def Ay {y:Oper} (x:Nat) (h:(l[x]?,CL l.toArray L y)=(some y,some true)) (a:Nl P n L X y Q<|GN P l Q S k listed x) (z:Region.ready .any l.toArray listed=[x]:=by kernel_rfl):Pre n L X (wpAnyH P .any l.toArray Q S (k+1) listed):=by
 simp only[Prod.mk.injEq] at h;exact Xj2 x z h.1 h.2 a
def QZ {a z:Oper} (x y:Nat) (h:(l[x]?,l[y]?,CL l.toArray L a,CL l.toArray L z)=(some a,some z,some true,some true)) (c:Nl P n L X a Q<|GN P l Q S k listed x) (d:Nl P n L X z Q<|GN P l Q S k listed y) (b:Region.ready .any l.toArray listed=[x,y]:=by kernel_rfl):Pre n L X (wpAnyH P .any l.toArray Q S (k+1) listed):=by
 simp only[Prod.mk.injEq] at h;exact Xj3 x y b h.1 h.2.1 h.2.2.1 h.2.2.2 c d
def An (h:Pre n L X<|Q .normal) (x:Region.ready .any l.toArray listed=[]:=by kernel_rfl):Pre n L X (wpAnyH P .any l.toArray Q S k listed):=l5 x h
end any
end short
end Go.Sep
namespace Go.Proofs.YtloldofjddbjoaaGreat
open Tryz
abbrev Pn:=@underlying77
abbrev Z3:=@sizeOf3
abbrev G3:=@isAgg3
abbrev MW:=@sizeOf77
abbrev UW:=@sizeOf75
abbrev ZT:=@underlying75
abbrev Z5:=@sizeOf5
abbrev O7:=@underlying23
abbrev OO:=@isAgg77
abbrev U9:=@underlying9
abbrev U5:=@underlying5
abbrev BR:=@underlying154
abbrev O6:=@sizeOf56
abbrev Tz:=@isAgg56
abbrev Qb:=@sizeOf41
abbrev Xa:=@isAgg41
abbrev Ck:=@isAgg154
abbrev Bi:=@sizeOf154
abbrev VX:=@underlying56
abbrev KI:=@underlying22
abbrev MB:=@underlying277
abbrev Gm:=@underlying255
abbrev FT:=@sizeOf277
abbrev PI:=@isAgg277
abbrev O8:=@underlying49
abbrev Qc:=@sizeOf79
abbrev CZ:=@underlying132
abbrev BH:=@underlying133
abbrev U3:=@underlying3
abbrev Dj:=@underlying257
abbrev ZW:=@sizeOf89
abbrev ZU:=@underlying89
abbrev F4:=@sizeOf253
abbrev GO:=@isAgg253
abbrev Fx:=@underlying253
abbrev Er:=@sizeOf259
abbrev Ej:=@underlying259
abbrev KK:=@sizeOf255
abbrev PJ:=@isAgg255
abbrev Wu:=@sizeOf254
abbrev TC:=@underlying254
abbrev Oi:=@underlying379
abbrev Bj:=@underlying135
abbrev RQ:=@sizeOf49
abbrev UN:=@isAgg49
abbrev OQ:=@sizeOf22
abbrev Pq:=@isAgg22
abbrev Eo:=@sizeOf132
abbrev H6:=@isAgg132
abbrev DS:=@sizeOf133
abbrev Fy:=@isAgg133
abbrev AV:=@isAgg135
abbrev AK:=@sizeOf135
abbrev JA:=@underlying284
abbrev Z4:=@sizeOf4
abbrev G4:=@isAgg4
abbrev YG:=@underlying198
abbrev TE:=@underlying324
abbrev Rj:=@underlying79
abbrev Yc:=@isAgg79
abbrev Ro:=@underlying365
abbrev LV:=@underlying366
abbrev Ji:=@underlying363
abbrev Xem:=@isAgg361
abbrev Y6:=@underlying41
abbrev G5:=@isAgg5
abbrev dI:=@underlying270
abbrev YH:=@underlying392
abbrev YI:=@underlying393
abbrev JB:=@underlying330
abbrev PK:=@underlying161
abbrev Ww:=@sizeOf159
abbrev De:=@underlying159
abbrev YJ:=@underlying158
abbrev Wy:=@underlying241
abbrev Fa:=@underlying200
abbrev Jj:=@sizeOf241
abbrev ET:=@underlying275
abbrev Jk:=@sizeOf200
abbrev Oj:=@isAgg200
abbrev Pz:=@underlying91
abbrev Xe:=@sizeOf87
abbrev Xb:=@isAgg87
abbrev SS:=@sizeOf86
abbrev TW:=@isAgg86
abbrev Yh:=@sizeOf88
abbrev Y7:=@underlying88
abbrev BS:=@underlying226
abbrev B1:=@underlying229
abbrev JC:=@sizeOf177
abbrev TN:=@sizeOf44
abbrev Bu:=@underlying249
abbrev V5:=@isAgg44
abbrev Dg:=@underlying179
abbrev DZ:=@isAgg106
abbrev Xe9:=@underlying106
abbrev bJ:=@underlying54
abbrev D6:=@underlying125
abbrev Jl:=@sizeOf122
abbrev LX:=@isAgg122
abbrev PL:=@underlying122
abbrev Il:=@sizeOf123
abbrev PM:=@isAgg123
abbrev Wz:=@underlying123
abbrev UR:=@sizeOf40
abbrev XZ:=@isAgg40
abbrev TM:=@underlying40
abbrev Cz:=@underlying100
abbrev ZV:=@sizeOf34
abbrev Wh:=@underlying34
abbrev U7:=@sizeOf43
abbrev ZP:=@isAgg43
abbrev Ru:=@underlying43
abbrev Z9:=@sizeOf9
abbrev Wi:=@sizeOf47
abbrev Vs:=@isAgg47
abbrev JU:=@underlying171
abbrev TG:=@sizeOf169
abbrev TH:=@underlying169
abbrev Tc:=@sizeOf98
abbrev VE:=@isAgg98
abbrev Ur:=@underlying98
abbrev Im:=@sizeOf102
abbrev JV:=@isAgg102
abbrev JD:=@underlying103
abbrev TJ:=@underlying108
abbrev Xf:=@sizeOf97
abbrev Yd:=@isAgg97
abbrev U6:=@underlying25
abbrev Vj:=@underlying27
abbrev Y4:=@isAgg27
abbrev Vk:=@sizeOf27
abbrev dJ:=@underlying202
end Go.Proofs.YtloldofjddbjoaaGreat
set_option maxHeartbeats 8000000
set_option maxRecDepth 100000
namespace Go.Proofs.YtloldofjddbjoaaGreat
open Go.Sep Go.RowKit Tryz
def CD:Tryz.prog.info? 3=some Tryz.t3:=by kernel_rfl
def jh:Tryz.t3.bytes=8:=rfl
def Gs:Tryz.prog.info? 4=some Tryz.t4:=by kernel_rfl
def Xdb:Tryz.t4.bytes=1:=rfl
def Gt:Tryz.prog.info? 5=some Tryz.t5:=by kernel_rfl
def Rp:Tryz.t5.bytes=1:=rfl
def Xcb:Tryz.prog.info? 40=some Tryz.t40:=by kernel_rfl
def mh:Tryz.t40.bytes=24:=rfl
def MC:Tryz.prog.info? 43=some Tryz.t43:=by kernel_rfl
def TK:Tryz.prog.info? 71=some Tryz.t71:=by kernel_rfl
def KL:Tryz.prog.info? 77=some Tryz.t77:=by kernel_rfl
def iu:Tryz.t77.bytes=16:=rfl
def Ep:Tryz.prog.info? 79=some Tryz.t79:=by kernel_rfl
def Jo:Tryz.t79.bytes=40:=rfl
def PN:Tryz.prog.info? 102=some Tryz.t102:=by kernel_rfl
def DL:Tryz.prog.info? 154=some Tryz.t154:=by kernel_rfl
def FF:Tryz.t154.bytes=64:=rfl
def Xit:Tryz.prog.info? 202=some Tryz.t202:=by kernel_rfl
def Xiu:Tryz.prog.info? 203=some Tryz.t203:=by kernel_rfl
def PO:Tryz.prog.info? 241=some Tryz.t241:=by kernel_rfl
def Xiv:Tryz.prog.info? 259=some Tryz.t259:=by kernel_rfl
def Xbk:Tryz.prog.info? 277=some Tryz.t277:=by kernel_rfl
def Xbl:Tryz.prog.info? 279=some Tryz.t279:=by kernel_rfl
def Xcc:Tryz.t279.bytes=256:=rfl
def Xiw:Tryz.prog.info? 284=some Tryz.t284:=by kernel_rfl
end Go.Proofs.YtloldofjddbjoaaGreat
namespace Go.Sep
open Go.RowKit Go.Proofs.YtloldofjddbjoaaGreat
section
variable {P:d8} {n:Nat} {L:Env} {X:aU} {fn:Func} {R:Ending->aU}
def E4 (P:d8) (L:Env) (X:aU):ResultVar->d0->Prop
 |.tmp t,v=>look L t=some v
 |.cell x t,v=>∃p,look L x=some (.pointer<|some p)/\∀w,X w->(loadVar t p).run P w=.ok v w
def Cc {a:Act} {w:d7} (k:Know n L a) (x:X w):∀{r:ResultVar} {v:d0},E4 P L X r v->(Jw a.tmps r).run P w=.ok v w
 |.tmp t,v,h=>by
  have:=k.get t v h
  simp[Jw,rN,this]
 |.cell y t,v,⟨p,hp,hl⟩=>by
  have:=k.get y _ hp
  simp[Jw,rN,this,asAddr,hl w x]
def F5 (fn:Func) (tmps:cb):results fn tmps=(do let vs<-fn.results.mapM (Jw tmps); pure (if h:vs.size=1 then vs[0] else .tuple vs)):=rfl
def CE {r:ResultVar} {v:d0} (y:fn.results=#[r]) (h:E4 P L X r v) (z:∀w,X w->R (.returned v) w):Pre n L X (bodyPost P fn R .ret):=λa w k x =>
 ⟨k.defers,v,by rw[F5,y]; simp[Cc k x h],z w x⟩
def C1 {r r':ResultVar} {u v:d0} (h:fn.results=#[r,r']) (z:E4 P L X r u) (b:E4 P L X r' v) (y:∀w,X w->R (.returned<|.tuple #[u,v]) w):Pre n L X (bodyPost P fn R .ret):=λa w k x =>
 ⟨k.defers,_,by rw[F5,h]; simp[Cc k x z,Cc k x b],y w x⟩
def AL {x b sz:Nat} {t T:d4} {cs:bi} (y:look L x=some (pV b)) (d:∀w,(isAgg t).run P w=.ok true w) (a:∀w,(sizeOf t).run P w=.ok sz w) (h:∀w,X w->(Ac b T cs).at w) (c:cs.length=sz):E4 P L X (.cell x t) (.agg cs.toArray) :=
 ⟨_,y,λw z=>by
  have:=Fk (P:=P) b 0 w sz 0 cs #[] c (λj v hj=>by rw[qK,qK]; exact EE (h w z) hj)
  simp[loadVar,d,a,loadCells,this]⟩
end
section
variable {P:d8} {n:Nat} {L:Env} {X:aU} {o:Oper} {Q:aB} {K:aO}
variable {w0:d7} {D:bm} {H:ci} {α:Type} {E:Enc α} {l:List α} {v:d0}
def Xfa {w:d7} {m:Nat} (h:Ec w v E l) (hm:m<=l.length):(Builtin.firstCells E.sz m v).run P w=.ok (E.flat<|l.take m).toArray w:=by
 obtain⟨a,c,rfl,z,h⟩:=h
 have y:Ec w (.slice a (l.take m).length c) E (l.take m):=⟨a,c,rfl,Zl,by
  rcases h with rfl|⟨b,off,rfl,h⟩
  .exact .inl j
  refine .inr ⟨b,off,rfl,λk u x=>h k u ?_⟩;rw[<-E.XI,pM] at x;split at x
  .exact x
  cases x⟩
 have:=E8 (P:=P) y;rw[pI,re hm] at this;cases a<;>exact this
def Xa6 {t tx e ty:d4} {x:d0} {b off dn dc:Nat} {T:d4} {cs:bi} {w:d7} (f:P.underlying t=some (.slice e)) (m:∀w,(sizeOf e).run P w=.ok E.sz w) (h:St w0 D (Ac b T cs::H) w) (z:Ec w x E l) (a:off+min l.length dn*E.sz<=cs.length) :
 ∃w',(Builtin.copy_ #[t,tx] ty #[.slice (some ⟨b,off,none⟩) dn dc,x]).run P w=.ok (aa (min l.length dn:Nat)) w'/\St w0 D (Ac b T (splice cs off<|E.flat<|l.take<|min l.length dn)::H) w':=by
 have k:=Xfa (P:=P) z<|Nat.min_le_left l.length dn;have i:=KH (P:=P) z;have c:(E.flat<|l.take<|min l.length dn).length=min l.length dn*E.sz:=by rw[E.oU,pI,re<|Nat.min_le_left ..]
 obtain⟨w',g,j⟩:=CH (P:=P) (off:=off) (E.flat<|l.take<|min l.length dn) _ 0 h A1<|λu d=>E.eu _ u d
 refine⟨w',?_,by simpa using j⟩;have y:Nat.min l.length dn=min l.length dn:=rfl;simp[Builtin.copy_,Be f,i,m,y,k,g,goInt]
def PQ {t tx e:d4} {x y:d5} {i:d0} {b off dn dc:Nat} {T:d4} {cs:bi} {d:Nat} (u:o.op=.call ⟨.builtin .copy,#[y,x],#[t,tx]⟩) (hd:o.dst=some d) (f:d.blt n) (p:P.underlying t=some (.slice e)) (k:∀w,(sizeOf e).run P w=.ok E.sz w)
 (v:ev L y=some (.slice (some ⟨b,off,none⟩) dn dc)) (c:ev L x=some i) (m:∀w,St w0 D (Ac b T cs::H) w->Ec w i E l) (z:off+min l.length dn*E.sz<=cs.length)
 (h:Pre n ((d,aa (min l.length dn:Nat))::L) (St w0 D<|Ac b T (splice cs off<|E.flat<|l.take<|min l.length dn)::H) K):Nl P n L (St w0 D<|Ac b T cs::H) o Q K :=
 Nl.val (β:=Unit) (λ_=>aa (min l.length dn:Nat)) Tr (λ_=>St w0 D<|Ac b T (splice cs off<|E.flat<|l.take<|min l.length dn)::H) hd f (λa w g j=>by
  obtain⟨s,q,r⟩:=Xa6 (P:=P) (ty:=o.type) (tx:=tx) (dc:=dc) p k j (m w j) z
  exact⟨(),s,by simp[execOp,u,resolve,invoke,builtin,g.eval v,g.eval c,q],T0,r⟩) Xk
def JW {w:d7} {b off k c:Nat} {T:d4} {cs:bi} (h:(Ac b T cs).at w) (E:Enc α) (l:List α) (x:l.length=k) (y:k<=c) (z:(cs.drop off).take (k*E.sz)=E.flat l):Ec w (.slice (some ⟨b,off,none⟩) k c) E l:=by
 subst x;refine⟨_,c,rfl,y,.inr ⟨b,off,rfl,λj u hj=>EE h ?_⟩⟩;rw[<-z,pM] at hj;split at hj
 .rwa[pP] at hj
 cases hj
def Rr {t:d4} {x i:d5} {s:ByteArray} {k:d6} {p:Int} (j:Nat) (b:UInt8) (d:o.op=.index t x i) (e:P.underlying t=some .string) (z:ev L x=some (.string s)) (hi:ev L i=some (.int k p)) (y:p=(j:Int)) (c:s[j]?=some b):MV P n L X o (ab (b.toNat:Int)) :=
 MV.mk (λa=>Instr.index t (a.eval x)<|a.eval i) (λa=>by simp[execOp,d])<|λa w h _=>by
  subst y
  rw[h.eval z,h.eval hi]
  simp[Instr.index,asIntOf,Be e,c]
def XfM {t:d4} {x hi:d5} {s:ByteArray} {k:d6} {z:Int} (h:Nat) (g:o.op=.slice t x none (some hi) none) (i:P.underlying t=some .string) (d:ev L x=some (.string s)) (y:ev L hi=some (.int k z)) (f:z=(h:Int)) (c:h<=s.size):MV P n L X o (.string<|s.extract 0 h) :=
 MV.mk (λa=>Instr.sliceAt t (a.eval x) none (some<|a.eval hi) none) (λa=>by simp[execOp,g]) (λa w b _=>by
  subst f
  rw[b.eval d,b.eval y]
  have e:(Instr.sliceBound (.int k (h:Int)) s.size .sliceAlen).run P w=.ok h w:=CG w rfl c
  simp only[Instr.sliceAt,Instr.slice,Instr.sliceBounds,qC,Be i,qE,qD]
  simp[e])
def Gu {l:bf} {r t e:d4} {x:d5} (s:o.op=.convert r t x) (g:P.underlying r=some (.slice e)) (d:P.underlying e=some (.int .u8)) (z:P.underlying t=some .string) (q:ev L x=some v) (u:∀w,X w->Ec w v dt l):MV P n L X o (.string<|strOfNums l):=λa w f B=>by
 obtain⟨j,c,rfl,C,h⟩:=u w B
 have y:(convert r t<|.slice j l.length c).run P w=.ok (.string<|strOfNums l) w:=by
  rcases h with rfl|⟨b,off,rfl,h⟩
  .cases j with
   |none=>exact run_convert_bytes_nil w r e g d 0 c t z
   |some p=>simp[convert,Be g,Be z,Be d,Conv.bytesToString,loadCells,loadCellsFrom,strOfNums]; rfl
  exact run_convert_bytes_arg w r e g d b off l.length c l rfl (λi hi=>by
   refine h i _ ?_;have:=dt.flat_get l i 0 (l.getD i 0) (ab<|l.getD i 0) (by simp[sY,hi]) rfl;have A:dt.sz=1:=rfl;rw[A,sZ,sf] at this
   exact this) t z
 have:=MV.mk (P:=P) (n:=n) (L:=L) (X:=λk=>k=w) (o:=o) (v:=.string<|strOfNums l) (λa=>convert r t<|a.eval x) (λa=>by simp[execOp,s])<|λa k f m=>by subst m; rw[f.eval q]; exact y
 exact this a w f rfl
def Xau {w:d7} {d:Nat} {t:d4} {ks:cB} {xs ys:bi} {b:Bool} (g:flat P d t=some ks) (e:P.keyTypeAt d t) (hd:d.ble 10000) (f:P.cellsOf t=ks.length)
 (a:(match P.underlying t with|some (.struct _)|some (.array _ _)=>true|_=>false)=true) (y:Kinds ks xs) (j:Kinds ks ys) (i:xs=ys↔b=true):(Op.equal t (.agg xs.toArray)<|.agg ys.toArray).run P w=.ok b w:=by
 obtain⟨r,z,x⟩:=Ia (P:=P) (w:=w) (n:=d) (t:=t) (ks:=ks) (xs:=xs.toArray) (ys:=ys.toArray) g e (rO hd) f a y j
 have c:r=b:=by
  rw[rz,x,<-i];exact⟨λh=>sv,λh=>by rw[h]⟩
 rw[<-c]; exact z
def PR {t u:d4} {x y:d5} {d:Nat} {ks:cB} {xs ys:bi} (b:Bool) (f:flat P d t=some ks) (c:P.keyTypeAt d t) (hd:d.ble 10000) (e:P.cellsOf t=ks.length)
 (a:(match P.underlying t with|some (.struct _)|some (.array _ _)=>true|_=>false)=true) (hm:P.eqGuardType P.depth t=false) (j:o.op=.binOp .eql t x y u) (z:ev L x=some (.agg xs.toArray)) (k:ev L y=some (.agg ys.toArray)) (i:Kinds ks xs) (h:Kinds ks ys) (g:xs=ys↔b=true):MV P n L X o (.bool b) :=
 DJ j z k<|λw _=>Fv (run_eqGuard_agg (w:=w) .eql t x y _ _ hm)<|PA w rfl (Xau f c hd e a i h g)
def Xbm {t u:d4} {x y:d5} {d:Nat} {ks:cB} {xs ys:bi} (b:Bool) (f:flat P d t=some ks) (c:P.keyTypeAt d t) (hd:d.ble 10000) (e:P.cellsOf t=ks.length)
 (a:(match P.underlying t with|some (.struct _)|some (.array _ _)=>true|_=>false)=true) (hm:P.eqGuardType P.depth t=false) (j:o.op=.binOp .neq t x y u) (z:ev L x=some (.agg xs.toArray)) (k:ev L y=some (.agg ys.toArray)) (i:Kinds ks xs) (h:Kinds ks ys) (g:xs=ys↔b=true):MV P n L X o (.bool<|!b) :=
 DJ j z k<|λw _=>Fv (run_eqGuard_agg (w:=w) .neq t x y _ _ hm)<|Xb8 w rfl (Xau f c hd e a i h g)