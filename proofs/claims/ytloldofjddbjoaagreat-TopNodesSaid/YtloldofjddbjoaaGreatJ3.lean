/- Part 3. -/
import Derived.Test.YtloldofjddbjoaaGreatJ2
set_option linter.all false
set_option maxHeartbeats 8000000
set_option maxRecDepth 100000
namespace Go.Sep
open Go.RowKit Go.Proofs.YtloldofjddbjoaaGreat
def MD {P:d8} {f:FuncId} {vs:bi} {v:d0} {E:aU} (h:∀w,E w->Calls P f vs.toArray w (λe y=>e=.returned v/\Go.RowKit.Below w.heap.size w y)):Df P f vs E [] (λ_:Unit=>v) Tr (λ_=>[]):=λw z a =>
 (h w z).mono<|λe y ⟨he,hb⟩=>⟨(),he,T0,⟨HP.nil y,λb x=>(by cases x),⟨hb.os,hb.tape,hb.output,hb.size,λb x _=>hb.block b x⟩⟩⟩
def oR {cs vs:bi} (h:vs.length=cs.length):splice cs 0 vs=vs:=by
 rw[Vf _ _ _ J]; simp[h]
def Hv {a b c vs:bi} {k:Nat} (x:a.length=k) (h:vs.length=b.length):splice (a++(b++c)) k vs=a++(vs++c):=by
 subst x;rw[Vf _ _ _ (by simp[h]),sE];rw[h,<-pK,<-qQ,List.drop_left,qQ]
def Rs {a b c:bi} {k m:Nat} (x:a.length=k) (h:b.length=m):((a++(b++c)).drop k).take m=b:=by
 subst x; subst h;rw[List.drop_left,sE]
structure Kv (m:Nat) where
 n:Int
 b:bf
 len:b.length=m
 wn:(Lit.int .i64 n).wf=true
 wb:∀x∈b,(Lit.int .u8 x).wf=true
abbrev c3:=Kv 8
namespace Kv
variable {m:Nat}
def c (k:Kv m):bi:=aa k.n::k.b.map (.int .u8)
def ext' {k j:Kv m} (h:k.n=j.n) (x:k.b=j.b):k=j:=by
 cases k; cases j; simp only at h x; subst h; subst x; rfl
instance:DecidableEq (Kv m):=λk j=>if h:k.n=j.n/\k.b=j.b then isTrue (ext' h.1 h.2) else isFalse (λe=>h<|by subst e; exact⟨rfl,rfl⟩)
def oQ (k:Kv m):k.c.length=m+1:=by simp[c,k.len]
def XbQ {α:Type} {f:α->d0} (z:∀a b,f a=f b->a=b):∀{xs ys:List α},xs.map f=ys.map f->xs=ys
 |[],[],_=>rfl
 |[],y::ys,h=>yF
 |x::xs,[],h=>yF
 |x::xs,y::ys,h=>by
  simp only[qG,List.cons.injEq] at h
  rw[z _ _ h.1,XbQ z h.2]
def XH {k j:Kv m}:k.c=j.c↔k=j:=by
 refine⟨λh=>?_,λh=>by rw[h]⟩;simp only[c,List.cons.injEq,Value.int.injEq,true_and] at h;exact ext' h.1<|XbQ (λa b e=>by simpa using e) h.2
def ks (m:Nat):cB:=Sc.i .i64::List.replicate m (Sc.i .u8)
def kinds (k:Kv m):Kinds (ks m) k.c:=by
 refine⟨by simp[ks,c,k.len],λj q v h x=>?_⟩;cases j with
 |zero=>simp[ks,c] at h x; subst h x; exact⟨k.n,rfl,k.wn⟩
 |succ j =>
  simp only[ks,rr,ru] at h;split at h
  .simp only[Option.some.injEq] at h;subst h;simp only[c,rr,qq,rv] at x;obtain⟨z,y,rfl⟩:=x;exact⟨z,rfl,k.wb z<|ry y⟩
  simp at h
def one (k:Kv m):∀v∈k.c,v.oneCell'=true:=by
 exact ZEJ
def eU {k j:Kv m}:k.c=j.c↔decide (k=j)=true:=by rw[XH,rA]
def enc (m:Nat):Enc (Kv m):={sz:=m+1,f:=Kv.c,len:=oQ,pos:=A1,one:=one}
end Kv
open Go.RowKit
section
variable {P:d8} {n:Nat} {L:Env} {X:aU} {o:Oper} {Q:aB} {K:aO}
variable {w0:d7} {D:bm} {H:ci} {α:Type} {E:Enc α} {l:List α} {v:d0}
def Xfb {w:d7} {sa:ce} {sc:Nat} {m:List α} (h:Ec w (.slice sa m.length sc) E m) (x sc':Nat):(Builtin.firstCells E.sz m.length<|.slice sa x sc').run P w=.ok (E.flat m).toArray w:=by
 have:=E8 (P:=P) h;cases sa<;>exact this
def Hw {t tx e:d4} {x y:d5} {sa:ce} {sl sc sc' b off g dc:Nat} {T:d4} {cs:bi} {m:List α} {d:Nat} (k:Nat) (N:o.op=.call ⟨.builtin .copy,#[y,x],#[t,tx]⟩) (hd:o.dst=some d) (i:d.blt n) (A:P.underlying t=some (.slice e)) (r:∀w,(sizeOf e).run P w=.ok E.sz w)
 (O:ev L y=some (.slice (some ⟨b,off,none⟩) g dc)) (f:ev L x=some (.slice sa sl sc)) (hm:min sl g=k) (s:∀w,St w0 D (Ac b T cs::H) w->Ec w (.slice sa k sc') E m) (l:off+k*E.sz<=cs.length)
 (h:Pre n ((d,aa (k:Nat))::L) (St w0 D<|Ac b T (splice cs off<|E.flat m)::H) K):Nl P n L (St w0 D<|Ac b T cs::H) o Q K :=
 Nl.val (β:=Unit) (λ_=>aa (k:Nat)) Tr (λ_=>St w0 D<|Ac b T (splice cs off<|E.flat m)::H) hd i (λa w j q=>by
  have z:=s w q
  have C:m.length=k:=by obtain⟨R,c',e',_⟩:=z; cases e'; rfl
  subst C
  have J:=Xfb (P:=P) z sl sc
  have p:=E.oU m
  obtain⟨M,B,G⟩:=CH (P:=P) (off:=off) (E.flat m) _ 0 q A1<|λu v=>E.eu _ u v
  have c:Nat.min sl g=m.length:=hm
  have F:(Builtin.lenOf<|.slice sa sl sc).run P w=.ok sl w:=rfl
  refine⟨(),M,?_,T0,by simpa using G⟩
  simp[execOp,N,resolve,invoke,builtin,j.eval O,j.eval f,Builtin.copy_,Be A,F,r,c,J,B,goInt]) Xk
def Ec.fB {w:d7} (h:Ec w0 v E l) (s:St w0 D H w) (y:blk v∉D\/l=[]):Ec w v E l :=
 h.congr<|λx=>s.keep.block _ (h.lt x)<|y.resolve_right x
def Dk {F:aO} {e:d4} (c:0<l.length) (k:∀b cap pre x,v=.slice (some ⟨b,pre.length,none⟩) l.length cap->l.length<=cap->x.length=(cap-l.length)*E.sz->Pre n L (St w0 D<|Ac b e (pre++E.flat l++x)::H) F):Pre n L (St w0 D<|AG v e E l::H) F:=λa w y g=>by
 obtain⟨b,cap,pre,x,f,d,z,h⟩:=Ii g c
 exact k b cap pre x f d z a w y h
def F6 {F:aO} {b cap len:Nat} {e:d4} (l:List α) (pre h:bi) {cs:bi} (y:cs=pre++E.flat l++h) (x:l.length=len) (c:0<cap) (a:len<=cap) (z:h.length=(cap-len)*E.sz) (k:Pre n L (St w0 D<|AG (.slice (some ⟨b,pre.length,none⟩) len cap) e E l::H) F):Pre n L (St w0 D<|Ac b e cs::H) F:=k.world _<|λw s=>by
 subst y; subst x
 exact DB s c a z
def Xhc {F:aO} {e:d4} (i:Nat) (hi:i<=l.length) (k:Pre n L (St w0 D<|AG (Oy v E.sz i l.length) e E (l.drop i)::H) F):Pre n L (St w0 D<|AG v e E l::H) F:=k.world _ (λw s=>by
 have z:Row v e E l ((Dv v).bind (w.heap[·]?)):=s.at 0 rfl
 rcases z with⟨q,rfl,rfl⟩|⟨b,cap,pre,post,rfl,p,f,o,x⟩
 .have m:i=0:=by simpa using hi
  subst m
  exact s
 .have h:Dv (.slice (some ⟨b,pre.length,none⟩) l.length cap)=some b:=by simp[Dv]; omega
  by_cases hc:cap=i
  .have c:l.drop i=[]:=List.drop_eq_nil_of_le J
   have a:Oy (.slice (some ⟨b,pre.length,none⟩) l.length cap) E.sz i l.length=.slice (some ⟨b,pre.length,none⟩) 0 0:=by
    have y:l.length-i=0:=J;have j:cap-i=0:=J;simp only[Oy,pN hc,y,j]
   rw[c,a];exact s.drop.row0 e E _
  .have y:St w0 D (Ac b e (pre++E.flat l++post)::H) w:=s.head h.symm (λ_=>by rw[h] at f; exact f);have d:(l.drop i).length=l.length-i:=pJ;have g:(pre++E.flat (l.take i)).length=pre.length+i*E.sz:=by rw[pK,E.oU,pI]; congr 2; omega
   have c:pre++E.flat l++post=(pre++E.flat (l.take i))++E.flat (l.drop i)++post:=by
    rw[qQ pre (E.flat<|l.take i)<|E.flat<|l.drop i,<-E.pe,qV]
   rw[c] at y;have:=DB (cap:=cap-i) y J J<|by rw[x,d]; congr 1; omega
   rw[g,d] at this;have a:Oy (.slice (some ⟨b,pre.length,none⟩) l.length cap) E.sz i l.length=.slice (some ⟨b,pre.length+i*E.sz,none⟩) (l.length-i) (cap-i):=by simp[Oy,hc,BT]
   rw[a]
   exact this)
def XP:∀(V M A C:bi),M.length=V.length->splice (A++M++C) A.length V=A++V++C:=λV M A C h=>by
 rw[Vf _ _ _ uj]
 congr 1
 .congr 1
  rw[qQ,sE]
 .rw[<-h,<-pK,List.drop_left]
def XfN (A B C:bi) (t:d0) (h:C≠[]):splice (splice (A++B++C) (A.length+1) B) A.length [t]=A++(t::B)++C.drop 1:=by
 obtain⟨x,R,y⟩:∃x R,B++C=x::R:=by
  cases hbc:B++C with
  |nil=>exact absurd (List.append_eq_nil_iff.1 hbc).2 h
  |cons x R=>exact⟨x,R,rfl⟩
 have c:0<C.length:=sM.2 h;have a:R.length+1=B.length+C.length:=by rw[<-pK,y]; rfl
 have hd:R.drop B.length=C.drop 1:=by
  have:(B++C).drop (B.length+1)=C.drop 1:=by rw[sA]
  rw[y,ra] at this;exact this
 have b:A++B++C=(A++[x])++R.take B.length++R.drop B.length:=by
  rw[qQ,y,qQ,qV,qQ]; rfl
 have z:=XP B (R.take B.length) (A++[x]) (R.drop B.length) Zl;rw[pK,s5] at z;rw[b,z,qQ,XP [t] [x] A _ rfl,hd];simp
def XeW (A Z C B:bi) (t:d0) (h:Z.length=B.length+1):splice (splice (A++Z++C) A.length [t]) (A.length+1) B=A++(t::B)++C:=by
 obtain⟨x,R,rfl⟩:∃x R,Z=x::R:=by
  cases Z with
  |nil=>cases h
  |cons x R=>exact⟨x,R,rfl⟩
 have z:A++(x::R)++C=A++[x]++(R++C):=j;rw[z,XP [t] [x] A _ rfl,<-qQ];have y:=XP B R (A++[t]) C sv;rw[pK,s5] at y;rw[y]; simp
def XeB {t tx e e':d4} {x:d0} {m:List α} {ty:d4} {w:d7} {i:Nat} (J:P.underlying t=some (.slice e)) (n:P.underlying tx=some (.slice e')) (k:∀w,(sizeOf e).run P w=.ok E.sz w)
 (h:St w0 D (AG v e E l::H) w) (G:Ec w x E m) (hi:i+m.length<=l.length) :
 ∃v' w',(Builtin.append_ #[t,tx] ty #[Oy v E.sz 0 i,x]).run P w=.ok v' w'/\Vr v'=Vr v/\St w0 D (AG v' e E (l.take i++m)::H) w':=by
 have d:=KH (P:=P) G;have C:=E8 (P:=P) G;have r:Row v e E l ((Dv v).bind (w.heap[·]?)):=h.at 0 rfl;rcases r with⟨F,rfl,rfl⟩|⟨b,cap,pre,y,rfl,B,L,A,p⟩
 .simp at hi;obtain⟨rfl,hm⟩:=hi;subst hm;simp only[sR,E.flat_nil] at C;refine⟨.slice F 0 0,w,?_,rfl,sv⟩;cases F<;>simp[Oy,Builtin.append_,Be J,Be n,k,d,C,Enc.flat_nil,storeCells]
 have a:Dv (.slice (some ⟨b,pre.length,none⟩) l.length cap)=some b:=by simp[Dv]; omega
 have N:St w0 D (Ac b e (pre++E.flat l++y)::H) w:=h.head a.symm<|λ_=>by rw[a] at L; exact L
 have R:=E.oU l;have T:=E.oU m;have z:(l.take i++m).length=i+m.length:=by rw[pK,pI]; omega
 have j:(i+m.length)*E.sz<=l.length*E.sz:=qy _ hi;have s:l.length*E.sz<=cap*E.sz:=qy _ A;have K:(cap-l.length)*E.sz=cap*E.sz-l.length*E.sz:=sN ..;have f:(cap-(i+m.length))*E.sz=cap*E.sz-(i*E.sz+m.length*E.sz):=by rw[sN,pW]
 rw[pW] at j
 have c:pre.length+i*E.sz+0+(E.flat m).length<=(pre++E.flat l++y).length:=by
  simp only[pK]; omega
 obtain⟨w',S,o⟩:=CH (P:=P) (off:=pre.length+i*E.sz) (E.flat m) _ 0 N c<|λu O=>E.eu m u O
 have g:i+m.length<=cap:=A1;have q:¬(cap=0):=A1;refine⟨.slice (some ⟨b,pre.length,none⟩) (i+m.length) cap,w',?_,rfl,?_⟩
 .simp[Oy,q,Builtin.append_,Be J,Be n,k,d,g,C,BT,S]
 rw[Vf _ _ _ dP] at o
 have M:(pre++E.flat l++y).take (pre.length+i*E.sz+0)=pre++E.flat (l.take i):=by
  rw[sf,qQ,sx,sK A1,E.XI]
 rw[M] at o;have Q:pre++E.flat (l.take i)++E.flat m=pre++E.flat (l.take i++m):=by rw[E.pe,qQ]
 rw[Q] at o
 have:=DB (cap:=cap) o B A1<|by
  rw[z,f];simp only[pJ,pK,sf];omega
 rw[z] at this;exact this
def JE {t tx e e':d4} {k:d0} {s x:d5} {m:List α} {d:Nat} (i:Nat) (r:o.op=.call ⟨.builtin .append,#[s,x],#[t,tx]⟩) (hd:o.dst=some d) (c:d.blt n) (u:P.underlying t=some (.slice e)) (g:P.underlying tx=some (.slice e')) (f:∀w,(sizeOf e).run P w=.ok E.sz w)
 (b:ev L s=some (Oy v E.sz 0 i)) (z:ev L x=some k) (q:∀w,St w0 D (AG v e E l::H) w->Ec w k E m) (hi:i+m.length<=l.length)
 (h:∀y,Vr y=Vr v->Pre n ((d,y)::L) (St w0 D<|AG y e E (l.take i++m)::H) K):Nl P n L (St w0 D<|AG v e E l::H) o Q K :=
 Nl.val (β:=d0) (λv=>v) (λy=>Vr y=Vr v) (λy=>St w0 D<|AG y e E (l.take i++m)::H) hd c (λa w j p=>by
  obtain⟨y,G,A,C,B⟩:=XeB (P:=P) (ty:=o.type) u g f p (q w p) hi
  exact⟨y,G,by simp[execOp,r,resolve,invoke,builtin,j.eval b,j.eval z,A],C,B⟩)<|λy F=>h y F
def ME {t e:d4} {x lo hi:d5} {k A:d6} {f d:Int} (i j:Nat) (B:o.op=.slice t x (some lo) (some hi) none) (C:P.underlying t=some (.slice e)) (m:∀w,(sizeOf e).run P w=.ok E.sz w)
 (s:ev L x=some v) (D:∀w,X w->Ec w v E l) (y:ev L lo=some (.int k f)) (z:ev L hi=some (.int A d)) (q:f=(i:Int)) (F:d=(j:Int)) (u:i<=j) (r:j<=Vr v) :
 MV P n L X o (Oy v E.sz i j):=λa w h g=>by
 obtain⟨p,c,rfl,G,_⟩:=D w g
 subst q; subst F
 have b:j<=c:=r
 have:=MV.mk (P:=P) (n:=n) (L:=L) (X:=X) (o:=o) (v:=Oy (.slice p l.length c) E.sz i j) (λa=>Instr.sliceAt t (a.eval x) (some<|a.eval lo) (some<|a.eval hi) none) (λa=>by simp[execOp,B])<|λa w h _=>by
  rw[h.eval s,h.eval y,h.eval z]
  simp only[Instr.sliceAt,Instr.slice,Instr.sliceBounds,qC,Be C,qE,qD,CG (P:=P) w rfl b,CG (P:=P) w rfl u,m,Oy]
 exact this a w h g
def JX {t e:d4} {x lo hi d:d5} {k H z:d6} {u p s:Int} (i j m:Nat) (J:o.op=.slice t x (some lo) (some hi) (some d)) (K:P.underlying t=some (.slice e)) (B:∀w,(sizeOf e).run P w=.ok E.sz w)
 (F:ev L x=some v) (M:∀w,X w->Ec w v E l) (y:ev L lo=some (.int k u)) (b:ev L hi=some (.int H p)) (g:ev L d=some (.int z s)) (C:u=(i:Int)) (N:p=(j:Int)) (em:s=(m:Int)) (G:i<=j) (D:j<=m) (Q:m<=l.length) :
 MV P n L X o (.slice (if m=i then (match v with|.slice a _ _=>a|_=>none:ce) else (match v with|.slice a _ _=>a|_=>none:ce).map (λq:Addr=>q.add<|i*E.sz)) (j-i)<|m-i):=λa w h A=>by
 obtain⟨r,c,rfl,O,_⟩:=M w A
 subst C; subst N; subst em
 have f:m<=c:=A1
 have:=MV.mk (P:=P) (n:=n) (L:=L) (X:=X) (o:=o) (v:=.slice (if m=i then r else r.map (·.add (i*E.sz))) (j-i)<|m-i) (λa=>Instr.sliceAt t (a.eval x) (some<|a.eval lo) (some<|a.eval hi)<|some<|a.eval d) (λa=>by simp[execOp,J])<|λa w h _=>by
  rw[h.eval F,h.eval y,h.eval b,h.eval g]
  simp only[Instr.sliceAt,Instr.slice,Instr.sliceBounds,qC,Be K,qE,qD,CG (P:=P) w rfl f,CG (P:=P) w rfl D,CG (P:=P) w rfl G,B]
 exact this a w h A
def Io {t e:d4} {i:TypeInfo} {z:d0} {x:d5} {hi:Nat} (A:o.op=.call ⟨.builtin .clear,#[x],#[t]⟩) (hd:o.dst=none) (J:P.underlying t=some (.slice e)) (S:P.info? e=some i) (W:i.zero=some z) (M:z.cells.size=E.sz) (R:∀u∈z.cells.toList,u.oneCell'=true)
 (hx:ev L x=some (Oy v E.sz l.length hi)) (V:l.length<=hi) (U:hi<=Vr v) (h:Pre n L (St w0 D<|AG v e E l::H) K):Nl P n L (St w0 D<|AG v e E l::H) o Q K :=
 Nl.ZN (β:=Unit) (λ_=>.tuple #[]) Tr (λ_=>St w0 D<|AG v e E l::H) hd (λa w X s=>by
  have G:∀w,(zeroValue e).run P w=.ok z w:=λw=>by simp[zeroValue,typeInfo,S,W]
  suffices m:∃f,(Builtin.clear_ #[t] o.type #[Oy v E.sz l.length hi]).run P w=.ok (.tuple #[]) f/\St w0 D (AG v e E l::H) f by
   obtain⟨f,q,p⟩:=m
   exact⟨(),f,by simp[execOp,A,resolve,invoke,builtin,X.eval hx,q],T0,p⟩
  have C:Row v e E l ((Dv v).bind (w.heap[·]?)):=s.at 0 rfl
  rcases C with⟨Z,rfl,rfl⟩|⟨b,cap,pre,y,rfl,O,A,F,B⟩
  .have g:hi=0:=by have:hi<=0:=U; omega
   subst g
   exact⟨w,by cases Z<;>simp[Oy,Builtin.clear_,Be J],s⟩
  .have Y:hi<=cap:=U
   by_cases r:hi-l.length=0
   .refine⟨w,?_,s⟩
    simp only[Oy,r]
    cases hq:(if cap=l.length then (some (⟨b,pre.length,none⟩:Addr)) else (some ⟨b,pre.length,none⟩:ce).map (·.add (l.length*E.sz)))<;>simp[Builtin.clear_,Be J]
   .have c:Dv (.slice (some ⟨b,pre.length,none⟩) l.length cap)=some b:=by simp[Dv]; omega
    have V:St w0 D (Ac b e (pre++E.flat l++y)::H) w:=s.head c.symm<|λ_=>by rw[c] at A; exact A
    have N:=E.oU l
    have h3:(Builtin.zeroCells z.cells<|hi-l.length).toList.length=(hi-l.length)*E.sz:=by rw[rF,sP,M]
    have T:(hi-l.length)*E.sz<=(cap-l.length)*E.sz:=qy _ A1
    have d:pre.length+l.length*E.sz+0+(Builtin.zeroCells z.cells<|hi-l.length).toList.length<=(pre++E.flat l++y).length:=by
     simp only[pK]; omega
    obtain⟨f,q,p⟩:=CH (P:=P) (off:=pre.length+l.length*E.sz) _ _ 0 V d (λu hu=>by
     obtain⟨j,hj,rfl⟩:=Array.mem_iff_getElem.1<|Array.mem_toList_iff.1 hu;have m:=hj;rw[sP] at m;have hp:0<z.cells.size:=by rcases qg z.cells.size with g|g; rw[g,Nat.mul_zero] at m; exact absurd m<|s6 _; exact g
     have e1:(Builtin.zeroCells z.cells<|hi-l.length)[j]=z.cells[j%z.cells.size]! := by simp[Builtin.zeroCells]
     rw[e1,getElem!_pos z.cells _<|qf _ hp]
     exact R _<|Array.mem_toList_iff.2<|Array.getElem_mem _)
    refine⟨f,?_,?_⟩
    .have hc:¬(cap=l.length):=by omega
     obtain⟨k,r⟩:∃k,hi-l.length=k+1:=⟨hi-l.length-1,A1⟩
     rw[r] at q;simp[Oy,hc,r,Builtin.clear_,Be J,G,BT,q]
    rw[Vf _ _ _<|by simpa using d] at p
    have t1:(pre++E.flat l++y).take (pre.length+l.length*E.sz+0)=pre++E.flat l:=by
     rw[sf,<-N,<-pK,sE]
    rw[t1,qQ] at p;refine DB (cap:=cap) p O F ?_;simp only[pK,pJ,sf]
    omega) Xk
def JY {t tx e:d4} {i:TypeInfo} {z:d0} {s x:d5} {m d:Nat} {a0:α} (ho:o.op=.call ⟨.builtin .append,#[s,x],#[t,tx]⟩) (hd:o.dst=some d) (O:d.blt n) (ht:P.underlying t=some (.slice e)) (Z:P.underlying tx=some (.int .i64)) (hi:P.info? e=some i) (hs:i.size=E.sz) (hz:i.zero=some z) (u:z.cells.toList=E.f a0)
 (M:ev L s=some v) (G:ev L x=some (aa (m:Int))) (hv:∀w,St w0 D H w->Ec w v E l) (R:Vr v<l.length+m) (hb:(l.length+m)*i.bytes<=140737488355328) (hn:l.length+m<=9223372036854775807)
 (h:∀j,Pre n ((d,j)::L) (St w0 D<|AG j e E (l++List.replicate m a0)::H) K):Nl P n L (St w0 D H) o Q K :=
 Nl.val (β:=d0) (λv=>v) Tr (λj=>St w0 D<|AG j e E (l++List.replicate m a0)::H) hd O (λac w kn hX=>by
  have C:=hv w hX
  have p:=C
  obtain⟨a,c,rfl,hc,_⟩:=p
  have B:c<l.length+m:=R
  have U:∀w,(sizeOf e).run P w=.ok E.sz w:=λw=>nU
  have T:∀w,(typeInfo e).run P w=.ok i w:=λw=>by simp[typeInfo,hi]
  have r:∀w,(zeroValue e).run P w=.ok z w:=λw=>nK
  have J:IntKind.i64.wrap (m:Int)=(m:Int):=Co A1
  have g:¬(l.length+m<=c):=A1
  have X:¬(9223372036854775807<((l.length:Int)+(m:Int))):=A1
  have V:=growslice_fits B hb
  have N:¬(281474976710656<Builtin.nextslicecap (l.length+m) c*i.bytes):=A1
  have h5:¬((m:Int)*(i.bytes:Int)>281474976710656):=by
   have:m*i.bytes<=(l.length+m)*i.bytes:=qy _ A1;rw[<-sF]; omega
  have h6:¬((m:Int)<0):=A1;have S:=E8 (P:=P) C.drew;have y:z.cells.size=E.sz:=by rw[<-rF,u,E.len]
  have h7:0<E.sz:=E.pos
  have q:(Builtin.zeroCells z.cells m).toList=E.flat (List.replicate m a0):=by
   refine qA<|λk=>?_
   by_cases hk:k<m*E.sz
   .have b:k%E.sz<E.sz:=qf _ E.pos;have F:k/E.sz<m:=(Nat.div_lt_iff_lt_mul E.pos).2 hk;have e1:k=k/E.sz*E.sz+k%E.sz:=by rw[qe]; exact (Nat.div_add_mod k E.sz).symm
    have hg:=E.flat_get (List.replicate m a0) (k/E.sz) (k%E.sz) a0 _ (by simp[F])<|pE<|by rw[E.len]; exact b
    rw[<-e1] at hg;rw[hg]
    have h2:z.cells[k%z.cells.size]! = (E.f a0)[k%E.sz]'(by rw[E.len]; exact b):=by
     rw[getElem!_pos z.cells (k%z.cells.size)<|by rw[y]; exact b];have:z.cells.toList[k%z.cells.size]'(by rw[rF,y]; exact b)=(E.f a0)[k%E.sz]'(by rw[E.len]; exact b):=by simp only[u,y]
     simpa using this
    have h3:k<(Builtin.zeroCells z.cells m).size:=by rw[sP,y]; exact hk
    rw[<-h2,s7,s8 h3];simp[Builtin.zeroCells]
   rw[pH (by rw[rF,sP,y]; omega),pH<|by rw[E.oU,s9]; omega]
  have hm0:∀w,(if m*E.sz=0 then pure #[] else do pure (Builtin.zeroCells (<-zeroValue e).cells m):Sem<|cb).run P w=.ok (Builtin.zeroCells z.cells m) w:=λw=>by
   split
   .rename_i h0;have:m=0:=by rcases qB.1 h0 with h|h; exact h; omega
    subst this;have:Builtin.zeroCells z.cells 0=#[]:=by apply sO.1; rw[q]; rfl
    rw[this]; rfl
   simp[r]
  have A:(Builtin.append_ #[t,tx] o.type #[.slice a l.length c,aa (m:Int)]).run P w=.ok (.slice (some ⟨w.heap.size,0,none⟩) (l.length+m)<|grownCap w (l.length+m) c e)
   (w.drew.alloc<|.cells ((E.flat l).toArray++Builtin.zeroCells z.cells m++Builtin.zeroCells z.cells (grownCap w (l.length+m) c e-(l.length+m))) e):=by
   have h8:=hm0 w.drew;by_cases h0:m*E.sz=0
   .have Y:m=0:=by rcases qB.1 h0 with h|h; exact h; omega
    subst Y;omega
   simp[Builtin.append_,Be ht,Be Z,U,T,r,asInt,asIntOf,J,h6,h5,g,X,N,Question.forced,S,newRow,grownCap,h0,<-Array.append_assoc]
  have h4:=grownCap_ge w (l.length+m) c e;have W:Dv (.slice (some ⟨w.heap.size,0,none⟩) (l.length+m)<|grownCap w (l.length+m) c e)=some w.heap.size:=ZDg
  have h1:=(hX.drew).alloc (o:=.cells ((E.flat l).toArray++Builtin.zeroCells z.cells m++Builtin.zeroCells z.cells (grownCap w (l.length+m) c e-(l.length+m))) e)
   (φ:=Row (.slice (some ⟨w.heap.size,0,none⟩) (l.length+m)<|grownCap w (l.length+m) c e) e E<|l++List.replicate m a0) (.inr ⟨w.heap.size,grownCap w (l.length+m) c e,[],(Builtin.zeroCells z.cells<|grownCap w (l.length+m) c e-(l.length+m)).toList,A3,A1,by
    congr 2;apply sO.1;simp[E.pe,q],uj,by
    rw[rF,sP,y,pK,s9]⟩)
  refine⟨.slice (some ⟨w.heap.size,0,none⟩) (l.length+m)<|grownCap w (l.length+m) c e,w.drew.alloc<|.cells ((E.flat l).toArray++Builtin.zeroCells z.cells m++Builtin.zeroCells z.cells (grownCap w (l.length+m) c e-(l.length+m))) e,by simp[execOp,ho,resolve,invoke,builtin,kn.eval M,kn.eval G,A],T0,?_⟩;show St w0 D (⟨Dv _,_⟩::H) _
  rw[W]
  exact h1)<|λj _=>h j
def Xj4 {t u:d4} {x y:d5} {p:Int} (h:Nat) (a:o.op=.binOp .shr t x y u) (z:ev L x=some (am p)) (c:ev L y=some (am 1)) (b:p.fdiv 2=(h:Int)):MV P n L X o (am (h:Int)) :=
 DJ a z c<|λw _=>by rw[qC,CX]; simp only[binOp,Op.shift]; rw[show min (1:Int).toNat IntKind.u64.bits=1 from rfl]; simp[b]
def Xfc {f:FuncId} {fn:Func} {x y:d5} {S:ca} {d a b i j la lb g k sz:Nat} {t r e T U:d4} {cs us:bi} (G:o.op=.call ⟨.value<|.func f,[x,y].toArray,S⟩) (hd:o.dst=some d) (q:d.blt n) (m:P.funcs[f]?=some fn) (R:fn.body.isNone) (VD:(fn.name == "runtime.NumGoroutine")=false) (O:Extern.findNext fn=none) (N:Extern.find fn=some (Extern.SlicesOverlaps.overlaps #[t,t] #[r]))
 (J:P.underlying t=some (.slice e)) (A:∀w,(sizeOf e).run P w=.ok sz w) (E:ev L x=some (.slice (some ⟨a,i,none⟩) la g)) (V:ev L y=some (.slice (some ⟨b,j,none⟩) lb k)) (p:∀w,X w->(Ac a T cs).at w) (C:∀w,X w->(Ac b U us).at w) (s:a≠b) (F:us≠[])
 (h:Pre n ((d,.bool false)::L) X K):Nl P n L X o Q K :=
 Nl.val (β:=Unit) (λ_=>.bool false) Tr (λ_=>X) hd q (λB w v c=>by
  have H:w.heap[a]?=some (.cells cs.toArray T (0,0)):=p w c
  have l:w.heap[b]?=some (.cells us.toArray U (0,0)):=C w c
  refine⟨(),w,?_,T0,c⟩
  have M:=Lib.run_overlaps_apart w t r e J sz A ⟨a,i,none⟩ ⟨b,j,none⟩ la g lb k s T U cs.length us.length (by simp[World.shape?,H]) (by simp[World.shape?,l]) (λe=>F<|pR e) (Ig (p w c) _)<|Ig (p w c) _
  have u:=run_callFunc_extern m VD R O N #[.slice (some ⟨a,i,none⟩) la g,.slice (some ⟨b,j,none⟩) lb k] w
  rw[M] at u
  simp only[qE] at u
  have z:([x,y].toArray.map B.eval)=#[.slice (some ⟨a,i,none⟩) la g,.slice (some ⟨b,j,none⟩) lb k]:=by simp[v.eval E,v.eval V]
  have D:∀us:cb,(#[]++us++#[])=us:=λus=>A3
  simp only[execOp,G,resolve,Act.eval,Deferred.ofValue,qC,qD,qE,invoke,z,D,u]) Xk
end
section plain
variable {α β:Type} [DecidableEq α]
def D7 (a:α):List (α×β)->Nat->Option (Nat×β)
 |[],_=>none
 |(x,y)::l,i=>if a=x then some (i,y) else D7 a l (i+1)
def C4 (a:α) (v:β):List (α×β)->List (α×β)
 |[]=>[(a,v)]
 |(x,y)::l=>if a=x then (a,v)::l else (x,y)::C4 a v l
def Cw (a:α):List (α×β)->Option β
 |[]=>none
 |(x,y)::l=>if a=x then some y else Cw a l
def MF {a:α} {v:β}:∀{l:List<|α×β} {i:Nat},D7 a l i=none->C4 a v l=l++[(a,v)]
 |[],i,h=>rfl
 |(x,y)::l,i,h=>by
  simp only[D7] at h
  split at h
  .cases h
  .rename_i hne
   simp only[C4,pQ hne]
   rw[MF (v:=v) h]; rfl
def Xav {a:α}:∀{l:List<|α×β} {i:Nat},Cw a l=(D7 a l i).map Prod.snd
 |[],i=>rfl
 |(x,y)::l,i=>by
  simp only[D7,Cw]
  split
  .rfl
  .exact Xav
def JF {a:α} {v y:β}:∀{l:List<|α×β} {i j:Nat},D7 a l i=some (j,y)->i<=j/\l[j-i]?=some (a,y)/\C4 a v l=l.set (j-i) (a,v)
 |[],i,j,h=>wU
 |(x,z)::l,i,j,h=>by
  simp only[D7] at h
  split at h
  .rename_i he
   cases h
   subst he
   simp[C4]
  .rename_i hne
   obtain⟨d,c,b⟩:=JF (v:=v) h
   have e:j-i=(j-(i+1))+1:=J
   simp only[C4,pQ hne]
   rw[e]
   exact⟨J,dP,by rw[sC,b]⟩
end plain
section
variable {P:d8} {n:Nat} {L:Env} {X:aU} {o:Oper} {Q:aB} {K:aO}
variable {w0:d7} {D:bm} {H:ci} {α β:Type} [DecidableEq α] {kf:α->d0} {vf:β->d0}
def jj (b:Nat) (kf:α->d0) (vf:β->d0) (l:List<|α×β):Nr:=⟨some b,λo=>∃m c,o=some (.map m c)/\m.toList.map (λe=>(e.key,e.val))=l.map (λp=>(kf p.1,vf p.2))⟩
structure JZ (P:d8) (kt:d4) (kf:α->d0):Prop where
 ck:∀em w a,(Instr.checkKey em 10000 kt (kf a)).run P w=.ok () w
 find:∀w a (es:List MapEntry) (β:Type) (vf:β->d0) (l:List (α×β)),es.map (λe=>(e.key,e.val))=l.map (λp=>(kf p.1,vf p.2))->(Instr.findKey kt (kf a) es).run P w=.ok ((D7 a l 0).map (λp=>(p.1,vf p.2))) w
 same:∀a,Instr.sameBits 10000 (kf a) (kf a)=true
def Xev {b:d4} (z:∀w a x,(Op.equal b (kf a)<|kf x).run P w=.ok (decide (a=x)) w) (w:d7) (a:α):∀(es:List MapEntry) (l:List<|α×β) (i:Nat),es.map (λe=>(e.key,e.val))=l.map (λp=>(kf p.1,vf p.2)) ->
 (Instr.findAsking b (kf a) es i).run P w=.ok ((D7 a l i).map<|λp=>(p.1,vf p.2)) w
 |[],[],i,h=>rfl
 |[],_::_,i,h=>wU
 |_::_,[],i,h=>wU
 |e::es,(x,y)::l,i,h=>by
  simp only[qG,List.cons.injEq,Prod.mk.injEq] at h
  obtain⟨⟨d,f⟩,c⟩:=h
  simp only[Instr.findAsking,d,qC,z,qE,D7]
  by_cases hax:a=x
  .simp[hax,f]
  .simp only[hax,decide_false,r5,r9]
   exact Xev z w a es l (i+1) c
omit [DecidableEq α] in
def Xix {b:Nat} {l:List<|α×β} {w:d7} (h:(jj b kf vf l).at w):∃m c,w.heap[b]?=some (.map m c)/\m.toList.map (λe=>(e.key,e.val))=l.map (λp=>(kf p.1,vf p.2)):=h
def MG {t k j:d4} {b:Nat} {l:List<|α×β} {w:d7} (a:α) {z:d0} (g:P.underlying t=some (.map k j)) (e:JZ P k kf) (o:∀w,(zeroValue j).run P w=.ok z w) (h:(jj b kf vf l).at w) (ok:Bool) :
 (Instr.lookup t (.map<|some b) (kf a) ok).run P w=.ok (if ok then .tuple #[match Cw a l with|some y=>vf y|none=>z,.bool (Cw a l).isSome] else match Cw a l with|some y=>vf y|none=>z) w:=by
 obtain⟨m,c,hm,n⟩:=Xix h;have f:(getObj b).run P w=.ok (.map m c) w:=og;have d:=e.find w a m.toList β vf l n;have x:=Xav (a:=a) (l:=l) (i:=0);unfold Instr.lookup;cases hfi:D7 a l 0 with
 |none =>
  rw[hfi] at d x;simp only[Option.map_none] at d x;simp[Be g,f,e.ck,d,o,x]
 |some p =>
  rw[hfi] at d x;simp only[qv] at d x;simp[Be g,f,e.ck,d,x]
def Xa7 {t e:d4} {i:TypeInfo} {z:d0} {x:d5} {b off m c:Nat} {T:d4} {cs:bi} (r:o.op=.call ⟨.builtin .clear,#[x],#[t]⟩) (hd:o.dst=none) (v:P.underlying t=some (.slice e)) (hi:P.info? e=some i) (C:i.zero=some z) (f:z.cells=#[z]) (g:z.oneCell')
 (q:ev L x=some (.slice (some ⟨b,off,none⟩) m c)) (s:off+m<=cs.length) (h:Pre n L (St w0 D<|Ac b T (splice cs off<|List.replicate m z)::H) K):Nl P n L (St w0 D<|Ac b T cs::H) o Q K :=
 Nl.ZN (β:=Unit) (λ_=>.tuple #[]) Tr (λ_=>St w0 D<|Ac b T (splice cs off<|List.replicate m z)::H) hd (λa w p F=>by
  have d:∀w,(zeroValue e).run P w=.ok z w:=λw=>by simp[zeroValue,typeInfo,hi,C]
  have l:(Builtin.zeroCells z.cells m).toList=List.replicate m z:=by
   rw[f];refine qA<|λj=>?_
   by_cases hj:j<m
   .simp[Builtin.zeroCells,hj,Nat.mod_one]
   rw[pH (by rw[rF,sP]; simp; omega),pH uj]
  obtain⟨B,y,A⟩:=CH (P:=P) (off:=off) (List.replicate m z) cs 0 F uj<|λu E=>by rw[(rC.1 E).2]; exact g
  rw[sf] at A;refine⟨(),B,?_,T0,A⟩;cases m with
  |zero =>
   have:B=w:=by
    simp[storeCells] at y; exact y.symm
   subst this;simp[execOp,r,resolve,invoke,builtin,p.eval q,Builtin.clear_,Be v]
  |succ k =>
   rw[<-l] at y
   simp[execOp,r,resolve,invoke,builtin,p.eval q,Builtin.clear_,Be v,d,y]) Xk
def Xiy {t tx e:d4} {x y:d5} {s:ByteArray} {b off dn dc:Nat} {T:d4} {cs:bi} {d:Nat} (G:o.op=.call ⟨.builtin .copy,#[y,x],#[t,tx]⟩) (hd:o.dst=some d) (g:d.blt n) (r:P.underlying t=some (.slice e)) (m:∀w,(sizeOf e).run P w=.ok 1 w)
 (J:ev L y=some (.slice (some ⟨b,off,none⟩) dn dc)) (f:ev L x=some (.string s)) (i:s.size<=dn) (k:off+s.size<=cs.length)
 (h:Pre n ((d,aa (s.size:Nat))::L) (St w0 D<|Ac b T (splice cs off<|s.data.toList.map<|λq=>ab (q.toNat:Int))::H) K):Nl P n L (St w0 D<|Ac b T cs::H) o Q K :=
 Nl.val (β:=Unit) (λ_=>aa (s.size:Nat)) Tr (λ_=>St w0 D<|Ac b T (splice cs off<|s.data.toList.map<|λq=>ab (q.toNat:Int))::H) hd g (λa w j E=>by
  have B:(s.data.toList.map<|λq=>ab (q.toNat:Int)).length=s.size:=by rw[qY,rF]; rfl
  obtain⟨F,v,l⟩:=CH (P:=P) (off:=off) (s.data.toList.map<|λq=>ab (q.toNat:Int)) cs 0 E (by rw[B]; omega) (λu p=>by obtain⟨q,_,rfl⟩:=qj.1 p; rfl)
  rw[sf] at l
  have c:Nat.min s.size dn=s.size:=re i
  have C:(Builtin.firstCells 1 s.size<|.string s).run P w=.ok (s.data.toList.map<|λq=>ab (q.toNat:Int)).toArray w:=by
   have A:s.extract 0 s.size=s:=by
    apply ByteArray.ext;simp[ByteArray.data_extract]
   simp only[Builtin.firstCells,A];show Result.ok _ w=_
   congr 1;apply sO.1;simp
  have z:(Builtin.lenOf<|.string s).run P w=.ok s.size w:=rfl;refine⟨(),F,?_,T0,l⟩
  simp[execOp,G,resolve,invoke,builtin,j.eval J,j.eval f,Builtin.copy_,Be r,z,m,c,C,v,goInt])<|λ_ _=>h
end
open Go.RowKit Go.MapKept Go.Proofs.YtloldofjddbjoaaGreat
section plain
variable {α β:Type} [DecidableEq α]
def PT (a:α):List (α×β)->Nat
 |[]=>0
 |(x,_)::l=>if a=x then 0 else PT a l+1
def XfO (a:α) (v u:β):∀l:List<|α×β,(C4 a v l).set (PT a l) (a,u)=C4 a u l
 |[]=>rfl
 |(x,y)::l=>by
  simp only[C4,PT]
  by_cases h:a=x
  .simp[h]
  .simp only[pQ h,sC]; rw[XfO a v u l]
def Xhd (a:α) (v:β):∀l:List<|α×β,(C4 a v l)[PT a l]?=some (a,v)
 |[]=>rfl
 |(x,y)::l=>by
  simp only[C4,PT]
  by_cases h:a=x
  .simp[h]
  .simp only[pQ h,rr]; exact Xhd a v l
def J0 (a:α) (v:β):∀l:List<|α×β,Cw a (C4 a v l)=some v
 |[]=>by simp[C4,Cw]
 |(x,y)::l=>by
  simp only[C4]
  by_cases h:a=x
  .subst h; simp[Cw]
  .simp only[pQ h,Cw]; exact J0 a v l
def WD {a:α} {y:β}:∀{l:List<|α×β} {i j:Nat},D7 a l i=some (j,y)->j=i+PT a l
 |[],i,j,h=>wU
 |(x,z)::l,i,j,h=>by
  simp only[D7] at h
  simp only[PT]
  split at h
  .rename_i he; cases h; simp[he]
  .rename_i hne; have:=WD h; rw[pQ hne]; omega
def XfP {a:α}:∀{l:List<|α×β} {i:Nat},D7 a l i=none->PT a l=l.length
 |[],i,h=>rfl
 |(x,z)::l,i,h=>by
  simp only[D7] at h
  simp only[PT]
  split at h
  .cases h
  .rename_i hne; rw[pQ hne,XfP h]; rfl
end plain
section
variable {P:d8} {n:Nat} {L:Env} {X:aU} {o:Oper} {Q:aB} {K:aO}
variable {w0:d7} {D:bm} {H:ci} {α β:Type} [DecidableEq α] {kf:α->d0} {vf:β->d0}
end
def Es {α β:Type} (f:α->β):∀(l:List α) (i:Nat),(l.eraseIdx i).map f=(l.map f).eraseIdx i
 |[],_=>rfl
 |_::_,0=>rfl
 |_::l,i+1=>by simp only[ta,qG]; rw[Es f l i]
section plain
variable {α β:Type} [DecidableEq α]
def BY (a:α):List (α×β)->List (α×β)
 |[]=>[]
 |(x,y)::l=>if a=x then l else (x,y)::BY a l
def MH {a:α}:∀{l:List<|α×β} {i:Nat},D7 a l i=none->BY a l=l
 |[],i,h=>rfl
 |(x,y)::l,i,h=>by
  simp only[D7] at h
  split at h
  .cases h
  .rename_i hne; simp only[BY,pQ hne]; rw[MH h]
def MI {a:α} {y:β}:∀{l:List<|α×β} {i j:Nat},D7 a l i=some (j,y)->i<=j/\BY a l=l.eraseIdx (j-i)
 |[],i,j,h=>wU
 |(x,z)::l,i,j,h=>by
  simp only[D7] at h
  split at h
  .rename_i he; cases h; simp[BY,he]
  .rename_i hne
   obtain⟨c,b⟩:=MI h
   have e:j-i=(j-(i+1))+1:=J
   simp only[BY,pQ hne]
   rw[e,ta,b]
   exact⟨J,rfl⟩
def IT {a b:α} (h:a≠b):∀l:List<|α×β,Cw b (BY a l)=Cw b l
 |[]=>rfl
 |(x,y)::l=>by
  simp only[BY]
  by_cases e:a=x
  .subst e; rw[pN rfl]; simp only[Cw,pQ h.symm]
  .rw[pQ e]; simp only[Cw,IT h l]
def IU {a b:α} {v:β} (h:a≠b):∀l:List<|α×β,Cw b (C4 a v l)=Cw b l
 |[]=>by simp[C4,Cw,h.symm]
 |(x,y)::l=>by
  simp only[C4]
  by_cases e:a=x
  .subst e; rw[pN rfl]; simp only[Cw,pQ h.symm]
  .rw[pQ e]; simp only[Cw,IU h l]
end plain
section
variable {P:d8} {n:Nat} {L:Env} {X:aU} {o:Oper} {Q:aB} {K:aO}
variable {w0:d7} {D:bm} {H:ci} {α β:Type} [DecidableEq α] {kf:α->d0} {vf:β->d0}
def XfQ {b:d4} (k:d6) (z:P.underlying b=some (.int k)):JZ P b (Value.int k):=by
 refine⟨λem w a=>run_checkKey z (show IsKey (.int k) (.int k a) from rfl) em 9999,λw a es β vf l h=>run_findKey z ?_,λa=>?_⟩
 .suffices ∀(es:List MapEntry) (l:List<|Int×β) (i:Nat),es.map (λe=>(e.key,e.val))=l.map (λp=>(Value.int k p.1,vf p.2))->Instr.findNow (.int k) (.int k a) es i=some ((D7 a l i).map<|λp=>(p.1,vf p.2)) from this es l 0 h
  intro es
  induction es with
  |nil=>intro l i h; cases l with
   |nil=>rfl
   |cons p l=>cases h
  |cons e es ih =>
   intro l i h;cases l with
   |nil=>cases h
   |cons p l =>
    obtain⟨x,y⟩:=p;simp only[qG,List.cons.injEq,Prod.mk.injEq] at h;obtain⟨⟨d,c⟩,g⟩:=h
    have f:Instr.sameNow (.int k) (.int k a) e.key=some (decide (a=x)):=by
     rw[d];show (if k=k then some (a == x) else none)=_
     rw[pN rfl];congr 1
    simp only[Instr.findNow,f,D7];by_cases hax:a=x
    .simp[hax,c]
    simp only[hax,decide_false,r9];exact ih l (i+1) g
 .show (k == k&&a == a)=true
  simp
def Fo (m:Array MapEntry) (c:Nat):Prop:=(∀x∈m.toList,x.born<c)/\(m.toList.map (·.born)).Nodup
def D1 (b:Nat) (kf:α->d0) (vf:β->d0) (l:List<|α×β):Nr:=⟨some b,λo=>∃m c,o=some (.map m c)/\m.toList.map (λe=>(e.key,e.val))=l.map (λp=>(kf p.1,vf p.2))/\Fo m c⟩
omit [DecidableEq α] in
def Rv {b:Nat} {l:List<|α×β} {w:d7} (h:(D1 b kf vf l).at w):(jj b kf vf l).at w:=by
 obtain⟨m,c,x,y,_⟩:=h; exact⟨m,c,x,y⟩
omit [DecidableEq α] in
def J1 {b:Nat} {l:List<|α×β} {w:d7} (h:(D1 b kf vf l).at w):∃m c,w.heap[b]?=some (.map m c)/\m.toList.map (λe=>(e.key,e.val))=l.map (λp=>(kf p.1,vf p.2))/\Fo m c:=h
omit [DecidableEq α] in
def JG {t:d4} {d:Nat} (kf:α->d0) (vf:β->d0) (c:o.op=.makeMap t none) (hd:o.dst=some d) (y:d.blt n) (h:∀b,Pre n ((d,.map<|some b)::L) (St w0 D<|D1 b kf vf []::H) K):Nl P n L (St w0 D H) o Q K :=
 Nl.val (β:=Nat) (λb=>.map<|some b) Tr (λb=>St w0 D<|D1 b kf vf []::H) hd y (λa w k x =>
  ⟨w.heap.size,w.alloc<|.map #[] 0,by simp[execOp,c,Instr.makeMap,newObj]; rfl,T0,x.alloc ⟨#[],0,rfl,rfl,by intro x z; simp at z,sh⟩⟩)<|λb _=>h b
omit [DecidableEq α] in
def XeC {m:Array MapEntry} {c:Nat} {k v:d0} (h:Fo m c):Fo (m.push {key:=k,val:=v,born:=c}) (c+1):=by
 refine⟨λx y=>?_,?_⟩
 .rw[Array.toList_push] at y;rcases rB.1 y with y|y
  .have:=h.1 x y; omega
  simp only[rU] at y; subst y; exact Nat.lt_succ_self _
 rw[Array.toList_push,qR,su];refine⟨h.2,j,λa d b z e=>?_⟩;obtain⟨x,y,rfl⟩:=qj.1 d;simp only[qG,qH,rU] at z;have:=h.1 x y;omega
omit [DecidableEq α] in
def XeX (m:Array MapEntry) (i:Nat) (k v:d0):(m.modify i λe=>{e with key:=k,val:=v}).toList.map (·.born)=m.toList.map (·.born):=by
 refine qA<|λj=>?_
 simp only[qq,s7,Array.getElem?_modify];split
 .rename_i hij; subst hij; cases m[i]?<;>rfl
 rfl
omit [DecidableEq α] in
def Xeo {m:Array MapEntry} {c i:Nat} {k v:d0} (h:Fo m c):Fo (m.modify i λe=>{e with key:=k,val:=v}) c:=by
 have z:=XeX m i k v;refine⟨λx a=>?_,by rw[z]; exact h.2⟩;have:x.born∈m.toList.map (·.born):=by rw[<-z]; exact qj.2 ⟨x,a,rfl⟩
 obtain⟨y,b,e⟩:=qj.1 this;rw[<-e]; exact h.1 y b
omit [DecidableEq α] in
def Xew {m:Array MapEntry} {c i:Nat} (h:Fo m c) (hi:i<m.size):Fo (m.eraseIdxIfInBounds i) c:=by
 have y:(m.eraseIdxIfInBounds i).toList=m.toList.eraseIdx i:=by
  exact ZHl
 have a:(m.toList.eraseIdx i).Sublist m.toList:=List.eraseIdx_sublist ..;exact⟨λx z=>h.1 x<|a.subset<|by rw[y] at z; exact z,by rw[y]; exact h.2.sublist<|a.map _⟩
def Xhe {t B M:d4} {b:Nat} {l:List<|α×β} {w:d7} (a:α) (v:β) (F:P.underlying t=some (.map B M)) (n:JZ P B kf) (h:St w0 D (D1 b kf vf l::H) w) :
 ∃w',(Instr.mapUpdate t (.map<|some b) (kf a)<|vf v).run P w=.ok () w'/\St w0 D (D1 b kf vf (C4 a v l)::H) w':=by
 obtain⟨m,c,hm,d,K⟩:=J1<|h.at 0 rfl;have u:b<w.heap.size:=(pY.1 hm).1;have C:(getObj b).run P w=.ok (.map m c) w:=og;have G:∀m' c',(setObj b<|.map m' c').run P w=.ok () {w with heap:=w.heap.setIfInBounds b<|.map m' c'}:=λm' c'=>by simp[setObj,Sem.run,hm]
 have f:∀(m':Array MapEntry) (c':Nat) (l':List<|α×β),m'.toList.map (λe=>(e.key,e.val))=l'.map (λp=>(kf p.1,vf p.2))->Fo m' c'->St w0 D (D1 b kf vf l'::H) {w with heap:=w.heap.setIfInBounds b<|.map m' c'}:=λm' c' l' s q =>
  h.write rfl rfl rfl A3 (λk o=>by simp[rP,rQ o]) ⟨m',c',by simp[rP,u],s,q⟩
 have x:=n.find w a m.toList β vf l d;unfold Instr.mapUpdate;cases hfi:D7 a l 0 with
 |none =>
  rw[hfi] at x;simp only[Option.map_none] at x;refine⟨_,by simp[Be F,C,n.ck,x,G],f (m.push {key:=kf a,val:=vf v,born:=c}) (c+1) (C4 a v l) ?_<|XeC K⟩;rw[MF hfi];simp[d]
 |some p =>
  obtain⟨i,y⟩:=p;rw[hfi] at x;simp only[qv] at x;obtain⟨_,g,J⟩:=JF (v:=v) hfi;simp only[Nat.sub_zero] at g J
  have hi:i<m.size:=by
   have E:=(qp.1 g).1;have:=congrArg List.length d;simp at this; omega
  have o:(m[i]?.map (·.key)).getD (kf a)=kf a:=by
   have A:(m.toList.map<|λe=>(e.key,e.val))[i]?=some (kf a,vf y):=by rw[d]; simp[g]
   simp only[qq,s7,rv] at A;obtain⟨e,L,N⟩:=A;rw[L];simp only[qv,qx];exact congrArg Prod.fst N
  have r:(Instr.keyThatStays (kf a)<|kf a).run P w=.ok (kf a) w:=by unfold Instr.keyThatStays; rw[pN<|n.same a]; rfl
  refine⟨_,by simp[Be F,C,n.ck,x,o,r,G],f (m.modify i λe=>{e with key:=kf a,val:=vf v}) c (C4 a v l) ?_<|Xeo K⟩;rw[J];refine qA<|λj=>?_
  have z:(m.toList.map<|λe=>(e.key,e.val))[j]?=(l.map<|λp=>(kf p.1,vf p.2))[j]?:=Yr;simp only[qq,s7] at z;simp only[qq,s7,Array.getElem?_modify,tb];by_cases hij:i=j
  .subst hij;have E:=(qp.1 g).1;simp[hi,E]
  simp only[pQ hij];exact z
def PV {t c m:d4} {x k y:d5} {b:Nat} {l:List<|α×β} (a:α) (v:β) (r:o.op=.mapUpdate t x k y) (hd:o.dst=none) (e:P.underlying t=some (.map c m)) (g:JZ P c kf)
 (d:ev L x=some (.map<|some b)) (i:ev L k=some (kf a)) (s:ev L y=some (vf v)) (h:Pre n L (St w0 D<|D1 b kf vf (C4 a v l)::H) K):Nl P n L (St w0 D<|D1 b kf vf l::H) o Q K :=
 Nl.skip _ hd (λu w z p=>by
  obtain⟨q,f,j⟩:=Xhe (P:=P) a v e g p
  exact⟨q,by simp[execOp,r,z.eval d,z.eval i,z.eval s,f],j⟩) h
def XeY {t o G t2 ty:d4} {b:Nat} {l:List<|α×β} {w:d7} (a:α) (s:P.underlying t=some (.map o G)) (f:JZ P o kf) (h:St w0 D (D1 b kf vf l::H) w) :
 ∃w',(Builtin.delete_ #[t,t2] ty #[.map<|some b,kf a]).run P w=.ok (.tuple #[]) w'/\St w0 D (D1 b kf vf (BY a l)::H) w':=by
 obtain⟨m,c,hm,d,A⟩:=J1<|h.at 0 rfl;have n:b<w.heap.size:=(pY.1 hm).1;have q:(getObj b).run P w=.ok (.map m c) w:=og;have u:∀m' c',(setObj b<|.map m' c').run P w=.ok () {w with heap:=w.heap.setIfInBounds b<|.map m' c'}:=λm' c'=>by simp[setObj,Sem.run,hm]
 have z:∀(m':Array MapEntry) (c':Nat) (l':List<|α×β),m'.toList.map (λe=>(e.key,e.val))=l'.map (λp=>(kf p.1,vf p.2))->Fo m' c'->St w0 D (D1 b kf vf l'::H) {w with heap:=w.heap.setIfInBounds b<|.map m' c'}:=λm' c' l' j g =>
  h.write rfl rfl rfl A3 (λk F=>by simp[rP,rQ F]) ⟨m',c',by simp[rP,n],j,g⟩
 have x:=f.find w a m.toList β vf l d;unfold Builtin.delete_;cases hfi:D7 a l 0 with
 |none =>
  rw[hfi] at x;simp only[Option.map_none] at x;refine⟨_,by simp[Be s,q,f.ck,x,u],z m c (BY a l) ?_ A⟩;rw[MH hfi]; exact d
 |some p =>
  obtain⟨i,y⟩:=p;rw[hfi] at x;simp only[qv] at x;obtain⟨_,r⟩:=MI hfi;rw[Nat.sub_zero] at r;have E:m.size=l.length:=by have:=congrArg List.length d; simpa using this
  have hi:i<m.size:=by
   obtain⟨_,B,_⟩:=JF (v:=y) hfi;have:=(qp.1 B).1;omega
  refine⟨_,by simp[Be s,q,f.ck,x,u],z (m.eraseIdxIfInBounds i) c (BY a l) ?_<|Xew A hi⟩;rw[r]
  have C:(m.eraseIdxIfInBounds i).toList=m.toList.eraseIdx i:=by
   exact ZHl
  rw[C,Es,d,Es]
def IV {t z j t2:d4} {x k:d5} {b:Nat} {l:List<|α×β} (a:α) (q:o.op=.call ⟨.builtin .delete,#[x,k],#[t,t2]⟩) (hd:o.dst=none) (d:P.underlying t=some (.map z j)) (f:JZ P z kf)
 (c:ev L x=some (.map<|some b)) (g:ev L k=some (kf a)) (h:Pre n L (St w0 D<|D1 b kf vf (BY a l)::H) K):Nl P n L (St w0 D<|D1 b kf vf l::H) o Q K :=
 Nl.ZN (β:=Unit) (λ_=>.tuple #[]) Tr (λ_=>St w0 D<|D1 b kf vf (BY a l)::H) hd (λr w y m=>by
  obtain⟨p,e,i⟩:=XeY (P:=P) (t2:=t2) (ty:=o.type) a d f m
  exact⟨(),p,by simp[execOp,q,resolve,invoke,builtin,y.eval c,y.eval g,e],T0,i⟩) Xk
def ML {t d c:d4} {x k:d5} {b:Nat} {l:List<|α×β} (a:α) {z:d0} (f:o.op=.lookup t x k true) (g:P.underlying t=some (.map d c)) (j:JZ P d kf) (q:∀w,(zeroValue c).run P w=.ok z w)
 (e:ev L x=some (.map<|some b)) (m:ev L k=some (kf a)) (i:∀w,X w->(D1 b kf vf l).at w):MV P n L X o (.tuple #[match Cw a l with|some y=>vf y|none=>z,.bool (Cw a l).isSome]):=λr w h p=>by
 have:=MG (P:=P) a g j q (Rv<|i w p) true
 simp only[qX] at this
 simp[execOp,f,h.eval e,h.eval m,this]
 try rfl
def Xaw {t d c:d4} {x k:d5} {b:Nat} {l:List<|α×β} (a:α) {z:d0} (f:o.op=.lookup t x k false) (g:P.underlying t=some (.map d c)) (j:JZ P d kf) (q:∀w,(zeroValue c).run P w=.ok z w)
 (e:ev L x=some (.map<|some b)) (m:ev L k=some (kf a)) (i:∀w,X w->(D1 b kf vf l).at w):MV P n L X o (match Cw a l with|some y=>vf y|none=>z):=λr w h p=>by
 have:=MG (P:=P) a g j q (Rv<|i w p) false
 simp only[r5,r9] at this
 simp[execOp,f,h.eval e,h.eval m,this]
 try rfl
def WH (b:Nat) (m:Array MapEntry) (c:Nat) (w:d7):Prop:=w.heap[b]?=some (.map m c)
def X0 (r b c:Nat) (seen:Array Nat):Nr:=⟨some r,λo=>o=some (.mapIter (some b) c seen c)⟩
omit [DecidableEq α] in
def KM {b:Nat} {m:Array MapEntry} {c:Nat} {w:d7} (h:WH b m c w0) (s:St w0 D H w) (x:b∉D):WH b m c w:=(s.keep.block b (pY.1 h).1 x).trans h
omit [DecidableEq α] in
def Xiz {t z y:d4} {x:d5} {d b c:Nat} {m:Array MapEntry} (j:o.op=.range t x) (hd:o.dst=some d) (i:d.blt n) (f:P.underlying t=some (.map z y)) (e:ev L x=some (.map<|some b)) (g:∀w,St w0 D H w->WH b m c w)
 (h:∀r,Pre n ((d,pV r)::L) (St w0 D<|X0 r b c #[]::H) K):Nl P n L (St w0 D H) o Q K :=
 Nl.val (β:=Nat) (λr=>pV r) Tr (λr=>St w0 D<|X0 r b c #[]::H) hd i (λa w k s =>
  ⟨w.heap.size,_,by simp[execOp,j,k.eval e,run_range_map w t z y b m c f<|g w s],T0,s.alloc rfl⟩)<|λr _=>h r
omit [DecidableEq α] in
def Xj5 {x:d5} {d r b c:Nat} {m:Array MapEntry} {h:Array Nat} (p:o.op=.next x false) (hd:o.dst=some d) (E:d.blt n) (l:ev L x=some (pV r)) (F:∀x∈m.toList,x.born<c)
 (A:∀w,St w0 D (X0 r b c h::H) w->WH b m c w)
 (v:(leftOf m h).size=0->Pre n ((d,.tuple #[.bool false])::L) (St w0 D<|X0 r b c h::H) K)
 (t:∀e,e∈(leftOf m h).toList->Pre n ((d,.tuple #[.bool true,e.key,e.val])::L) (St w0 D<|X0 r b c (h.push e.born)::H) K):Nl P n L (St w0 D<|X0 r b c h::H) o Q K :=
 Nl.val (β:=Option MapEntry) (λy=>match y with|none=>.tuple #[.bool false]|some e=>.tuple #[.bool true,e.key,e.val]) (λy=>match y with|none=>(leftOf m h).size=0|some e=>e∈(leftOf m h).toList)
  (λy=>match y with|none=>St w0 D (X0 r b c h::H)|some e=>St w0 D<|X0 r b c (h.push e.born)::H) hd E (λa w k s=>by
  have g:w.heap[r]?=some (.mapIter (some b) c h c):=s.at 0 rfl
  rcases run_next_at (P:=P) w o.type r b c c h m c g (A w s) F (qb _) with⟨u,z⟩|⟨e,B,w1,f,z⟩
  .exact⟨none,w,by simp[execOp,p,k.eval l,z],u,s⟩
  .refine⟨some e,ChangeMaps.setBlock w1 r<|.mapIter (some b) c (h.push e.born) c,by simp[execOp,p,k.eval l,z],B,?_⟩
   have j:St w0 D (X0 r b c h::H) w1:=by
    rcases f with rfl|rfl
    .exact s
    exact s.drew
   have i:r<w1.heap.size:=by
    have:w1.heap[r]?=some (.mapIter (some b) c h c):=j.at 0 rfl;exact (pY.1 this).1
   exact j.write rfl rfl rfl (by simp[ChangeMaps.setBlock]) (λk C=>by simp[ChangeMaps.setBlock,rP,rQ C]) (by simp[ChangeMaps.setBlock,rP,i])) (λy q=>by
  cases y with
  |none=>exact v q
  |some e=>exact t e q)
omit [DecidableEq α] in
def XiA {x:d5} {r b c:Nat} {m:Array MapEntry} {h:Array Nat} {e:MapEntry} (i:o.op=.entry x) (g:ev L x=some (pV r)) (f:(m.toList.map (·.born)).Nodup) (d:e∈m.toList)
 (z:∀w,X w->WH b m c w) (hi:∀w,X w->(X0 r b c<|h.push e.born).at w):MV P n L X o (.tuple #[e.key,e.val]):=λa w k y=>by
 have:=run_entry_at (P:=P) w r b c h m c e (hi w y) (z w y) d f
 simp[execOp,i,k.eval g,this]
def Vb (m:Array MapEntry) (seen:Array Nat):Nat:=(m.toList.filter<|λe=>!seen.contains e.born).length
omit [DecidableEq α] in
def Xa8 {m:Array MapEntry} {x:Array Nat} {e:MapEntry} (h:e∈(leftOf m x).toList):e∈m.toList/\x.contains e.born=false:=by
 unfold leftOf at h;rw[Array.toList_filter] at h;obtain⟨y,z⟩:=tc.1 h;exact⟨y,jc⟩
omit [DecidableEq α] in
def XfR {m:Array MapEntry} {seen:Array Nat} {e:MapEntry} (h:e∈(leftOf m seen).toList):Vb m (seen.push e.born)<Vb m seen:=by
 obtain⟨a,b⟩:=Xa8 h;unfold Vb;have y:¬e.born∈seen:=jZ;refine filter_lt _ _ (λx z=>?_) e (by simp[y]) j m.toList a;simp only[Array.contains_push,Bool.not_or,qW] at z
 simp_all
omit [DecidableEq α] in
def XfS {m:Array MapEntry} {x:Array Nat} (h:(leftOf m x).size=0):∀e∈m.toList,x.contains e.born=true:=by
 intro e y;cases hc:x.contains e.born with
 |true=>rfl
 |false =>
  have:e∈(leftOf m x).toList:=by
   unfold leftOf; rw[Array.toList_filter]; exact tc.2 ⟨y,by simpa using hc⟩
  have z:(leftOf m x).toList.length=0:=sv;rw[pR z] at this;cases this
def Nr.keep {e:Nr} {w:d7} {b:Nat} (h:e.at w0) (s:St w0 D H w) (z:e.b=some b) (x:b<w0.heap.size) (a:b∉D):e.at w:=Nr.eG (λk y=>by rw[z] at y; cases y; exact s.keep.block b x a) h
omit [DecidableEq α] in
def RA {b:Nat} {t:d4} {cs:bi} {w:d7} (h:(Ac b t cs).at w0) (s:St w0 D H w) (x:b∉D):(Ac b t cs).at w:=by
 have y:w0.heap[b]?=some (.cells cs.toArray t (0,0)):=h;exact Nr.keep h s rfl (pY.1 y).1 x
omit [DecidableEq α] in
def Xax {b:Nat} {l:List<|α×β} {w:d7} (h:(D1 b kf vf l).at w0) (s:St w0 D H w) (y:b∉D):(D1 b kf vf l).at w:=by
 obtain⟨m,c,x,_⟩:=J1 h;exact Nr.keep h s rfl (pY.1 x).1 y
end
end Go.Sep
namespace Go.Proofs.YtloldofjddbjoaaGreat
open Go.Sep Go.RowKit Tryz
variable {z a0 a1 a2 a3 a4 a5 a6 a7 a8 a9 a10 a11 a12 a13 a14 a15 a16:Nr} {n:Int} {l:bf} {α:Type} {x y:d5} {m:Nat} {u:d4} {w:d7}
section
variable {n:Nat} {L:Env} {w0:d7} {D:bm} {H:ci} {F:aO}
def FL {z a0:Nr} (k:Pre n L (St w0 D<|z::a0::a1::a2::a3::a4::a5::a6::H) F):Pre n L (St w0 D<|a0::a1::a2::a3::a4::a5::a6::z::H) F:=k.world _<|λw s=>s.perm<|sQ (l₁:=[a0,a1,a2,a3,a4,a5,a6]) (l₂:=H)
def YP {z a0:Nr} (k:Pre n L (St w0 D<|z::a0::a1::a2::a3::a4::a5::a6::a7::H) F):Pre n L (St w0 D<|a0::a1::a2::a3::a4::a5::a6::a7::z::H) F:=k.world _<|λw s=>s.perm<|sQ (l₁:=[a0,a1,a2,a3,a4,a5,a6,a7]) (l₂:=H)
def Jp {z a0:Nr} (k:Pre n L (St w0 D<|z::a0::a1::a2::a3::a4::a5::a6::a7::a8::H) F):Pre n L (St w0 D<|a0::a1::a2::a3::a4::a5::a6::a7::a8::z::H) F:=k.world _<|λw s=>s.perm<|sQ (l₁:=[a0,a1,a2,a3,a4,a5,a6,a7,a8]) (l₂:=H)
def DF {z a0:Nr} (k:Pre n L (St w0 D<|z::a0::a1::a2::a3::a4::a5::a6::a7::a8::a9::H) F):Pre n L (St w0 D<|a0::a1::a2::a3::a4::a5::a6::a7::a8::a9::z::H) F:=k.world _<|λw s=>s.perm<|sQ (l₁:=[a0,a1,a2,a3,a4,a5,a6,a7,a8,a9]) (l₂:=H)
def TO {z a0:Nr} (k:Pre n L (St w0 D<|z::a0::a1::a2::a3::a4::a5::a6::a7::a8::a9::a10::H) F):Pre n L (St w0 D<|a0::a1::a2::a3::a4::a5::a6::a7::a8::a9::a10::z::H) F:=k.world _<|λw s=>s.perm<|sQ (l₁:=[a0,a1,a2,a3,a4,a5,a6,a7,a8,a9,a10]) (l₂:=H)
def PW {z a0:Nr} (k:Pre n L (St w0 D<|z::a0::a1::a2::a3::a4::a5::a6::a7::a8::a9::a10::a11::H) F):Pre n L (St w0 D<|a0::a1::a2::a3::a4::a5::a6::a7::a8::a9::a10::a11::z::H) F:=k.world _<|λw s=>s.perm<|sQ (l₁:=[a0,a1,a2,a3,a4,a5,a6,a7,a8,a9,a10,a11]) (l₂:=H)
def Xcd {z a0:Nr} (k:Pre n L (St w0 D<|z::a0::a1::a2::a3::a4::a5::a6::a7::a8::a9::a10::a11::a12::a13::H) F):Pre n L (St w0 D<|a0::a1::a2::a3::a4::a5::a6::a7::a8::a9::a10::a11::a12::a13::z::H) F:=k.world _<|λw s=>s.perm<|sQ (l₁:=[a0,a1,a2,a3,a4,a5,a6,a7,a8,a9,a10,a11,a12,a13]) (l₂:=H)
def PX {z a0:Nr} (k:Pre n L (St w0 D<|z::a0::a1::a2::a3::a4::a5::a6::a7::a8::a9::a10::a11::a12::a13::a14::a15::H) F):Pre n L (St w0 D<|a0::a1::a2::a3::a4::a5::a6::a7::a8::a9::a10::a11::a12::a13::a14::a15::z::H) F:=k.world _<|λw s=>s.perm<|sQ (l₁:=[a0,a1,a2,a3,a4,a5,a6,a7,a8,a9,a10,a11,a12,a13,a14,a15]) (l₂:=H)
def Xj6 {z a0:Nr} (k:Pre n L (St w0 D<|z::a0::a1::a2::a3::a4::a5::a6::a7::a8::a9::a10::a11::a12::a13::a14::a15::a16::H) F):Pre n L (St w0 D<|a0::a1::a2::a3::a4::a5::a6::a7::a8::a9::a10::a11::a12::a13::a14::a15::a16::z::H) F:=k.world _<|λw s=>s.perm<|sQ (l₁:=[a0,a1,a2,a3,a4,a5,a6,a7,a8,a9,a10,a11,a12,a13,a14,a15,a16]) (l₂:=H)
def Xj7 {z a0 a x h y:Nr} (k:Pre n L (St w0 D<|z::a0::a1::a2::a3::a4::a5::a6::a7::a8::a9::a10::a11::a12::a13::a14::a15::a16::a::x::h::y::H) F):Pre n L (St w0 D<|a0::a1::a2::a3::a4::a5::a6::a7::a8::a9::a10::a11::a12::a13::a14::a15::a16::a::x::h::y::z::H) F:=k.world _<|λw s=>s.perm<|sQ (l₁:=[a0,a1,a2,a3,a4,a5,a6,a7,a8,a9,a10,a11,a12,a13,a14,a15,a16,a,x,h,y]) (l₂:=H)
end
def Na (m:Nat):Kv m:=⟨0,List.replicate m 0,by simp,by decide,λx h=>by rw[(rC.1 h).2]; decide⟩
def YR {k:Nat} (h:k<=65536):(Lit.int .i64 (k:Int)).wf=true:=by
 exact ZB5
def Hx (l:bf):dt.flat l=l.map (.int .u8):=KJ dt (Value.int .u8) (λ_=>rfl) l
def jn (k:Kv m) {j:Nat} (h:j<m):k.c[1+j]?=some (ab<|k.b.getD j 0):=by
 rw[rp];have hj:j<k.b.length:=by rw[k.len]; exact h
 simp[Kv.c,sY,hj]
def OI (k:c3):Bool:=decide (0<=k.n/\k.n<=8/\∀i:Nat,i<8->k.n<=(i:Int)->k.b.getD i 0=0)
def Xce {k:c3} (h:k.n<0):OI k=false:=sS<|λx=>J
def Xcf {k:c3} (h:8<k.n):OI k=false:=sS<|λx=>J
def jo {k:c3} {i:Nat} (h:i<8) (x:k.n<=(i:Int)) (y:¬k.b.getD i 0=0):OI k=false:=sS<|λq=>y<|q.2.2 i h x
def Vc {k:c3} {m:Nat} (hm:k.n=(m:Int)) (y:m<=8) (h:∀j,m<=j->j<8->k.b.getD j 0=0):OI k=true:=sT ⟨J,J,λi x z=>h i J x⟩
def Bq (k:Kv m):(k.c.drop 0).take (m+1)=k.c:=pZ<|by rw[pU,Kv.oQ]; exact qb _
def WK (k:c3) (n:Nat) (h:n<=8):c3:=⟨n,k.b.take n++List.replicate (8-n) 0,by simp[k.len]; omega,YR<|by omega,λx hx=>by
 rcases rB.1 hx with hx|hx
 .exact k.wb x<|pF hx
 .rw[(rC.1 hx).2]; decide⟩
def XiB (k:c3) {n:Nat} (c:k.n=(n:Int)) (h:n<=8):decide (WK k n h=k)=OI k:=by
 unfold OI;rw[te];have x:(k.b.take n++List.replicate (8-n) 0).length=8:=jA;constructor
 .intro e;refine⟨J,J,λi hi f=>?_⟩;have d:k.b=k.b.take n++List.replicate (8-n) 0:=(congrArg Kv.b e).symm;rw[d,sY,pO uj,ru];split<;>rfl
 rintro⟨_,_,a⟩
 have g:k.b.take n++List.replicate (8-n) 0=k.b:=List.ext_getElem (by rw[k.len]; exact x) (λi j z=>by
  have hi:i<8:=by rw[<-k.len]; exact z
  rcases pG i n with y|y
  .rw[List.getElem_append_left uj,List.getElem_take]
  rw[List.getElem_append_right uj,List.getElem_replicate];have:=a i hi J;rw[sY,pE z] at this
  exact this.symm)
 exact Kv.ext' c.symm g
def kz (m:Nat) (n:Int) (h:(Lit.int .i64 n).wf=true):Kv m:=⟨n,List.replicate m 0,by simp,h,λx h=>by rw[(rC.1 h).2]; decide⟩
def mi (k:c3) {n:Nat} (h:n<=8):Sep.splice (aa (n:Int)::List.replicate 8 (ab 0)) 1 (dt.flat<|k.b.take<|min k.b.length n)=(WK k n h).c:=by
 have hm:min k.b.length n=n:=by rw[k.len]; omega
 have x:(k.b.take n).length=n:=jA;rw[hm,Hx,Sep.Vf _ _ _ jA];simp only[qY,x,Kv.c,WK,qR,qZ];rw[rp 1 n,pD,List.take_zero,ra,List.drop_replicate];rfl
def FU (s:ByteArray):(Q5 s).length=s.size:=by unfold Q5; rw[qY,rF]; rfl
def EU (x:Int):Prop:=0<=x/\x<=255
def Xhf {s:ByteArray} {x:Int} (h:x∈Q5 s):EU x:=by
 obtain⟨b,_,rfl⟩:=qj.1 h;have:=b.toNat_lt;exact⟨J,J⟩
def dT {x:Int} (h:EU x):(Lit.int .u8 x).wf=true:=by
 simp only[Lit.wf,qW,rA]; exact h
def XbR {x:Int} (h:(Lit.int .u8 x).wf):EU x:=Sep.wf_u8 h
def kmk (t:bf) (hl:t.length<=8) (hb:∀x∈t,EU x):c3:=⟨t.length,t++List.replicate (8-t.length) 0,by simp; omega,YR<|by omega,λx hx=>by
 rcases rB.1 hx with hx|hx
 .exact dT<|hb x hx
 .rw[(rC.1 hx).2]; decide⟩
def Xcg (t:bf) (h:t.length<=8) (z:∀x∈t,EU x):OI (kmk t h z)=true:=by
 refine Vc (m:=t.length) I h<|λj y a=>?_
 show (t++List.replicate (8-t.length) 0).getD j 0=0
 rw[sY,pO y,ru];split<;>rfl
def ZG (s:ByteArray) (h:s.size<=8):c3:=kmk (Q5 s) (by rw[FU]; exact h)<|λx hx=>Xhf hx
def tx (k:c3):bf:=if OI k then k.b.take k.n.toNat else []
def EI {k:c3} (h:OI k):∃m:Nat,k.n=(m:Int)/\m<=8/\tx k=k.b.take m/\(tx k).length=m/\k.b=tx k++List.replicate (8-m) 0:=by
 have x:=h;unfold OI at h;obtain⟨d,f,a⟩:=sW h;refine⟨k.n.toNat,J,J,by unfold tx; rw[x]; rfl,by unfold tx; rw[x]; simp[k.len]; omega,?_⟩;have c:tx k=k.b.take k.n.toNat:=by unfold tx; rw[x]; rfl
 rw[c];refine List.ext_getElem jA<|λi z e=>?_
 have hi:i<8:=by rw[<-k.len]; exact z
 rcases pG i k.n.toNat with y|y
 .rw[List.getElem_append_left uj,List.getElem_take]
 rw[List.getElem_append_right uj,List.getElem_replicate];have:=a i hi J;rw[sY,pE z] at this;exact this
def XbS {k:c3} {x:Int} (h:x∈tx k):EU x:=by
 unfold tx at h;split at h
 .exact XbR<|k.wb x<|pF h
 cases h
def XaK {a b:c3} (d:OI a) (c:OI b) (h:tx a=tx b):a=b:=by
 obtain⟨m,z,_,_,g,x⟩:=EI d;obtain⟨k,y,_,_,f,i⟩:=EI c;have e:m=k:=by rw[<-g,<-f,h]
 subst e;exact Kv.ext' (by rw[z,y])<|by rw[x,i,h]
def D9:bf->bf->Int
 |[],[]=>0
 |[],_::_=>-1
 |_::_,[]=>1
 |x::xs,y::ys=>if x<y then -1 else if y<x then 1 else D9 xs ys
def XbT:∀(l m:bf),(∀x∈l,EU x)->(∀x∈m,EU x)->Lib.compareBytes (l.map λn=>UInt8.ofNat n.toNat) (m.map λn=>UInt8.ofNat n.toNat)=D9 l m
 |[],[],_,_=>rfl
 |[],_::_,_,_=>rfl
 |_::_,[],_,_=>rfl
 |x::xs,y::ys,hx,hy=>by
  have h:=hx x<|rW ..
  have c:=hy y<|rW ..
  unfold EU at h c
  have d:∀{a b:Int},0<=a->a<=255->0<=b->b<=255->((UInt8.ofNat a.toNat<UInt8.ofNat b.toNat)↔a<b):=λ{a b} h c h3 h4=>by
   have e:∀n:Nat,(UInt8.ofNat n).toNat=n%256:=λn=>j
   rw[UInt8.lt_iff_toNat_lt,e,e]
   omega
  have i:=d h.1 h.2 c.1 c.2
  have g:=d c.1 c.2 h.1 h.2
  simp only[qG,Lib.compareBytes,D9,i,g]
  rw[XbT xs ys (λz f=>hx z<|sr _ f)<|λz f=>hy z<|sr _ f]
def RC:∀l:bf,D9 l l=0
 |[]=>rfl
 |x::l=>by simp[D9,RC l]
def J2:∀l m:bf,D9 m l = -D9 l m
 |[],[]=>rfl
 |[],_::_=>rfl
 |_::_,[]=>rfl
 |x::xs,y::ys=>by
  simp only[D9]
  by_cases h1:x<y
  .have:¬y<x:=by omega
   simp[h1,this]
  .by_cases h2:y<x
   .simp[h1,h2]
   .simp[h1,h2,J2 xs ys]
def Ip:∀{l m:bf},D9 l m=0->l=m
 |[],[],_=>rfl
 |[],_::_,h=>wU
 |_::_,[],h=>wU
 |x::xs,y::ys,h=>by
  simp only[D9] at h
  split at h
  .cases h
  .split at h
   .cases h
   .rw[Ip h,show x=y by omega]
def XfT:∀l m:bf,D9 l m = -1\/D9 l m=0\/D9 l m=1
 |[],[]=>.inr VY
 |[],_::_=>.inl rfl
 |_::_,[]=>.inr VZ
 |x::xs,y::ys=>by
  simp only[D9]
  split
  .exact .inl I
  .split
   .exact .inr<|.inr I
   .exact XfT xs ys
def IW:∀{a b c:bf},D9 a b<=0->D9 b c<=0->D9 a c<=0
 |[],_,[],_,_=>by simp[D9]
 |[],_,_::_,_,_=>by simp[D9]
 |_::_,[],_,h,_=>by simp[D9] at h
 |_::_,_::_,[],_,h=>by simp[D9] at h
 |x::xs,y::ys,z::zs,h1,h2=>by
  simp only[D9] at h1 h2 ⊢
  by_cases a1:x<y
  .by_cases b1:y<z
   .simp[show x<z by omega]
   .by_cases b2:z<y
    .simp[b1,b2] at h2
    .simp[show x<z by omega]
  .by_cases a2:y<x
   .simp[a1,a2] at h1
   .by_cases b1:y<z
    .simp[show x<z by omega]
    .by_cases b2:z<y
     .simp[b1,b2] at h2
     .simp[a1,a2] at h1
      simp[b1,b2] at h2
      simp[show ¬x<z by omega,show ¬z<x by omega]
      exact IW h1 h2
def Cm {a b c:bf} (x:D9 a b<0) (y:D9 b c<=0):D9 a c<0:=by
 have:=IW (qP x) y;rcases Int.lt_or_eq_of_le this with h|h
 .exact h
 have e:=Ip h;subst e;have:=J2 a b;omega
def Bs (a b:c3):Int:=D9 (tx a)<|tx b
def XfU (n:Int):(GW n).take 8=le n 8:=by
 unfold GW pad;rw[sK<|by rw[BE]; exact qb _];exact pZ<|by rw[BE]; exact qb _
def XiC (n:Int):∀b∈GW n,(Lit.int .u8 b).wf=true:=Tx 16<|λb h=>wf_u8 (Pu 8 n b h).1 (Pu 8 n b h).2
def XeQ (n:Int):Ds 8 (GW n)=true:=by
 have:=Mt 8 (GW n) A2;rw[show ((8:Nat):Int)=8 from rfl] at this;rw[this,XfU]; simp[GW]
def XiD (a:Int):0<=IntKind.u64.wrap a/\IntKind.u64.wrap a<18446744073709551616:=by simp only[pA]; omega
def XiE {a:Int} (x:0<=a) (h:a<18446744073709551616):IntKind.u64.wrap a=a:=by simp only[pA]; omega
def Qd (k:Kv 16):Bool:=Ds k.n k.b
def mj (z:Int):Kv 16:=⟨8,GW z,Ib z,by decide,XiC z⟩
def E5 (k:Kv 16) (z:Int):Kv 16:=mj<|IntKind.u64.wrap<|num (k.b.take 8)+z
structure Ms where
 kind:Int
 seq:Int
 key:c3
 val:Kv 16
 by':Int
 wk:(Lit.int .i64 kind).wf=true
 ws:(Lit.int .u64 seq).wf=true
 wy:(Lit.int .u64 by').wf=true
abbrev cp:=List Ms
namespace Ms
def c (m:Ms):bi:=[aa m.kind,am m.seq]++(m.key.c++(m.val.c++[am m.by']))
def ext' {a b:Ms} (x:a.kind=b.kind) (z:a.seq=b.seq) (h:a.key=b.key) (y:a.val=b.val) (c:a.by'=b.by'):a=b:=by
 cases a; cases b; simp only at x z h y c; subst x; subst z; subst h; subst y; subst c; rfl
instance:DecidableEq Ms:=λa b=>if h:a.kind=b.kind/\a.seq=b.seq/\a.key=b.key/\a.val=b.val/\a.by'=b.by' then isTrue (ext' h.1 h.2.1 h.2.2.1 h.2.2.2.1 h.2.2.2.2) else isFalse (λe=>h<|by subst e; exact⟨rfl,rfl,rfl,rfl,rfl⟩)
def oQ (m:Ms):m.c.length=29:=by simp[c,Kv.oQ]
def pd (m:Ms):(m.c.drop 2).take 9=m.key.c:=Rs rfl Nw
def WU (m:Ms):(m.c.drop 11).take 17=m.val.c:=by
 unfold c; rw[<-qQ]; exact Rs dS Nw
def aW (m:Ms):m.c[28]?=some (am m.by'):=by
 unfold c; rw[<-qQ,<-qQ,pO dS]; simp[Kv.oQ]
def fZ (m:Ms):m.c[11]?=some (aa m.val.n):=by
 unfold c; rw[<-qQ,pO dS]; simp[Kv.c,m.key.len]
def setKind (m:Ms) (k:Int) (h:(Lit.int .i64 k).wf=true):Ms:={m with kind:=k,wk:=h}
def ZL (m:Ms) (k:c3):Ms:={m with key:=k}
def SL (m:Ms) (v:Kv 16):Ms:={m with val:=v}
def TA (m:Ms) (z:Int) (h:(Lit.int .u64 z).wf=true):Ms:={m with by':=z,wy:=h}
def Xdn (m:Ms) (k:Int) (h:(Lit.int .i64 k).wf):m.c.set 0 (aa k)=(m.setKind k h).c:=rfl
def fU (m:Ms) (v:Kv 16):Sep.splice m.c 11 v.c=(m.SL v).c:=by
 unfold c; rw[<-qQ];rw[Hv dS jF,qQ]; rfl
def fQ (m:Ms) (z:Int) (h:(Lit.int .u64 z).wf):m.c.set 28 (am z)=(m.TA z h).c:=by
 unfold c; rw[<-qQ,<-qQ,rJ _ _ dS];simp[Kv.oQ,TA]
def one (m:Ms):∀v∈m.c,v.oneCell'=true:=by
 intro v h;unfold c at h;simp only[rB,pj,rX,rY] at h;rcases h with (rfl|rfl)|h|h|rfl
 .rfl
 .rfl
 .exact Kv.one _ v h
 .exact Kv.one _ v h
 rfl
def XH {a b:Ms}:a.c=b.c↔a=b:=by
 refine⟨λh=>?_,λh=>by rw[h]⟩;have x:=h;unfold c at h;simp only[pt,qU,List.cons.injEq,Value.int.injEq,true_and] at h;have d:a.key.c=b.key.c:=by rw[<-pd,<-pd,x]
 have z:a.val.c=b.val.c:=by rw[<-WU,<-WU,x]
 have y:a.c[28]?=b.c[28]?:=Uw;rw[aW,aW] at y;exact ext' h.1 h.2.1 (Kv.XH.1 d) (Kv.XH.1 z) dQ
def eU {a b:Ms}:a.c=b.c↔decide (a=b)=true:=by rw[XH,rA]
def enc:Enc Ms:={sz:=29,f:=Ms.c,len:=oQ,pos:=A2,one:=one}
def ks:cB:=[Sc.i .i64,Sc.i .u64]++(Kv.ks 8++(Kv.ks 16++[Sc.i .u64]))
end Ms
def G0 {a b:cB} {xs ys:bi} (h:Kinds a xs) (z:Kinds b ys):Kinds (a++b) (xs++ys):=by
 refine⟨by rw[pK,pK,h.1,z.1],λj q v y x=>?_⟩;rcases pG j a.length with hj|hj
 .rw[pL hj] at y;rw[pL (by have:=h.1; omega)] at x;exact h.2 j q v y x
 rw[pO hj] at y;rw[pO (by have:=h.1; omega),h.1] at x;exact z.2 _ q v y (by have:=h.1; first|exact x|(rw[this] at *; exact x))
def KN {k:Sc} {v:d0} (h:k.ok v):Kinds [k] [v]:=⟨rfl,λj q u x y=>by
 cases j with
 |zero=>simp at x y; subst x; subst y; exact h
 |succ j=>simp at x⟩
def Ms.kinds (m:Ms):Kinds Ms.ks m.c:=by
 have h:Kinds [Sc.i .i64,Sc.i .u64] [aa m.kind,am m.seq]:=G0 (a:=[_]) (xs:=[_]) (KN<|show Sc.ok (.i .i64) _ from⟨_,rfl,m.wk⟩)<|KN<|show Sc.ok (.i .u64) _ from⟨_,rfl,m.ws⟩
 exact G0 h<|G0 (Kv.kinds m.key)<|G0 (Kv.kinds m.val)<|KN<|show Sc.ok (.i .u64) _ from⟨_,rfl,m.wy⟩
section
variable {n:Nat} {L:Env} {X:aU} {o:Oper}
def YW (k j:c3) (z:o.op=.binOp .eql 77 x y u) (h:ev L x=some (.agg k.c.toArray)) (a:ev L y=some (.agg j.c.toArray)):MV prog n L X o (.bool<|decide (k=j)) :=
 PR (d:=3) (ks:=Kv.ks 8) _ A6 A6 A2 A6 A6 A6 z h a (Kv.kinds k) (Kv.kinds j) Kv.eU
def mn (k j:c3) (z:o.op=.binOp .neq 77 x y u) (h:ev L x=some (.agg k.c.toArray)) (a:ev L y=some (.agg j.c.toArray)):MV prog n L X o (.bool<|!decide (k=j)) :=
 Xbm (d:=3) (ks:=Kv.ks 8) _ A6 A6 A2 A6 A6 A6 z h a (Kv.kinds k) (Kv.kinds j) Kv.eU
def Xch (k j:Kv 16) (z:o.op=.binOp .eql 56 x y u) (h:ev L x=some (.agg k.c.toArray)) (a:ev L y=some (.agg j.c.toArray)):MV prog n L X o (.bool<|decide (k=j)) :=
 PR (d:=3) (ks:=Kv.ks 16) _ A6 A6 A2 A6 A6 A6 z h a (Kv.kinds k) (Kv.kinds j) Kv.eU
def YY (k j:Kv 16) (z:o.op=.binOp .neq 56 x y u) (h:ev L x=some (.agg k.c.toArray)) (a:ev L y=some (.agg j.c.toArray)):MV prog n L X o (.bool<|!decide (k=j)) :=
 Xbm (d:=3) (ks:=Kv.ks 16) _ A6 A6 A2 A6 A6 A6 z h a (Kv.kinds k) (Kv.kinds j) Kv.eU
end
def OD (m:Ms):Bool:=OI m.key&&(if m.kind=1 then Qd m.val&&decide (m.by'=0) else if m.kind=2 then decide (m.by'=0)&&decide (m.val=Na 16) else if m.kind=3 then decide (m.val=Na 16) else false)
def BF (m:Ms):(m.c.drop 0).take 29=m.c:=pZ<|by rw[pU,Ms.oQ]; exact qb _
def F7 {k:c3} (h:OI k):0<=k.n/\k.n<=8:=by
 unfold OI at h; have:=sW h; exact⟨this.1,this.2.1⟩
def GP {k:Kv 16} (h:Qd k):0<=k.n/\k.n<=16:=by
 unfold Qd Ds at h; have:=sW h; exact⟨this.1,this.2.1⟩
def ms0:Ms:=⟨0,0,Na 8,Na 16,0,by decide,by decide,by decide⟩
def Qq (m:Ms):Int:=if OD m=true then 10+m.key.n+(if m.kind=1 then 1+m.val.n else if m.kind=3 then 8 else 0) else 0
def J3 {m:Ms} (h:OD m):0<=m.key.n/\m.key.n<=8:=by
 unfold OD at h; rw[qW] at h; exact F7 h.1
def J4 {m:Ms} (h:OD m) (x:m.kind=1):0<=m.val.n/\m.val.n<=16:=by
 unfold OD at h; rw[qW,pN x,qW] at h; exact GP h.2.1
def IX (z:Int):(Lit.int .u64<|IntKind.u64.wrap z).wf=true:=by
 have:=XiD z;simp only[Lit.wf,qW,rA];exact⟨this.1,by show _<=(2^64-1:Int); omega⟩
def TP {z:Int} (h:(Lit.int .u64 z).wf):0<=z/\z<18446744073709551616:=by have:=Sep.wf_u64 h; omega
def QE (a b:Ms):Ms:=if b.kind≠3\/a.key≠b.key then b else if a.kind=2 then {b with kind:=1,val:=E5 (Na 16) b.by',by':=0,wk:=A2,wy:=A2} else
 if a.kind=1 then {b with kind:=1,val:=E5 a.val b.by',by':=0,wk:=A2,wy:=A2} else if a.kind=3 then {b with by':=IntKind.u64.wrap (b.by'+a.by'),wy:=IX _} else b
def F8 (v:Kv 16) (t:Bool) (m:Ms):Kv 16×Bool:=if m.kind=1 then (m.val,true) else if m.kind=3 then (E5 (if t=true then v else Na 16) m.by',true) else (Na 16,false)
def IY {m:Ms} (h:OD m):m.kind=1\/m.kind=2\/m.kind=3:=by
 unfold OD at h;rw[qW] at h;have x:=h.2;split at x
 .exact .inl ‹_›
 split at x
 .exact .inr<|.inl ‹_›
 split at x
 .exact .inr<|.inr ‹_›
 cases x
def XbU {m:Ms} (h:OD m) (x:m.kind=3):m.val=Na 16:=by
 unfold OD at h;rw[qW,pQ J,pQ J,pN x] at h;exact sW h.2
def mk3 (k q:Int) (key:c3) (wk:(Lit.int .i64 k).wf=true) (wq:(Lit.int .u64 q).wf=true):Ms:=⟨k,q,key,Na 16,0,wk,wq,by decide⟩
def G1 (k:c3):∃a b c d e f g h:Int,k.b=[a,b,c,d,e,f,g,h]:=by
 obtain⟨n,b,len,_,_⟩:=k
 match b,len with
 |[a,b,c,d,e,f,g,h],_=>exact⟨a,b,c,d,e,f,g,h,rfl⟩
def B8 {α:Type} (p:α->Bool) (l:List α):Option Nat:=l.findIdx? p
def io:Option Nat->Int
 |some k=>(k:Int)
 |none=>-1
def Db {p:α->Bool} {l:List α} {k:Nat} {y:α} (h:l[k]?=some y) (b:p y) (a:∀z∈l.take k,p z=false):B8 p l=some k:=by
 unfold B8;have x:=(qp.1 h).1;rw[List.findIdx?_eq_some_iff_getElem];refine⟨x,by rw[(qp.1 h).2]; exact b,λj hj=>?_⟩;have:=a l[j]<|by rw[List.mem_take_iff_getElem]; exact⟨j,J,rfl⟩
 simp[this]
def DG {p:α->Bool} {l:List α} (h:∀z∈l,p z=false):B8 p l=none:=by
 unfold B8; rw[List.findIdx?_eq_none_iff]; exact h
def Dd {p:α->Bool} {l:List α} {k:Nat} (h:B8 p l=some k):∃y,l[k]?=some y/\p y=true/\∀j z,j<k->l[j]?=some z->p z=false:=by
 unfold B8 at h;rw[List.findIdx?_eq_some_iff_getElem] at h;obtain⟨x,b,a⟩:=h;refine⟨l[k],pE x,b,λj z hj c=>?_⟩;have:=a j hj;rw[<-(qp.1 c).2]; simpa using this
def Fp {p:α->Bool} {l:List α} (h:B8 p l=none):∀z∈l,p z=false:=by
 unfold B8 at h; rw[List.findIdx?_eq_none_iff] at h; exact h
def XaT {β:Type} (f:α->β) (p:β->Bool) (l:List α):B8 p (l.map f)=B8 (λx=>p<|f x) l:=by
 unfold B8; rw[List.findIdx?_map]; rfl
def Fb {p:α->Bool} {l:List α} {k:Nat} {y:α} (h:∀z∈l.take k,p z=false) (b:l[k]?=some y) (a:p y=false):∀z∈l.take (k+1),p z=false:=λz x=>by
 rw[sH,b] at x
 rcases rB.1 x with x|x
 .exact h z x
 .simp at x; subst x; exact a
def RG {o:Option Nat}:decide (0<=io o)=o.isSome:=by cases o with
 |none=>rfl
 |some k=>exact sT<|by simp[io]
structure Sv where
 a:ce
 n:Nat
 c:Nat
abbrev Sv.v (s:Sv):d0:=.slice s.a s.n s.c
def sv0:Sv:=⟨none,0,0⟩
structure En where
 key:c3
 val:Kv 16
abbrev ct:=List En
namespace En
def c (e:En):bi:=e.key.c++e.val.c
def oQ (e:En):e.c.length=26:=by simp[c,Kv.oQ]
def one (e:En):∀v∈e.c,v.oneCell'=true:=λv h=>by
 rcases rB.1 h with h|h
 .exact Kv.one _ _ h
 .exact Kv.one _ _ h
def ext' {a b:En} (x:a.key=b.key) (h:a.val=b.val):a=b:=by cases a; cases b; simp only at x h; subst x; subst h; rfl
def XH {a b:En}:a.c=b.c↔a=b:=by
 refine⟨λh=>?_,λh=>by rw[h]⟩;obtain⟨x,y⟩:=List.append_inj h jF;exact ext' (Kv.XH.1 x)<|Kv.XH.1 y
def ks:cB:=Kv.ks 8++Kv.ks 16
def kinds (e:En):Kinds ks e.c:=G0 (Kv.kinds _)<|Kv.kinds _
def pd (e:En):(e.c.drop 0).take 9=e.key.c:=List.take_left' Nw
def WU (e:En):(e.c.drop 9).take 17=e.val.c:=by
 unfold c;rw[List.drop_left' Nw];exact pZ<|by rw[Kv.oQ]; exact qb _
def whole (e:En):(e.c.drop 0).take 26=e.c:=pZ<|by rw[pU,oQ]; exact qb _
def enc:Enc En:={sz:=26,f:=En.c,len:=oQ,pos:=A2,one:=one}
end En
instance:DecidableEq En:=λa b=>if h:a.key=b.key/\a.val=b.val then isTrue (En.ext' h.1 h.2) else isFalse (λe=>h<|by subst e; exact⟨rfl,rfl⟩)
structure Nd where
 leaf:Bool
 es:ct
 kids:bf
 piv:List (c3)
 msgs:cp
deriving DecidableEq
def nd0:Nd:=⟨false,[],[],[],[]⟩
def Vq:Nd:=⟨true,[],[],[],[]⟩
structure Nd.Sm (n:Nd) (B:Nat):Prop where
 e:n.es.length<=B
 k:n.kids.length<=B
 p:n.piv.length<=B
 m:n.msgs.length<=B
def Nd.Sm.mono {n:Nd} {B C:Nat} (h:n.Sm B) (x:B<=C):n.Sm C:=⟨qM h.e x,qM h.k x,qM h.p x,qM h.m x⟩
def PZ (B:Nat):nd0.Sm B:=⟨qc _,qc _,qc _,qc _⟩
def Xj8 (B:Nat):Vq.Sm B:=⟨qc _,qc _,qc _,qc _⟩
structure N4 where
 e:Sv
 k:Sv
 p:Sv
 m:Sv
def n40:N4:=⟨sv0,sv0,sv0,sv0⟩
structure NV where
 s:N4
 d:Nd
abbrev C0:d0:=.slice none 0 0
def NV.c (v:NV):bi:=[.bool v.d.leaf,v.s.e.v,v.s.k.v,v.s.p.v,v.s.m.v]
def NZ:NV:=⟨n40,nd0⟩
def TV:NV:=⟨n40,Vq⟩
def NV.oQ (v:NV):v.c.length=5:=rfl
def NV.one (v:NV):∀x∈v.c,x.oneCell'=true:=λx h=>by
 simp only[NV.c,pj,rX,rY] at h
 rcases h with rfl|rfl|rfl|rfl|rfl<;>rfl
abbrev Ct (s:Sv) (l:ct):Nr:=AG s.v 79 En.enc l
abbrev CT (s:Sv) (l:bf):Nr:=AG s.v 3 ds l
abbrev CU (s:Sv) (l:List<|c3):Nr:=AG s.v 77 (Kv.enc 8) l
abbrev C5 (s:Sv) (l:cp):Nr:=AG s.v 154 Ms.enc l
abbrev Bo (v:NV):ci:=[Ct v.s.e v.d.es,CT v.s.k v.d.kids,CU v.s.p v.d.piv,C5 v.s.m v.d.msgs]
structure OE (w:d7) (v:NV):Prop where
 e:Ec w v.s.e.v En.enc v.d.es
 k:Ec w v.s.k.v ds v.d.kids
 p:Ec w v.s.p.v (Kv.enc 8) v.d.piv
 m:Ec w v.s.m.v Ms.enc v.d.msgs
def OE.keep {w0:d7} {v:NV} {H:ci} (h:OE w0 v) (s:St w0 [] H w):OE w v:=⟨h.e.keep s j,h.k.keep s j,h.p.keep s j,h.m.keep s j⟩
def OE.drew {v:NV} (h:OE w v):OE w.drew v:=⟨h.e.drew,h.k.drew,h.p.drew,h.m.drew⟩
structure FC where
 st:Int
 blk:Int
 own:Int
 pins:Int
 ref:Bool
 dirty:Bool
 nv:NV
abbrev cO:=List FC
namespace FC
def c (f:FC):bi:=[aa f.st,aa f.blk,aa f.own,aa f.pins,.bool f.ref,.bool f.dirty,.bool f.nv.d.leaf,f.nv.s.e.v,f.nv.s.k.v,f.nv.s.p.v,f.nv.s.m.v]
def cA (f:FC):bi:=[aa f.st,aa f.blk,aa f.pins,.bool f.ref,.bool f.dirty,.bool f.nv.d.leaf,f.nv.s.e.v,f.nv.s.k.v,f.nv.s.p.v,f.nv.s.m.v,C0,aa (-1),C0]
def one (f:FC):∀x∈f.c,x.oneCell'=true:=λx h=>by
 simp only[c,pj,rX,rY] at h
 rcases h with rfl|rfl|rfl|rfl|rfl|rfl|rfl|rfl|rfl|rfl|rfl<;>rfl
def Xdg (f:FC):∀x∈f.cA,x.oneCell'=true:=λx h=>by
 simp only[cA,pj,rX,rY] at h
 rcases h with rfl|rfl|rfl|rfl|rfl|rfl|rfl|rfl|rfl|rfl|rfl|rfl|rfl<;>rfl
def enc:Enc FC:=⟨11,c,λ_=>rfl,one,by decide⟩
def ZC:Enc FC:=⟨13,cA,λ_=>rfl,Xdg,by decide⟩
end FC
structure Wn where
 t:Int
 b:Int
 cl:Bool
namespace Wn
def c (w:Wn):bi:=[aa w.t,aa w.b,.bool w.cl]
def one (w:Wn):∀x∈w.c,x.oneCell'=true:=λx h=>by
 simp only[c,pj,rX,rY] at h
 rcases h with rfl|rfl|rfl<;>rfl
def enc:Enc Wn:=⟨3,c,λ_=>rfl,one,by decide⟩
def ext' {a b:Wn} (x:a.t=b.t) (y:a.b=b.b) (h:a.cl=b.cl):a=b:=by cases a; cases b; simp only at x y h; subst x; subst y; subst h; rfl
end Wn
instance:DecidableEq Wn:=λa b=>if h:a.t=b.t/\a.b=b.b/\a.cl=b.cl then isTrue (Wn.ext' h.1 h.2.1 h.2.2) else isFalse (λe=>h<|by subst e; exact⟨rfl,rfl,rfl⟩)
structure Vw where
 st:Int
 blk:Int
 own:Int
 pins:Int
 ref:Bool
 dirty:Bool
 nd:Nd
def vw (f:FC):Vw:=⟨f.st,f.blk,if f.st=3 then f.own else 0,f.pins,f.ref,f.dirty,f.nv.d⟩
structure Mo where
 fr:List Vw
 loads:List (Int×Int)
 line:List (Int×Int)
 hand:Int
def Oq (b:Int) (f:Vw):Bool:=decide (f.blk=b)&&(decide (f.st=1)||decide (f.st=2))
def XJ (f:Vw):Bool:=decide (f.st=0)
def isC (t:Int) (f:Vw):Bool:=decide (f.st=3)&&decide (f.own=t)
def Xy (t:Int) (q:Int×Int):Bool:=decide (q.1=t)
def OJ (t:Int):Bool:=decide (0<=t)&&decide (t<8)
def Ry (b:Int):Bool:=decide (0<=b)&&decide (b<256)
def Cy:Vw:=⟨0,-1,0,0,false,false,nd0⟩
namespace Mo
def find (M:Mo) (b:Int):Option Nat:=B8 (Oq b) M.fr
def ZE (M:Mo):Option Nat:=B8 XJ M.fr
def stand (M:Mo) (t:Int):Option Nat:=B8 (Xy t) M.line
def waits (M:Mo) (t:Int):Bool:=M.loads.any<|Xy t
def turn (M:Mo) (t:Int):Bool:=match M.line with|[]=>true|q::_=>decide (q.1=t)
def takes (M:Mo) (t:Int):Option Nat:=if M.turn t=true then M.ZE else none
def leave (M:Mo) (t:Int):Mo:={M with line:=match M.stand t with|some i=>M.line.eraseIdx i|none=>M.line}
def ask (M:Mo) (t b:Int):Mo:={M with line:=if (M.stand t).isNone=true then M.line++[(t,b)] else M.line}
def SY (M:Mo) (t b:Int):Bool:=OJ t&&!M.waits t&&(match M.stand t with|some i=>decide (M.line[i]?=some (t,b))|none=>true)
def put (M:Mo) (i:Nat) (f:Vw):Mo:={M with fr:=M.fr.set i f}
def at' (M:Mo) (i:Nat):Vw:=M.fr.getD i Cy
def pin (M:Mo) (t b:Int):Int×Mo :=
 if (Ry b&&M.SY t b)=false then (0,M)
 else match M.find b with
  |some i =>
   let N:=(M.put i {M.at' i with pins:=(M.at' i).pins+1,ref:=true}).leave t
   if (M.at' i).st=2 then (1,N) else (2,{N with loads:=N.loads++[(t,b)]})
  |none=>match M.takes t with
   |none=>(4,M.ask t b)
   |some k=>(3,(M.leave t).put k ⟨1,b,0,1,true,false,nd0⟩)
def Me (M:Mo) (b st:Int):Option Nat:=match M.find b with|some i=>if (M.at' i).st=st then some i else none|none=>none
def told (M:Mo) (b:Int):bf:=(M.loads.filter<|λq=>decide (q.2=b)).map Prod.fst
def fill (M:Mo) (b:Int) (nd:Nd):(bf×Bool)×Mo :=
 match M.Me b 1 with
 |some i=>((M.told b,true),{M.put i {M.at' i with st:=2,nd:=nd} with loads:=M.loads.filter<|λq=>!decide (q.2=b)})
 |none=>(([],false),M)
def claim (M:Mo) (t:Int):Bool×Mo :=
 if M.SY t (-1)=false then (false,M)
 else match M.takes t with
  |none=>(false,M.ask t (-1))
  |some k=>(true,(M.leave t).put k ⟨3,-1,t,1,false,false,nd0⟩)
def claims (M:Mo) (t:Int):Nat:=M.fr.countP<|isC t
def give (M:Mo) (t:Int):Mo:={M with fr:=M.fr.map<|λf=>if isC t f=true then Cy else f}
def name (M:Mo) (t b:Int) (nd:Nd):Bool×Mo :=
 match (Ry b&&(M.find b).isNone),B8 (isC t) M.fr with
 |true,some k=>(true,M.put k ⟨2,b,0,0,true,true,nd⟩)
 |_,_=>(false,M)
abbrev ready (M:Mo) (b:Int):Option Nat:=M.Me b 2
def Uf (M:Mo) (b:Int):Bool×Mo :=
 match M.ready b with
 |some i=>if (M.at' i).pins=0 then (false,M) else (true,M.put i {M.at' i with pins:=(M.at' i).pins-1})
 |none=>(false,M)
def node (M:Mo) (b:Int):Nd×Bool:=match M.ready b with|some i=>((M.at' i).nd,true)|none=>(nd0,false)
def N7 (M:Mo) (b:Int) (nd:Nd):Bool×Mo :=
 match M.ready b with
 |some i=>(true,M.put i {M.at' i with dirty:=true,nd:=nd})
 |none=>(false,M)
def free (M:Mo):Nat:=M.fr.countP XJ
def may (M:Mo) (t:Int):Bool :=
 OJ t&&!M.waits t&&(match M.stand t with
  |none=>true
  |some k=>(decide (k=0)&&decide (0<M.free))||(M.find (M.line.getD k (0,-1)).2).isSome)
end Mo
structure Mo.Ok (M:Mo) (B:Nat):Prop where
 n1:1<=M.fr.length
 n64:M.fr.length<=64
 st:∀f∈M.fr,f.st=0\/f.st=1\/f.st=2\/f.st=3
 none':∀f∈M.fr,f.st=0\/f.st=3->f.blk = -1
 blk:∀f∈M.fr,f.st=1\/f.st=2->0<=f.blk/\f.blk<256
 own:∀f∈M.fr,f.st=3->0<=f.own/\f.own<8
 XL:∀f∈M.fr,f.st≠3->f.own=0
 pins:∀f∈M.fr,0<=f.pins/\f.pins<=(B:Int)
 uni:∀(i j:Nat) (f g:Vw),M.fr[i]?=some f->M.fr[j]?=some g->f.st=1\/f.st=2->g.st=1\/g.st=2->f.blk=g.blk->i=j
 ll:M.loads.length<=B
 lB:M.line.length<=B
 ln:(M.line.map Prod.fst).Nodup
 lb:∀q∈M.line,-1<=q.2/\q.2<256
 lo:∀q∈M.loads,∃f∈M.fr,f.st=1/\f.blk=q.2
 es:∀f∈M.fr,f.nd.Sm 1000
 hw:(Lit.int .i64 M.hand).wf=true
 B9:B<=60000
abbrev kc (n:Int) (l:bf):bi:=aa n::l.map (.int .u8)
def KO (h:l.length=8):(kc n l).length=9:=by simp[h]
def Iq (h:l.length=8) {j:Nat} (hj:j<8:=by omega):(kc n l)[0+1+j*1]?=some (ab<|l.getD j 0):=by
 rw[show 0+1+j*1=j+1 from by omega];have:j<l.length:=J;simp[sY,this]
def Xj9 {j:Nat} (x:Int):(kc n l).set (0+1+j*1) (ab x)=kc n (l.set j x):=by
 rw[show 0+1+j*1=j+1 from by omega];simp[rH]
def mq {m:Int}:(kc n l).set 0 (aa m)=kc m l:=rfl
def P0:∀v∈kc n l,v.oneCell'=true:=by
 exact ZEJ
def Xci {m:Int} {k:bf} (h:l.length=8) (x:k.length=8):Sep.splice (kc n l) 0 (kc m k)=kc m k:=Sep.oR<|by rw[KO h,KO x]
abbrev z8:bf:=List.replicate 8 0
def Ir:z8.length=8:=rfl
def XiF (h:m<=l.length):((kc n l).drop<|0+1).take (m*dt.sz)=dt.flat (l.take m):=by
 rw[Hx];show ((l.map<|Value.int .u8)).take (m*1)=_
 rw[sZ,List.map_take]
def js (h:l.length<=8):Sep.splice (kc n z8) (0+1) (l.map<|.int .u8)=kc n (l++List.replicate (8-l.length) 0):=by
 have x:z8=List.replicate l.length 0++List.replicate (8-l.length) 0:=by
  show List.replicate 8 0=_
  rw[tf,show l.length+(8-l.length)=8 from by omega]
 have e:kc n z8=[aa n]++(List.replicate l.length (ab 0)++List.replicate (8-l.length) (ab 0)):=by
  rw[kc,x]; simp[qR,qZ]
 have y:=Hv (a:=[aa n]) (b:=List.replicate l.length<|ab 0) (c:=List.replicate (8-l.length)<|ab 0) (vs:=l.map<|Value.int .u8) (k:=0+1) rfl j;rw[e,y];simp[kc,qR,qZ]
def Gv (k:c3):Df prog 279 [.agg k.c.toArray] Tr [] (λ_:Unit=>.bool<|OI k) Tr (λ_=>[]):=by
 intro w e a;refine E0 func279 I a<|Y I<|Z I<|AT I I I I<|λbk=>M k.c I<|A I<|Ad<|Y I<|N Pn I Z3 I<|Lo G3 0 I<|C 2 I<|B 7 I (λz=>?_)<|λz=>?_
 .rw[Xce z];exact C 4 I<|G zf
 refine N Pn I Z3 I (Lo G3 0 I<|U I vd<|U I (Qz I)<|G<|B 11 I (λy=>?_)<|λy=>?_)
 .rw[Xcf y];exact zf
 obtain⟨m,hm,x⟩:∃m:Nat,k.n=(m:Int)/\m<=8:=jT
 refine Ab I<|Ah<|Kt<|Y I<|N Pn I Z3 I<|Lo G3 0 I<|U I (AS ((kz 8 k.n k.wn).c) I I uX)<|Z I<|Ax I I I zeroValue77<|λd=>Z I<|SA MW I PU<|M (aa k.n::List.replicate 8 (ab 0)) I<|Ns<|LZ (rg 7) 1458 _ I St.drawn Ih<|Ht Pn I UW I<|Ht Pn I Z3 I<|Dq I (Aj I G3 I uq I)<|Dq I wZ<|Ht Pn I UW I<|Dq I (E7 I ZT Z5 I)<|KC I<|PQ (E:=dt) (l:=k.b) I I I O7 Z5 I I (λ_ h=>JW kj dt k.b k.len (qb _)<|by rw[Hx]; exact pZ<|by simp[Kv.c,k.len,AI]) (by simp[k.len,AI]; omega)<|M (WK k m x).c (by rw[hm]; exact mi k x)<|AN<|Kt<|Y I<|U I (Cq ((WK k m x).c) OO MW 0 I (Bq _) Nw)<|U I yo<|U I (YW ((WK k m x)) k I I I)<|A I<|s ?_
 rw[<-XiB k hm x];exact Yu
def XbV (s:ByteArray) (g:s.size<=9223372036854775807):Df prog 125 [.string s] Tr [] (λ_:Unit=>if h:s.size<=8 then .tuple #[.agg (ZG s h).c.toArray,aa 0] else .tuple #[.agg (kc 0 z8).toArray,aa 2]) Tr (λ_=>[]):=by
 intro w e d;refine E0 func125 I d<|Y I<|Z I<|Ax I I I zeroValue77<|λf=>M (kc 0 z8) I<|A I<|Ad<|Y I<|r I<|U I YK<|U I vd<|G<|B 7 I (λb=>?_)<|λb=>?_
 .have z:¬s.size<=8:=by omega
  exact Am I<|Y I<|U I (AS (kc 0 z8) I I uX)<|Z I<|SA MW I P0<|Bb (Xci Ir Ir)<|A I<|Al<|Ag<|C1 I (AL I OO MW uP<|KO Ir) (id I)<|λ_ h=>⟨(),by rw[dif_neg z],T0,h.oS⟩
 have y:s.size<=8:=by omega
 have a:=FU s;refine Ab I<|Ah<|Kt<|Y I<|r I<|U I YK<|U I (AS (kc (s.size:Int) z8) I I uX)<|Z I<|Ax I I I zeroValue77<|λbk=>M (kc 0 z8) I<|Z I<|SA MW I P0<|Bb (Xci Ir Ir)<|G<|Y I<|N Pn I UW I<|U I (E7 I ZT Z5 I)<|r I<|Z I<|Xiy I I I O7 Z5 I I J (by show 0+1+s.size<=_; rw[KO Ir]; omega)<|Bb (cs':=(ZG s y).c) ?_ ?_
 .have x:=js (n:=(s.size:Int)) (l:=Q5 s) J;unfold Q5 at x;rw[rG] at x;refine x.trans ?_;show _=kc ((Q5 s).length:Int) (Q5 s++List.replicate (8-(Q5 s).length) 0)
  rw[a]; unfold Q5; rw[qY,rF]; rfl
 exact G<|Y I<|U I ZGu<|AD<|Z I<|AF I I MW I I Nw PU (by rw[Kv.oQ,KO Ir]; decide)<|Bb (Sep.oR<|by rw[Kv.oQ,KO Ir])<|A I<|Al<|C1 I bU (id I)<|λ_ h=>⟨(),by rw[dif_pos y],T0,h.oS⟩
def OK (k:c3):Df prog 225 [.agg k.c.toArray] Tr [] (λ_:Unit=>.string<|strOfNums<|tx k) Tr (λ_=>[]):=by
 intro w g f;refine E0 func225 I f<|Y I<|Z I<|AT I I I I<|λbk=>M k.c I<|A I<|Ad<|Y I<|U I zw<|Z I<|E1 (Gv k) I call279 Tt<|λ_ _=>U I (Qt I)<|G<|B 5 I (λx=>?_)<|λx=>?_
 .have y:tx k=[]:=by unfold tx; rw[x]; rfl
  exact Am I<|Y I<|A I<|s<|Ag<|Av I I<|λ_ h=>⟨(),jg,T0,h.oS⟩
 obtain⟨m,hm,a,y,d,e⟩:=EI x;have z:=k.len;exact Ab I<|Ah<|Kt<|Y I<|N Pn I UW I<|N Pn I Z3 I<|Lo G3 0 I<|U I wZ<|U I (Gu (l:=k.b.take m) I O7 U5 U9 I<|λ_ h=>JW wG dt (k.b.take m) Zl J<|XiF J)<|A I<|s<|Av I I<|λ_ h=>⟨(),XE,T0,h.oS⟩
def Xg1:Extern.find Tryz.f301=some Extern.BytealgCompare.compare:=by kernel_rfl
def jt {P:d8} {n:Nat} {L:Env} {X:aU} {o:Oper} {Q:aB} {K:aO} {f:FuncId} {fn:Func} {t:ca} {d:Nat} {a b:ByteArray} (m:o.op=.call ⟨.value<|.func f,[x,y].toArray,t⟩) (hd:o.dst=some d) (e:d.blt n) (c:P.funcs[f]?=some fn) (s:fn.body.isNone) (VD:(fn.name == "runtime.NumGoroutine")=false) (q:Extern.findNext fn=none) (p:Extern.find fn=some Extern.BytealgCompare.compare)
 (l:ev L x=some (.string a)) (u:ev L y=some (.string b)) (h:Pre n ((d,aa<|Lib.compareBytes a.data.toList b.data.toList)::L) X K):Nl P n L X o Q K :=
 Nl.val (β:=Unit) (λ_=>aa<|Lib.compareBytes a.data.toList b.data.toList) Tr (λ_=>X) hd e (λj w i r=>by
  have g:=run_callFunc_extern c VD s q p #[.string a,.string b] w
  rw[Lib.run_compareString a b w] at g
  simp only[qE] at g
  have z:([x,y].toArray.map j.eval)=#[.string a,.string b]:=by simp[i.eval l,i.eval u]
  have k:∀us:cb,(#[]++us++#[])=us:=λus=>A3
  exact⟨(),w,by simp only[execOp,m,resolve,Act.eval,Deferred.ofValue,qC,qD,qE,invoke,z,k,g],T0,r⟩) Xk
def WN (a b:ByteArray):Df prog 278 [.string a,.string b] Tr [] (λ_:Unit=>aa<|Lib.compareBytes a.data.toList b.data.toList) Tr (λ_=>[]):=by
 intro w y x;refine E0 func278 I x ?_;exact Y I<|A I<|Y I<|C 2 I<|Z I<|jt I I I func301 I A6 I Xg1 I I xj
def XfV (a b:ByteArray):Df prog 224 [.string a,.string b] Tr [] (λ_:Unit=>aa<|Lib.compareBytes a.data.toList b.data.toList) Tr (λ_=>[]):=by
 intro w y x;refine E0 func224 I x ?_;exact Y I<|A I<|Y I<|C 2 I<|Z I<|E1 (WN a b) I call278 Tt<|λ_ _=>A I<|s LF
def G6 (a b:c3):Df prog 162 [.agg a.c.toArray,.agg b.c.toArray] Tr [] (λ_:Unit=>aa<|Bs a b) Tr (λ_=>[]):=by
 intro w i f;have g:Bs a b=Lib.compareBytes (strOfNums<|tx a).data.toList (strOfNums<|tx b).data.toList:=(XbT (tx a) (tx b) (λx y=>XbS y)<|λx y=>XbS y).symm;refine E0 func162 I f ?_;exact Y I<|Z I<|AT I I I I<|λd=>M a.c I<|Z I<|AT I I I I<|λe=>M b.c I<|A I<|Ad<|LZ [0,2,1,3,4,5] 117 (λz=>(Ac d 77 a.c).at z/\(Ac e 77 b.c).at z) I St.drawn Yv<|Dq I (AH a.c I OO MW I uO (Bq _) Nw)<|Dq I (AH b.c I OO MW I uS (Bq _) Nw)<|MX I<|E1 (OK a) I call225 Tt<|λ_ _=>Ai Yv<|MX I<|E1 (OK b) I call225 Tt<|λ_ _=>Ai Yv<|MX I<|E1 (XfV _ _) I call224 Tt<|λ_ _=>Ai Yv<|Sz I<|AN<|Kt<|s<|Av I I<|λ_ h=>⟨(),WL,T0,h.oS⟩
def MM (k:Kv 16):Df prog 316 [.agg k.c.toArray] Tr [] (λ_:Unit=>.bool<|Qd k) Tr (λ_=>[]):=MD<|λw _=>Xf6 k.n k.b w k.len k.wb
def Is (k:Kv 16):Df prog 61 [.agg k.c.toArray] Tr [] (λ_:Unit=>.bool<|Qd k) Tr (λ_=>[]):=MD<|λw _=>Xfn k.n k.b w k.len
def J5 (k:Kv 16) (z:Int):Df prog 223 [.agg k.c.toArray,am z] Tr [] (λ_:Unit=>.agg (E5 k z).c.toArray) Tr (λ_=>[]):=MD<|λw _=>Yt k.n k.b z w k.len k.wb
def XR (s:ByteArray) (h:s.size<=16):Kv 16:=⟨s.size,pad (Q5 s) 16,F2 _ _ (by rw[Ho]; exact h),YR<|by omega,Tx 16<|ja s⟩
def XiG (s:ByteArray) (h:s.size<=16):Df prog 126 [.string s] Tr [] (λ_:Unit=>.tuple #[.agg (XR s h).c.toArray,aa 0]) Tr (λ_=>[]):=MD<|λw _=>jb s w h
def ju (s:ByteArray) (h:¬s.size<=16):Df prog 126 [.string s] Tr [] (λ_:Unit=>.tuple #[.agg (Na 16).c.toArray,aa 2]) Tr (λ_=>[]):=MD<|λw _=>Xip s w J
def Lr (m:Ms):Df prog 313 [.agg m.c.toArray] Tr [] (λ_:Unit=>.bool<|OD m) Tr (λ_=>[]):=by
 intro w o b;refine E0 func313 I b<|Y I<|Z I<|AT I I I I<|λn=>M m.c I<|A I<|Y I<|N BR I MW I<|U I xy<|Z I<|E1 (Gv m.key) I call279 Tt<|λ_ _=>A I<|Ad<|Y I<|N BR I Z3 I<|Lo G3 0 I<|G<|Af<|Ad<|Af<|Ad<|Af<|Ad<|Af<|Ad<|Ad<|Y I<|U I (Qe I)<|A I<|B 9 I (λi=>?_)<|λi=>?_
 .refine Am I (AP<|Aa<|Aa<|Ar<|Ks<|Y I<|C 2 I<|B 16 I (λf=>?_)<|λf=>?_)
  .refine N BR I O6 I (U I wF<|Z I<|E1 (MM m.val) I call316 Tt<|λ_ _=>U I (Qy I)<|r I<|B 21 I (λk=>?_)<|λk=>?_)
   .refine N BR I Qb I (U I lX<|C 2 I<|A I<|s<|Ag<|AA<|Ag<|AA<|Ag<|AA<|Ag<|B 2 I (λa=>?_)<|λa=>?_)
    .exact ot
    exact A9
   refine C 4 I (A I<|s<|Ag<|AA<|Ag<|AA<|Ag<|AA<|Ag ?_);exact A9
  refine C 9 I (A I<|s<|Ag<|AA<|Ag<|AA<|Ag<|AA<|Ag ?_);exact A9
 refine Ab I (Ah<|Ks<|Y I<|U I (Qe I)<|A I<|B 11 I (λd=>?_)<|λd=>?_)
 .refine Am I (AP<|Aa<|Aa<|Ao I<|Aa<|Ar<|Kt<|Cr I<|C 2 I<|B 27 I (λz=>?_)<|λz=>?_)
  .refine N BR I Qb I (U I lX<|C 3 I<|AE<|Au<|Ks<|Y I<|C 2 I<|B 33 I (λl=>?_)<|λl=>?_)
   .refine N BR I O6 I (U I wF<|U I Yk<|U I (Xch m.val ((Na 16)) I I I)<|U I (Qy I)<|A I<|s<|Ag<|AA<|Ag<|B 2 I (λj=>?_)<|λj=>?_)
    .exact ot
    exact A9
   exact ZGX
  refine C 5 I (AE<|Au<|Ks<|Y I<|C 7 I<|A I<|s<|Ag<|AA<|Ag ?_);exact A9
 refine Ab I (Ah<|Kt<|Y I<|U I (Qe I)<|A I<|B 13 I (λg=>?_)<|λg=>?_)
 .refine Am I (AP<|Aa<|Ao I<|Aa<|Ao I<|Aa<|Ar<|Ks<|Y I<|C 2 I<|B 33 I (λx=>?_)<|λx=>?_)
  .refine N BR I O6 I (U I wF<|U I Yk<|U I (Xch m.val ((Na 16)) I I I)<|U I (Qy I)<|A I<|s<|Ag<|AA<|Ag<|B 2 I (λy=>?_)<|λy=>?_)
   .exact ot
   exact A9
  exact ZGX
 refine Ab I (Ah<|Kt<|AP<|Ao I<|Aa<|Ao I<|Aa<|Ao I<|Aa<|Ar<|Kt<|Y I<|A I<|s ?_);exact A9