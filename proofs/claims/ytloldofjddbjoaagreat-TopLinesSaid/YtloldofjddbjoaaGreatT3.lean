/- Part 3 of the proof: texts of my own, laid behind one another. No condition. -/
import Derived.Test.YtloldofjddbjoaaGreatT2
set_option linter.unusedVariables false
set_option linter.unusedSimpArgs false
set_option maxHeartbeats 8000000
set_option maxRecDepth 100000
namespace Go.Proofs.YtloldofjddbjoaaGreat
open Go.Sep Go.RowKit Tryz
variable {G:List Ent} {M:Mo} {v:NV} {S:CS} {k:Nat} {fl:List FC}
theorem J1 {B:Nat} (h:M.Ok B) {i:Nat} {y y':Vw} (hy:M.fr[i]?=some y) (h1:y'.st=0\/y'.st=1\/y'.st=2\/y'.st=3) (h2:y'.st=0\/y'.st=3->y'.blk = -1) (h3:y'.st=1\/y'.st=2->0<=y'.blk/\y'.blk<256) (h4:y'.st=3->0<=y'.own/\y'.own<8) (h5:y'.st≠3->y'.own=0) (h6:0<=y'.pins/\y'.pins<=(B:Int))
 (h7:y'.st=1\/y'.st=2->∀(j:Nat) (z:Vw),j≠i->M.fr[j]?=some z->z.st=1\/z.st=2->z.blk≠y'.blk) (h8:∀q∈M.loads,y.st=1->y.blk=q.2->y'.st=1/\y'.blk=q.2) (h9:y'.nd.Sm 1000):(M.put i y').Ok B:=by
 have hlt:=(gl.1 hy).1
 have hm:∀f∈(M.put i y').fr,f∈M.fr\/f=y':=fun f hf=>jW hf
 have hg:∀(j:Nat),(M.put i y').fr[j]?=if j=i then some y' else M.fr[j]?:=fun j=>by
  show (M.fr.set i y')[j]?=_
  rw[jD]
  by_cases e:j=i
  · subst e; rw[fO rfl,fO hlt,fO rfl]
  · rw[fR (fun e'=>e e'.symm),fR e]
 have hl:(M.put i y').fr.length=M.fr.length:=je
 refine⟨by rw[hl]; exact h.n1,by rw[hl]; exact h.n64,fun f hf=>?_,fun f hf hs=>?_,fun f hf hs=>?_,fun f hf hs=>?_,fun f hf hs=>?_,fun f hf=>?_,fun a b f g ha hb hf hg' e=>?_,h.ll,h.lB,h.ln,h.lb,fun q hq=>?_,fun f hf=>?_,h.hw,h.B9⟩
 · rcases hm f hf with hf|rfl; exact h.st f hf; exact h1
 · rcases hm f hf with hf|rfl; exact h.none' f hf hs; exact h2 hs
 · rcases hm f hf with hf|rfl; exact h.blk f hf hs; exact h3 hs
 · rcases hm f hf with hf|rfl; exact h.own f hf hs; exact h4 hs
 · rcases hm f hf with hf|rfl; exact h.own0 f hf hs; exact h5 hs
 · rcases hm f hf with hf|rfl; exact h.pins f hf; exact h6
 · rw[hg] at ha hb
   split at ha<;>split at hb
   · rename_i e1 e2; rw[e1,e2]
   · rename_i e1 e2; cases ha; exact absurd e.symm (h7 hf b g e2 hb hg')
   · rename_i e1 e2; cases hb; exact absurd e (h7 hg' a f e1 ha hf)
   · exact h.uni a b f g ha hb hf hg' e
 · obtain⟨f,hf,e1,e2⟩:=h.lo q hq
   obtain⟨j,hj⟩:=jK.1 hf
   by_cases e:j=i
   · subst e
     rw[hy] at hj; cases hj
     obtain⟨g1,g2⟩:=h8 q hq e1 e2
     exact⟨y',hY (by rw[hg,fO rfl]),g1,g2⟩
   · exact⟨f,hY (by rw[hg,fR e]; exact hj),e1,e2⟩
 · rcases hm f hf with hf|rfl; exact h.es f hf; exact h9
theorem Rel.put (h:Rel S M) {i:Nat} {f':FC} {y':Vw} (hv:vw f'=y') (a':List (Int×Int)) (ha:∀b,Cn b a'=Option.map (fun i:Nat=>(i:Int)) ((M.put i y').find b)) (hna:(a'.map Prod.fst).Nodup):Rel {S with fl:=S.fl.set i f',at':=a'} (M.put i y') :=
 ⟨by show (S.fl.set i f').map vw=M.fr.set i y'; rw[il,h.fr,hv],h.ln,h.hd,ha,h.ld,h.nd,hna⟩
theorem Hx {t:Int} (h:M.takes t=some k):∃y,M.fr[k]?=some y/\y.st=0/\M.at' k=y:=by
 unfold Mo.takes at h
 split at h
 · obtain⟨y,h1,h2,_⟩:=C6 h
   exact⟨y,h1,jt h2,JS h1⟩
 · cases h
structure NvIn (G:List Ent) (v:NV):Prop where
 e:(v.s.e=sv0/\v.d.es=[])\/Bp v.s.e v.d.es∈G
 k:(v.s.k=sv0/\v.d.kids=[])\/CG v.s.k v.d.kids∈G
 p:(v.s.p=sv0/\v.d.piv=[])\/CH v.s.p v.d.piv∈G
 m:(v.s.m=sv0/\v.d.msgs=[])\/EN v.s.m v.d.msgs∈G
theorem NvIn.zero (G:List Ent):NvIn G nv0:=⟨.inl ⟨rfl,rfl⟩,.inl ⟨rfl,rfl⟩,.inl ⟨rfl,rfl⟩,.inl ⟨rfl,rfl⟩⟩
theorem NvIn.of (h:∀e∈Bz v,e∈G):NvIn G v:=⟨.inr (h _ (by simp)),.inr (h _ (by simp)),.inr (h _ (by simp)),.inr (h _ (by simp))⟩
theorem NvIn.more {G':List Ent} (h:NvIn G v) (hs:∀e∈G,e∈G'):NvIn G' v:=⟨h.e.imp id (hs _),h.k.imp id (hs _),h.p.imp id (hs _),h.m.imp id (hs _)⟩
theorem NvIn.rd {H:List Ent} {w:World} (h:NvIn G v) (hp:HP H w) (hs:∀e∈G,e∈H):NRd w v:=by
 refine⟨?_,?_,?_,?_⟩
 · rcases h.e with⟨h1,h2⟩|h1
   · rw[h1,h2]; exact Fc _
   · exact BO (hp.holds _ (hs _ h1))
 · rcases h.k with⟨h1,h2⟩|h1
   · rw[h1,h2]; exact Fc _
   · exact BO (hp.holds _ (hs _ h1))
 · rcases h.p with⟨h1,h2⟩|h1
   · rw[h1,h2]; exact Fc _
   · exact BO (hp.holds _ (hs _ h1))
 · rcases h.m with⟨h1,h2⟩|h1
   · rw[h1,h2]; exact Fc _
   · exact BO (hp.holds _ (hs _ h1))
def NIn (G:List Ent) (fl:List FC):Prop:=∀f∈fl,NvIn G f.nv
theorem NIn.set (h:NIn G fl) {i:Nat} {f':FC} (hf:NvIn G f'.nv):NIn G (fl.set i f'):=fun g hg=>by
 rcases jW hg with hg|rfl
 · exact h g hg
 · exact hf
theorem NIn.set_same (h:NIn G fl) {i:Nat} {f f':FC} (hf:fl[i]?=some f) (e:f'.nv=f.nv):NIn G (fl.set i f'):=h.set (by rw[e]; exact h f (hY hf))
theorem IU {bc:Nat} {k:Nat} {f:FC} (hfk:S.fl[k]?=some f) (hn:S.fl.length<=65536):Con prog 246 [.pointer (some ⟨bc,0,none⟩),fp S.vF k] (fun _=>True) (S.H bc) (fun _:Unit=>.tuple #[]) (fun _=>True) (fun _=>CS.H bc {S with at':=BJ f.blk (k:Int) S.at'}):=by
 intro w hE hH
 refine enter (n:=31) (vs:=[.pointer (some ⟨bc,0,none⟩),fp S.vF k]) (St w (dom (S.H bc)) (Ad bc 257 (S).cells::Az (S).vF 259 FC.enc (S).fl::BH (S).bA kI kI (S).at'::BH (S).bL kI vS (S).ld::Az (S).vL 277 Wn.enc (S).ln::(S).rows)) func246 I I I (St.init hH) ?_
 refine Ag ?_
 have hkl:=(gl.1 hfk).1
 refine Cr I (Lm I (Lc I (Lfa C7 I FN I (Lo Gy 0 I (Lq I (AL I Fh I (Hrd 1 I)) (Lm I (Nk (Al ?_))))))))
 refine Bc (fun (i:Nat)=>[(0,.pointer (some ⟨bc,0,none⟩)),(1,fp S.vF k),(9,.int .i64 (S.fl.length:Int)),(10,.int .i64 (i:Int))]) (fun (i:Nat)=>St w (dom (S.H bc)) (Ad bc 257 (S).cells::Az (S).vF 259 FC.enc (S).fl::BH S.bA kI kI (if k<i then BJ f.blk (k:Int) S.at' else S.at')::BH (S).bL kI vS (S).ld::Az (S).vL 277 Wn.enc (S).ln::(S).rows)) (fun (i:Nat)=>i<=S.fl.length) (fun (i:Nat)=>S.fl.length-i) (0) (gb _) (Si I) Ih (fun i hi=>Cs I (Lq I (Ql I) (Ns ?_)))
 refine CB 11 I (fun h1=>?_) (fun h1=>?_)
 · refine Ai I (Ae (Ks (Al (Cs I (Lm I (Ak I (Cs I (Lm I (Lc I (Lfa C7 I FN I (Lo Gy 0 I (Lm I (Lq I (As i I Fh EM I (Hrd 1 I) I I (by omega)) (Lm I (Lq I (ZW I GV EM (by decide) I I) (Nk ?_))))))))))))))))
   refine CB 20 I (fun h2=>?_) (fun h2=>?_)
   · simp only[show FC.enc.sz=11 from rfl] at h2
     have hik:i=k:=by omega
     rw[fR (show ¬k<i by omega)]
     refine Ai I (Dn (rg 10) 39366 _ I St.drawn Ih (Dm I (Dc I (Dfa C7 I sizeOf89 I (Dq I (Ao I isAgg89 I (Hat 0 I) I) (Dm I (Dc I (Dfa Er I Z3 I (Dq I (AI k 1 I G3 I I (Hrd 1 I) hfk I) (Dm I (AV (d_t I (Ml f.blk (i:Int) I I U89 JR I I I (AK (Aw (Kt (Cr I (Lq I (Qi I (by omega)) (Lm I (AB (Pm [0,2,2] I ?_)))))))))))))))))))))
     refine Pm [3,3] I ?_
     exact AD (i+1) (by omega) (by omega) (Si I) (fun _ h=>by rw[fO (show k<i+1 by omega)]; subst hik; exact h)
   · simp only[show FC.enc.sz=11 from rfl] at h2
     have hkk:(k<i+1)=(k<i):=propext (by omega)
     refine Ab I (Ae (Aw (Kt (Cr I (Lq I (Qi I (by omega)) (Lm I (AB ?_)))))))
     exact AD (i+1) (by omega) (by omega) (Si I) (fun _ h=>by simpa only[hkk] using h)
 · have hki:k<i:=by omega
   rw[fO hki]
   refine Ab I (AO (Ac (Ac (Ar (Bl (Bv I ?_))))))
   exact fun _ h=>⟨(),rfl,trivial,h⟩
end Go.Proofs.YtloldofjddbjoaaGreat
namespace Go.Proofs.YtloldofjddbjoaaGreat
open Go.Sep Go.RowKit Tryz
variable {M:Mo} {b a:Int} {S:CS} {i bc B:Nat} {β:Type}
def ndE:Nd:=⟨true,[],[],[],[]⟩
theorem SI {X m Y us:List Value} {k:Nat} (h:k+us.length<=m.length):Sep.splice (X++(m++Y)) (X.length+k) us=X++(Sep.splice m k us++Y):=by
 rw[Sep.splice_eq _ _ _ (by simp<;>omega),Sep.splice_eq _ _ _ h,iV,jg (by omega),gM,iW,jh (by omega)]
 simp[gK]
section
variable {P:Program} {n:Nat} {L:Env} {X:World->Prop} {o:Oper} {Q:Exit->Act->World->Prop} {K:Act->World->Prop} {w0:World} {D:List Nat} {H:List Ent}
theorem FD {α:Type} {E:Enc α} {l:List α} {t e:TypeId} {x y:Operand} {v:Value} {off sz:Nat} (j k:Nat) (c:α) {a:α} {us:List Value} (ho:o.op=.store t x y) (hd:o.dst=none) (hs:∀w,(sizeOf t).run P w=.ok sz w) (hx:ev L x=some (.pointer (some ⟨blk v,off,none⟩))) (hoff:off=EW v+j*E.sz+k) (hy:ev L y=some (.agg us.toArray))
 (ha:l[j]?=some a) (hus:us.length=sz) (hk:k+sz<=E.sz) (hv:∀v∈us,v.oneCell'=true) (hc:Sep.splice (E.f a) k us=E.f c) (h:Pre n L (St w0 D (Az v e E (l.set j c)::H)) K):EOp P n L (St w0 D (Az v e E l::H)) o Q K :=
 EOp.skip _ hd (fun ac w kn hX=>by
  have hj:=(gl.1 ha).1
  obtain⟨b,cap,pre,post,rfl,hlc,hp,h1⟩:=FZ hX (by omega)
  have hlen:=E.fa l
  have hmul:(j+1)*E.sz<=l.length*E.sz:=gr _ (by omega)
  rw[fW,gu] at hmul
  have hfit:off+0+us.length<=(pre++E.flat l++post).length:=by subst hoff; simp only[EW,fL,hlen]; omega
  obtain⟨w',hr,h'⟩:=B6 (P:=P) (off:=off) us _ 0 h1 hfit hv
  have Iv:Sep.splice (pre++E.flat l++post) (off+0) us=pre++E.flat (l.set j c)++post:=by
   subst hoff
   simp only[EW,iM]
   have e0:l=l.take j++(a::l.drop (j+1)):=by
    have:=gl.1 ha
    rw[<-this.2]; simp
   have e1:l.set j c=l.take j++(c::l.drop (j+1)):=by
    rw[jf]; simp[hj]
   have hX:(pre++E.flat (l.take j)).length=pre.length+j*E.sz:=by
    rw[fL,E.fa,fJ,gV (by omega)]
   have f0:pre++E.flat l++post=(pre++E.flat (l.take j))++(E.f a++(E.flat (l.drop (j+1))++post)):=by
    conv=>lhs; rw[e0]
    rw[E.fm,E.fo]; simp[gK]
   have f1:pre++E.flat (l.set j c)++post=(pre++E.flat (l.take j))++(E.f c++(E.flat (l.drop (j+1))++post)):=by
    rw[e1,E.fm,E.fo]; simp[gK]
   rw[f0,f1,<-hX,SI (by rw[E.len]; omega),hc]
  rw[Iv] at h'
  refine⟨w',by simp[execOp,ho,kn.eval hx,kn.eval hy,Instr.storeAt,Instr.sureAddr,storeVar,hs,Value.cells,hus,blk]; simp[hr],?_⟩
  have:=CX (cap:=cap) h' (by omega) (by simpa using hlc) (by simpa using hp)
  simpa using this) h
end
theorem J2 (h:M.frI b 2=none):M.unpin b=(false,M):=by unfold Mo.unpin Mo.ready; rw[h]
theorem J3 (h:M.frI b 2=some i) (hp:(M.at' i).pins=0):M.unpin b=(false,M):=by unfold Mo.unpin Mo.ready; rw[h]; simp only; rw[fO hp]
theorem J4 (h:M.frI b 2=some i) (hp:¬(M.at' i).pins=0):M.unpin b=(true,M.put i {M.at' i with pins:=(M.at' i).pins-1}):=by unfold Mo.unpin Mo.ready; rw[h]; simp only; rw[fR hp]
theorem NM (nd:Nd) (h:M.frI b 2=none):M.setN b nd=(false,M):=by unfold Mo.setN Mo.ready; rw[h]
theorem NN (nd:Nd) (h:M.frI b 2=some i):M.setN b nd=(true,M.put i {M.at' i with dirty:=true,nd:=nd}):=by unfold Mo.setN Mo.ready; rw[h]
theorem Ll (nd:Nd) (h:M.frI b 1=none):M.fill b nd=(([],false),M):=by unfold Mo.fill; rw[h]
theorem Ln (nd:Nd) (h:M.frI b 1=some i):M.fill b nd=((M.told b,true),{M.put i {M.at' i with st:=2,nd:=nd} with loads:=M.loads.filter (fun q=>!decide (q.2=b))}):=by unfold Mo.fill; rw[h]
theorem Lp (f:FC) (nv:NV):Sep.splice f.c 6 nv.c=({f with nv:=nv}:FC).c:=rfl
theorem Rel.put_same (h:Rel S M) {i:Nat} {f f':FC} {y':Vw} (hf:S.fl[i]?=some f) (hv:vw f'=y') (hb:f'.blk=f.blk) (hs:(f'.st=1\/f'.st=2)↔(f.st=1\/f.st=2)):Rel {S with fl:=S.fl.set i f'} (M.put i y') :=
 h.put hv S.at' (fun b=>by rw[SH (h.vw_at hf) (by rw[<-hv]; exact hb) (by rw[<-hv]; exact hs)]; exact h.at' b) h.na
theorem NO (b c:Int):(((M.loads.filter (fun q=>!decide (q.2=b))).filter (fun q=>decide (q.2=c))).map Prod.fst)=if c=b then [] else M.told c:=by
 unfold Mo.told
 rw[List.filter_filter]
 split
 · rename_i e; subst e
   have:(fun q:Int×Int=>decide (q.2=c)&&!decide (q.2=c))=fun _=>false:=by funext q; cases decide (q.2=c)<;>rfl
   rw[this]; simp
 · rename_i e
   congr 1
   refine List.filter_congr (fun q _=>?_)
   by_cases h:q.2=c
   · rw[jq h,jo (fun e'=>e (by rw[<-h,e']))]; rfl
   · rw[jo h]; rfl
theorem Lr (a:Int):∀l:List (Int×β),((BM a l).map Prod.fst).Sublist (l.map Prod.fst)
 |[]=>jX _
 |(x,y)::l=>by
  simp only[BM]
  split
  · exact (iP _ _)
  · exact (Lr a l).cons_cons x
theorem GJ:∀{l:List (Int×β)},(l.map Prod.fst).Nodup->Cn a (BM a l)=none
 |[],_=>rfl
 |(x,y)::l,hn=>by
  obtain⟨h1,h2⟩:=iS.1 hn
  simp only[BM]
  by_cases e:a=x
  · subst e
    rw[fO rfl]
    cases hm:Cn a l with
    |none=>rfl
    |some z=>exact absurd (gj.2 ⟨_,JU hm,rfl⟩) h1
  · rw[fR e]; simp only[Cn,fR e]; exact GJ h2
theorem Ip {y:β}:∀{l:List (Int×β)},Cn a l=some y->∃j,l[j]?=some (a,y)/\BM a l=l.eraseIdx j/\∀z,BJ a z l=l.set j (a,z)
 |[],h=>by cases h
 |(x,z)::l,h=>by
  simp only[Cn] at h
  split at h
  · rename_i e; cases h; subst e; exact⟨0,rfl,by simp[BM],fun z=>by simp[BJ]⟩
  · rename_i e
    obtain⟨j,h1,h2,h3⟩:=Ip h
    exact⟨j+1,by simpa using h1,by simp[BM,e,h2],fun z=>by simp[BJ,e,h3]⟩
theorem Mt:∀{l:List (Int×β)},Cn a l=none->BM a l=l/\∀z,BJ a z l=l++[(a,z)]
 |[],_=>⟨rfl,fun _=>rfl⟩
 |(x,y)::l,h=>by
  simp only[Cn] at h
  split at h
  · cases h
  · rename_i e
    obtain⟨h1,h2⟩:=Mt h
    exact⟨by simp[BM,e,h1],fun z=>by simp[BJ,e,h2]⟩
abbrev Py (q:Int×(Sv×List Int)):Ent:=Az q.2.1.v 3 (AG .i64) q.2.2
theorem Rel.fill (h:Rel S M) {i:Nat} {f f':FC} {y':Vw} (b:Int) (hf:S.fl[i]?=some f) (hv:vw f'=y') (hb:f'.blk=f.blk) (hs:(f'.st=1\/f'.st=2)↔(f.st=1\/f.st=2)):Rel {S with fl:=S.fl.set i f',ld:=BM b S.ld} {M.put i y' with loads:=M.loads.filter (fun q=>!decide (q.2=b))}:=by
 have h1:=h.put_same hf hv hb hs
 refine⟨h1.fr,h1.ln,h1.hd,h1.at',fun c=>?_,h.nd.sublist (Lr b S.ld),h.na⟩
 show ((M.loads.filter (fun q=>!decide (q.2=b))).filter (fun q=>decide (q.2=c))).map Prod.fst=_
 rw[NO]
 by_cases e:c=b
 · subst e; rw[fO rfl]; show []=match Cn c (BM c S.ld) with|some q=>q.2|none=>[]
   rw[GJ h.nd]
 · rw[fR e]; show _=match Cn c (BM b S.ld) with|some q=>q.2|none=>[]
   rw[K8 (fun e'=>e e'.symm)]; exact h.ld c
theorem Q7 {j:Nat} {q:Int×(Sv×List Int)} (h:S.ld[j]?=some q):S.rows[j]?=some (Py q):=by unfold CS.rows; rw[gm,h]; rfl
theorem Pz (S:CS) (j:Nat):S.rows.eraseIdx j=(S.ld.eraseIdx j).map Py:=(Dy _ _ _).symm
theorem Uz (S:CS) (j:Nat) (q:Int×(Sv×List Int)):S.rows.set j (Py q)=(S.ld.set j q).map Py:=il.symm
theorem UA (S:CS):S.rows.length=S.ld.length:=gS ..
theorem Q8 {f:FC} (h:f.st=1) {nv:NV}:vw {f with st:=2,nv:=nv}={vw f with st:=2,nd:=nv.d}:=by unfold vw; simp[h]
theorem PA (hR:Rel S M) (hO:M.Ok B) (b:Int):Con prog 177 [.pointer (some ⟨bc,0,none⟩),.int .i64 b] (fun _=>True) (S.H bc) (fun S':CS=>.bool (M.unpin b).1) (fun S'=>Rel S' (M.unpin b).2/\∀G,NIn G S.fl->NIn G S'.fl) (fun S'=>S'.H bc):=by
 intro w hE hH
 refine enter (n:=25) (vs:=[.pointer (some ⟨bc,0,none⟩),.int .i64 b]) (St w (dom (S.H bc)) (Ad bc 257 (S).cells::Az (S).vF 259 FC.enc (S).fl::BH (S).bA kI kI (S).at'::BH (S).bL kI vS (S).ld::Az (S).vL 277 Wn.enc (S).ln::(S).rows)) func177 I I I (St.init hH) ?_
 refine Cs I (Ak I (Cs I (Lm I (Lm I (l_e I (E1 (EO hR hO b 2) I call165 (fun _ h=>CR.ofm (S:=S) h (fun e he=>he)) (fun _ _=>Ak I (Ag (Ag ?_)))))))))
 refine B5 (M.frI b 2) (fun hf=>?_) (fun i hf=>?_)
 · have hu:=J2 hf
   refine Sv' 5 (.pointer none) I (by rw[hf]; rfl) (Cr I (Lm I (Lq I (DZ I GV I I) (Lm I (Sb 11 true I (I) (Lx I (Lx I (Lx I (Lx I (Lx I (Lq I (Qy I) (Nk (Ai I (Cs I (Ak I (Af (Aa (An I I ?_))))))))))))))))))
   exact fun _ h=>⟨S,by rw[hu],⟨by rw[hu]; exact hR,fun _ h=>h⟩,h⟩
 · obtain⟨hf1,hst⟩:=G8 hf
   obtain⟨y,hy,hyb,hys,hya⟩:=Ec hf1
   obtain⟨f,hfi,hfy⟩:=hR.get hy
   have hlt:=(gl.1 hfi).1
   rw[hya,<-hfy] at hst
   rw[<-hfy] at hya hys hyb hy
   refine Sv' 5 (fp S.vF i) I (by rw[hf]; rfl) (Cr I (Lm I (Lq I (DZ I GV I I) (Lm I (Sb 11 false I (I) (Lm I (Lc I (Lfa Er I Z3 I (Lq I (AI i 3 I G3 I I (Hrd 1 I) hfi I) (Lq I (Qe I) (Lq I (Qz I) (Nk ?_))))))))))))
   refine CB 17 I (fun hp=>?_) (fun hp=>?_)
   · have hu:=J3 hf (by rw[hya]; exact hp)
     refine Ai I (Cs I (Ak I (Af (Aa (An I I ?_)))))
     exact fun _ h=>⟨S,by rw[hu],⟨by rw[hu]; exact hR,fun _ h=>h⟩,h⟩
   · have hu:=J4 hf (by rw[hya]; exact hp)
     rw[hya] at hu
     have hpb:=hO.pins _ (hY hy)
     have hpb1:0<=f.pins:=hpb.1
     have hpb2:f.pins<=(B:Int):=hpb.2
     have hB9:=hO.B9
     refine Ab I (Ae (Kt (Cs I (Lm I (Lc I (Lfa Er I Z3 I (Lq I (AI i 3 I G3 I I (Hrd 1 I) hfi I) (Lq I (Dl I I I (by omega)) (Lc I (Lfa Er I Z3 I (AM (l_e I (CE i 3 (({f with pins:=f.pins-1}:FC)) I I Z3 I I I hfi (by decide) I (Nk (Cs I (Ak I (Af (Pm [1] I (An I I ?_)))))))))))))))))))
     exact fun _ h=>⟨{S with fl:=S.fl.set i {f with pins:=f.pins-1}},by rw[hu],⟨by rw[hu]; exact hR.put_same hfi I I Iff.rfl,fun _ hG=>hG.set_same hfi rfl⟩,h⟩
theorem UB (hR:Rel S M) (hO:M.Ok B) (b:Int) (nv:NV) (hn:nv.d.Sm 65536):Con prog 261 [.pointer (some ⟨bc,0,none⟩),.int .i64 b,.agg nv.c.toArray] (fun _=>True) (Bz nv++S.H bc) (fun r:CS×NV=>.bool (M.setN b nv.d).1) (fun r=>Rel r.1 (M.setN b nv.d).2/\∀G,(∀e∈Bz r.2,e∈G)->NIn G S.fl->NIn G r.1.fl) (fun r=>Bz r.2++Bz nv++r.1.H bc):=by
 intro w hE hH
 refine enter (n:=21) (vs:=[.pointer (some ⟨bc,0,none⟩),.int .i64 b,.agg nv.c.toArray]) (St w (dom (Bp nv.s.e nv.d.es::CG nv.s.k nv.d.kids::CH nv.s.p nv.d.piv::EN nv.s.m nv.d.msgs::S.H bc)) (Bp nv.s.e nv.d.es::CG nv.s.k nv.d.kids::CH nv.s.p nv.d.piv::EN nv.s.m nv.d.msgs::Ad bc 257 (S).cells::Az (S).vF 259 FC.enc (S).fl::BH (S).bA kI kI (S).at'::BH (S).bL kI vS (S).ld::Az (S).vL 277 Wn.enc (S).ln::(S).rows)) func261 I I I (St.init hH) ?_
 refine Cs I (l_e I (AQ I I I I (fun bn=>Ce nv.c I (Ak I (Cs I (Lm I (Lm I (l_e I (E1 (EO hR hO b 2) I call165 (fun _ h=>CR.ofm (S:=S) h (fun e he=>iR _ (iR _ (iR _ (iR _ (iR _ (he))))))) (fun _ _=>Ak I (Ag (Ag ?_))))))))))))
 refine B5 (M.frI b 2) (fun hf=>?_) (fun i hf=>?_)
 · have hu:=NM nv.d hf
   refine Sv' 7 (.pointer none) I (by rw[hf]; rfl) (Cr I (Lm I (Lq I (DZ I GV I I) (Nk (Sb 12 true I (I) (Ai I (Cs I (Ak I (Af (Aa (Av (row0 154 Ms.enc none (row0 77 (Kv.enc 8) none (row0 3 (AG .i64) none (row0 79 En.enc none (An I I ?_))))))))))))))))
   exact fun _ h=>⟨(S,⟨n40,ndE⟩),by rw[hu],⟨by rw[hu]; exact hR,fun _ _ h=>h⟩,h⟩
 · obtain⟨hf1,hst⟩:=G8 hf
   obtain⟨y,hy,hyb,hys,hya⟩:=Ec hf1
   obtain⟨f,hfi,hfy⟩:=hR.get hy
   have hlt:=(gl.1 hfi).1
   rw[hya,<-hfy] at hst
   rw[<-hfy] at hya hys hyb hy
   refine Sv' 7 (fp S.vF i) I (by rw[hf]; rfl) (Cr I (Lm I (Lq I (DZ I GV I I) (Nk (Sb 12 false I (I) (Ab I (Ae (Kt (Cs I (Lm I (Lm I (Lq I (Cq (nv.c) Bs AR 0 I (I) (I)) ?_))))))))))))
   have hu:=NN nv.d hf
   rw[hya] at hu
   refine l_e I (EG (F7 nv hn) I I I call155 I (fun _ h=>⟨h.rd 1 rfl,h.rd 2 rfl,h.rd 3 rfl,h.rd 4 rfl⟩) (fun s _=>Lc I (Lfa Er I AR I (G6 (l_e I (FD i 6 ({f with nv:=(⟨s,nv.d⟩:NV)}:FC) I I AR I I I hfi I (by decide) (NV.one _) (Lp _ _) (Lc I (Lfa Er I Z4 I ?_))))))))
   have hf2:(S.fl.set i ({f with nv:=(⟨s,nv.d⟩:NV)}:FC))[i]?=some ({f with nv:=(⟨s,nv.d⟩:NV)}:FC):=jV hlt
   refine l_e I (CE i 5 (({f with nv:=(⟨s,nv.d⟩:NV),dirty:=true}:FC)) I I Z4 I I I hf2 (by decide) I (Nk (Cs I (Ak I (Af (Bo (List.set_set ..) (Ex (Av (Pm [1,1,1,1,1,1,1,1,1] I (An I I ?_))))))))))
   exact fun _ h=>⟨({S with fl:=S.fl.set i ({f with nv:=(⟨s,nv.d⟩:NV),dirty:=true}:FC)},(⟨s,nv.d⟩:NV)),by rw[hu],⟨by rw[hu]; exact hR.put_same hfi I I Iff.rfl,fun G hG1 hG=>hG.set (.of hG1)⟩,h⟩
theorem SJ (hR:Rel S M) (hO:M.Ok B) (b:Int) (nv:NV) (hn:nv.d.Sm 65536):Con prog 133 [.pointer (some ⟨bc,0,none⟩),.int .i64 b,.agg nv.c.toArray] (fun _=>True) (Bz nv++S.H bc) (fun r:CS×NV×Value=>.tuple #[r.2.2,.bool (M.fill b nv.d).1.2]) (fun r=>Rel r.1 (M.fill b nv.d).2/\∀G,(∀e∈Bz r.2.1,e∈G)->NIn G S.fl->NIn G r.1.fl) (fun r=>Az r.2.2 3 (AG .i64) (M.fill b nv.d).1.1::(Bz r.2.1++Bz nv++r.1.H bc)):=by
 intro w hE hH
 refine enter (n:=35) (vs:=[.pointer (some ⟨bc,0,none⟩),.int .i64 b,.agg nv.c.toArray]) (St w (dom (Bp nv.s.e nv.d.es::CG nv.s.k nv.d.kids::CH nv.s.p nv.d.piv::EN nv.s.m nv.d.msgs::S.H bc)) (Bp nv.s.e nv.d.es::CG nv.s.k nv.d.kids::CH nv.s.p nv.d.piv::EN nv.s.m nv.d.msgs::Ad bc 257 (S).cells::Az (S).vF 259 FC.enc (S).fl::BH (S).bA kI kI (S).at'::BH (S).bL kI vS (S).ld::Az (S).vL 277 Wn.enc (S).ln::(S).rows)) func133 I I I (St.init hH) ?_
 refine Cs I (l_e I (AQ I I I I (fun bn=>Ce nv.c I (Las I (Ak I (Cs I (Lm I (Lm I (l_e I (E1 (EO hR hO b 1) I call165 (fun _ h=>CR.ofm (S:=S) h (fun e he=>iR _ (iR _ (iR _ (iR _ (iR _ (he))))))) (fun _ _=>Ak I (Ag (Ag ?_)))))))))))))
 refine B5 (M.frI b 1) (fun hf=>?_) (fun i hf=>?_)
 · have hu:=Ll nv.d hf
   refine Sv' 8 (.pointer none) I (by rw[hf]; rfl) (Cr I (Lm I (Lq I (DZ I GV I I) (Nk (Sb 14 true I (I) (Ai I (Cs I (Las I (Ak I (Af (Aa (Av (row0 154 Ms.enc none (row0 77 (Kv.enc 8) none (row0 3 (AG .i64) none (row0 79 En.enc none (row0 3 (AG .i64) none (Be (rs:=[.tmp 6,.tmp 7]) I I ?_))))))))))))))))))
   exact fun _ h=>⟨(S,⟨n40,ndE⟩,Cg),by rw[hu],⟨by rw[hu]; exact hR,fun _ _ h=>h⟩,by rw[hu]; exact h⟩
 · obtain⟨hf1,hst⟩:=G8 hf
   obtain⟨y,hy,hyb,hys,hya⟩:=Ec hf1
   obtain⟨f,hfi,hfy⟩:=hR.get hy
   have hlt:=(gl.1 hfi).1
   rw[hya,<-hfy] at hst
   rw[<-hfy] at hya hys hyb hy
   refine Sv' 8 (fp S.vF i) I (by rw[hf]; rfl) (Cr I (Lm I (Lq I (DZ I GV I I) (Nk (Sb 14 false I (I) (Ab I (Ae (Kt (Cs I (Lm I (Lm I (Lq I (Cq (nv.c) Bs AR 0 I (I) (I)) ?_))))))))))))
   have hu:=Ln nv.d hf
   rw[hya] at hu
   refine l_e I (EG (F7 nv hn) I I I call155 I (fun _ h=>⟨h.rd 1 rfl,h.rd 2 rfl,h.rd 3 rfl,h.rd 4 rfl⟩) (fun s _=>Lc I (Lfa Er I Z3 I (G6 (l_e I (CE i 0 (({f with st:=2}:FC)) I I Z3 I I I hfi (by decide) I (Lc I (Lfa Er I AR I ?_))))))))
   have hf2:(S.fl.set i ({f with st:=2}:FC))[i]?=some ({f with st:=2}:FC):=jV hlt
   refine l_e I (FD i 6 ({f with st:=2,nv:=(⟨s,nv.d⟩:NV)}:FC) I I AR I I I hf2 I (by decide) (NV.one _) (Lp _ _) (Nk (Cs I (Lm I (Lc I (Lfa C7 I R8 I (Lo isAgg254 10 I (Lm I (Lq I (K9 (kf:=kI) (vf:=vS) b I Pk JR zeroValue22 I I (Hat 12 I)) (Ak I (Ag (Bo (List.set_set ..) ?_))))))))))))
   refine B5 (Cn b S.ld) (fun hm=>?_) (fun q hm=>?_)
   · obtain⟨hde,_⟩:=Mt hm
     have ht:M.told b=[]:=by have:=hR.ld b; rw[hm] at this; exact this
     refine Sv' 9 (Cg) I (by rw[hm]) (Cr I (Lm I (Lc I (Lfa C7 I R8 I (Lo isAgg254 10 I (Lm I (Ii (l_e I (Ic b I I Pk JR I I (Nk (Cs I (Lm I (Las I (Ak I (Af (D0 (Av (Pm [9,9,1,8,0,7] I ?_))))))))))))))))))
     refine Pm [6,6,6,6,6,6,6] I ?_
     have e1:(M.fill b nv.d).1.1=[]:=by rw[hu]; exact ht
     have e2:({S with fl:=S.fl.set i ({f with st:=2,nv:=(⟨s,nv.d⟩:NV)}:FC),ld:=BM b S.ld}:CS).rows=S.rows:=by unfold CS.rows; show List.map _ (BM b S.ld)=_; rw[hde]
     refine row0 3 (AG .i64) none (Be (rs:=[.tmp 6,.tmp 7]) I I ?_)
     exact fun _ h=>⟨(({S with fl:=S.fl.set i ({f with st:=2,nv:=(⟨s,nv.d⟩:NV)}:FC),ld:=BM b S.ld}:CS),(⟨s,nv.d⟩:NV),Cg),by rw[hu],⟨by rw[hu]; exact hR.fill b hfi (Q8 hst) I ⟨fun _=>.inl hst,fun _=>.inr rfl⟩,fun G hG1 hG=>hG.set (.of hG1)⟩,by
      rw[e1]
      have h2:=h
      rw[<-e2] at h2; exact h2⟩
   · obtain⟨j,hj,hde,_⟩:=Ip hm
     have ht:M.told b=q.2:=by have:=hR.ld b; rw[hm] at this; exact this
     have hrj:=Q7 hj
     refine Sv' 9 (q.1.v) I (by rw[hm]) (Cr I (Lm I (Lc I (Lfa C7 I R8 I (Lo isAgg254 10 I (Lm I (Ii (l_e I (Ic b I I Pk JR I I (Nk (Cs I (Lm I (Las I (Ak I (Af (D0 (Av (Pm [9,9,1,8,0,7] I ?_))))))))))))))))))
     refine Pm [6,6,6,6,6,6,6] I ?_
     have e1:(M.fill b nv.d).1.1=q.2:=by rw[hu]; exact ht
     have e2:({S with fl:=S.fl.set i ({f with st:=2,nv:=(⟨s,nv.d⟩:NV)}:FC),ld:=BM b S.ld}:CS).rows=S.rows.eraseIdx j:=by rw[Pz,<-hde]; rfl
     refine Be (rs:=[.tmp 6,.tmp 7]) I I ?_
     exact fun _ h=>⟨(({S with fl:=S.fl.set i ({f with st:=2,nv:=(⟨s,nv.d⟩:NV)}:FC),ld:=BM b S.ld}:CS),(⟨s,nv.d⟩:NV),q.1.v),by rw[hu],⟨by rw[hu]; exact hR.fill b hfi (Q8 hst) I ⟨fun _=>.inl hst,fun _=>.inr rfl⟩,fun G hG1 hG=>hG.set (.of hG1)⟩,by
      rw[e1]
      have h2:=St.pullT (pre:=[_,_,_,_,_,_,_,_,_,_,_,_,_]) (T:=S.rows) hrj h
      rw[<-e2] at h2; exact h2⟩
end Go.Proofs.YtloldofjddbjoaaGreat
namespace Go.Proofs.YtloldofjddbjoaaGreat
open Go.Sep Go.RowKit Tryz
variable {M:Mo} {t b:Int} {S:CS} {B k:Nat}
section
variable {P:Program} {n:Nat} {L:Env} {o:Oper} {Q:Exit->Act->World->Prop} {K:Act->World->Prop} {w0:World} {D:List Nat}
theorem Jj {β:Type} {v:β->Value} {p:β->Prop} {E:World->Prop} {HA:List Ent} {HB:β->List Ent} {f:FuncId} {xs:List Operand} {ts:Array TypeId} {d:Nat} {vs:List Value} (pre:List Ent) (s:Con P f vs E HA v p HB) (ho:o.op=.call ⟨.value (.func f),xs.toArray,ts⟩) (hd:o.dst=some d) (hn:d.blt n=true)
 (hc:∀us w,(callFunc f us).run P w=.ok (.enter f us) w) (hv:evs L xs=some vs) (hE:∀w,St w0 D (pre++HA) w->E w) (h:∀b,p b->Pre n ((d,v b)::L) (St w0 D (pre++HB b)) K):EOp P n L (St w0 D (pre++HA)) o Q K :=
 Dw ho hd hn hc hv (fun w x=>(s.frame (F:=pre) (x.perm js) (hE w x)).mono (fun e w' ⟨b,he,hp,h'⟩=>⟨b,he,hp,h'.perm js⟩)) h
end
theorem E7 {B:Nat} (h:M.Ok B) {i:Nat} {y y':Vw} (hy:M.fr[i]?=some y) (hs:y'.st=y.st) (hb:y'.blk=y.blk) (ho:y'.own=y.own) (hp:0<=y'.pins/\y'.pins<=(B:Int)) (he:y'.nd.Sm 1000):(M.put i y').Ok B:=by
 have hm:=hY hy
 refine J1 h hy (by rw[hs]; exact h.st y hm) (by rw[hs,hb]; exact h.none' y hm) (by rw[hs,hb]; exact h.blk y hm) (by rw[hs,ho]; exact h.own y hm) (by rw[hs,ho]; exact h.own0 y hm) hp (fun h1 j z hj hz h2 e=>?_) (fun q _ h1 h2=>⟨by rw[hs]; exact h1,by rw[hb]; exact h2⟩) he
 rw[hs] at h1
 exact hj (h.uni j i z y hz hy h2 h1 (by rw[e,hb]))
theorem Rel.new (h:Rel S M) {k:Nat} {y y':Vw} {f':FC} {b:Int} (hy:M.fr[k]?=some y) (hf:¬(y.st=1\/y.st=2)) (hn:M.find b=none) (hv:vw f'=y') (hb:f'.blk=b) (hs:f'.st=1\/f'.st=2):Rel {S with fl:=S.fl.set k f',at':=BJ b (k:Int) S.at'} (M.put k y') :=
 h.put hv _ (fun c=>by
  rw[XM hy hf hn (by rw[<-hv]; exact hb) (by rw[<-hv]; exact hs)]
  by_cases e:c=b
  · subst e; rw[fO rfl,JJ]; rfl
  · rw[fR e,Ib (fun e'=>e e'.symm)]; exact h.at' c) (Gv b _ h.na)
theorem PB (h:(bkB b&&M.mayW t b)=false):M.pin t b=(0,M):=by unfold Mo.pin; rw[fO h]
theorem UC {i:Nat} {y:Vw} (h:(bkB b&&M.mayW t b)=true) (hf:M.find b=some i) (hy:M.at' i=y):M.pin t b=if y.st=2 then (1,(M.put i {y with pins:=y.pins+1,ref:=true}).leave t) else (2,{(M.put i {y with pins:=y.pins+1,ref:=true}).leave t with loads:=M.loads++[(t,b)]}):=by
 subst hy
 unfold Mo.pin; rw[fR (by rw[h]; decide),hf]; rfl
theorem Ls (h:(bkB b&&M.mayW t b)=true) (hf:M.find b=none) (hk:M.takes t=none):M.pin t b=(4,M.ask t b):=by unfold Mo.pin; rw[fR (by rw[h]; decide),hf]; simp only; rw[hk]
theorem NP (h:(bkB b&&M.mayW t b)=true) (hf:M.find b=none) (hk:M.takes t=some k):M.pin t b=(3,(M.leave t).put k ⟨1,b,0,1,true,false,nd0⟩):=by unfold Mo.pin; rw[fR (by rw[h]; decide),hf]; simp only; rw[hk]
theorem NQ (h:M.mayW t (-1)=false):M.claim t=(false,M):=by unfold Mo.claim; rw[fO h]
theorem IV (h:M.mayW t (-1)=true) (hk:M.takes t=none):M.claim t=(false,M.ask t (-1)):=by unfold Mo.claim; rw[fR (by rw[h]; decide),hk]
theorem J5 (h:M.mayW t (-1)=true) (hk:M.takes t=some k):M.claim t=(true,(M.leave t).put k ⟨3,-1,t,1,false,false,nd0⟩):=by unfold Mo.claim; rw[fR (by rw[h]; decide),hk]
theorem UD (c:Int):((M.loads++[(t,b)]).filter (fun q=>decide (q.2=c))).map Prod.fst=if c=b then M.told c++[t] else M.told c:=by
 rw[jN,gL]
 unfold Mo.told
 by_cases e:c=b
 · subst e; rw[fO rfl]; simp
 · rw[fR e]; simp[jY,iA e]
theorem Rel.wait (h:Rel S M) (t b:Int) (sv:Sv) (l:List Int) (hl:l=M.told b++[t]):Rel {S with ld:=BJ b (sv,l) S.ld} {M with loads:=M.loads++[(t,b)]}:=by
 refine⟨h.fr,h.ln,h.hd,h.at',fun c=>?_,Gv b _ h.nd,h.na⟩
 · show ((M.loads++[(t,b)]).filter (fun q=>decide (q.2=c))).map Prod.fst=match Cn c (BJ b (sv,l) S.ld) with|some q=>q.2|none=>[]
   rw[UD]
   by_cases e:c=b
   · subst e; rw[fO rfl,JJ]; exact hl.symm
   · rw[fR e,Ib (fun e'=>e e'.symm)]; exact h.ld c
theorem UE (h:bkB b=true) (t:Int):wn (t,b)=⟨t,b,false⟩:=by
 unfold bkB at h
 simp only[gQ,ia] at h
 unfold wn
 simp only[Wn.mk.injEq,true_and]
 exact jo (by omega)
theorem UF {bc : Nat} (hR : Rel S M) (hO : M.Ok B) (hB : B + 1 <= 60000) (t b : Int) (hb64 : i64 b) : Con prog 174 [.pointer (some ⟨bc, 0, none⟩), .int .i64 t, .int .i64 b] (fun _ => True) (S.H bc) (fun S' : CS => .int .i64 (M.pin t b).1) (fun S' => Rel S' (M.pin t b).2 /\ ∀ G, NIn G S.fl -> NIn G S'.fl) (fun S' => S'.H bc) := by
  intro w hE hH
  refine enter (n := 84) (vs := [.pointer (some ⟨bc, 0, none⟩), .int .i64 t, .int .i64 b]) (St w (dom (S.H bc)) (Ad bc 257 (S).cells :: Az (S).vF 259 FC.enc (S).fl :: BH (S).bA kI kI (S).at' :: BH (S).bL kI vS (S).ld :: Az (S).vL 277 Wn.enc (S).ln :: (S).rows)) func174 I I I (St.init hH) ?_
  refine Cs I (Ak I (Cs I (Lm I (Lm I (Lq I (AN ((⟨t, b, false⟩ : Wn).c) I I (fun w => by kernel_rfl)) (l_e I (Au I I I zeroValue277 (fun bw => Ce (⟨0, 0, false⟩ : Wn).c I (l_e I (Ah I I EC I I I (Wn.one _) (by show 0 + 3 <= 3; decide) (Ay (show Sep.splice _ 0 ((⟨t, b, false⟩ : Wn)).c = ((⟨t, b, false⟩ : Wn)).c from Sep.e7 I) (Ns (Cs I (Lm I (l_e I (E1 (block_spec b) I call241 Tt (fun _ _ => Lq I (Qt I) (Lm I ?_))))))))))))))))))
  refine CB 17 I (fun hb => ?_) (fun hb => ?_)
  · have hu := PB (M := M) (t := t) (b := b) (by rw [hb]; rfl)
    refine Lx I (Lx I (Lx I (Lx I (Lq I (Qy I) (Nk (Ai I (Cs I (Ak I (Af (Aa (Av (An I I ?_))))))))))))
    exact fun _ h => ⟨S, by rw [hu], ⟨by rw [hu]; exact hR, fun _ h => h⟩, h⟩
  · have hwn := UE hb t
    refine Lm I (Lq I (Cq ((⟨t, b, false⟩ : Wn).c) L9 EC 0 I (I) (I)) (Sv' 19 (.agg (wn (t, b)).c.toArray) I (by rw [hwn]) (l_e I (E1 (may_spec hR hO t b hb64) I call242 (fun _ h => CR.ofm (S := S) h (fun e he => iR _ (he))) (fun _ _ => Lq I (Qt I) (Lq I (Qz I) (Nk ?_)))))))
    refine CB 22 I (fun hm => ?_) (fun hm => ?_)
    · have hu := PB (M := M) (t := t) (b := b) (by rw [hb, hm]; rfl)
      refine Ai I (Cs I (Ak I (Af (Aa (Av (An I I ?_))))))
      exact fun _ h => ⟨S, by rw [hu], ⟨by rw [hu]; exact hR, fun _ h => h⟩, h⟩
    · have hbm : (bkB b && M.mayW t b) = true := by rw [hb, hm]; rfl
      refine Ab I (Ae (Ks (Cs I (Lm I (Lm I (l_e I (E1 (D7 hR hO b) I call194 (fun _ h => CR.ofm (S := S) h (fun e he => iR _ (he))) (fun _ _ => Ak I (Ag ?_)))))))))
      refine B5 (M.find b) (fun hf => ?_) (fun i hf => ?_)
      · refine Sv' 8 (.int .i64 (-1)) I (by rw [hf]; rfl) (Cr I (Lm I (Lq I (Qg I) (Nk (Sb 27 false I (I) (Ab I (Ae (Kt (Cs I (Lm I (Lm I (l_e I (E1 (free_spec hR hO t) I call244 (fun _ h => CR.ofm (S := S) h (fun e he => iR _ (he))) (fun _ _ => Ak I (Ag (Ag ?_))))))))))))))))
        refine B5 (M.takes t) (fun hk => ?_) (fun k hk => ?_)
        · have hu := Ls hbm hf hk
          refine Sv' 10 (.pointer none) I (by rw [hk]; rfl) (Cr I (Lm I (Lq I (DZ I GV I I) (Nk (Sb 70 true I (I) (Ai I (Cs I (Lm I (Lq I (Cq ((⟨t, b, false⟩ : Wn).c) L9 EC 0 I (I) (I)) (Sv' 72 (.agg (wn (t, b)).c.toArray) I (by rw [hwn]) (l_e I (Ee [_] (NL hR hO t b) I call245 Tt (fun v _ => Pw (St _ _ (_ :: Ad bc 257 (({ S with vL := v, ln := (M.ask t b).line.map wn } : CS)).cells :: Az (({ S with vL := v, ln := (M.ask t b).line.map wn } : CS)).vF 259 FC.enc (({ S with vL := v, ln := (M.ask t b).line.map wn } : CS)).fl :: BH (({ S with vL := v, ln := (M.ask t b).line.map wn } : CS)).bA kI kI (({ S with vL := v, ln := (M.ask t b).line.map wn } : CS)).at' :: BH (({ S with vL := v, ln := (M.ask t b).line.map wn } : CS)).bL kI vS (({ S with vL := v, ln := (M.ask t b).line.map wn } : CS)).ld :: Az (({ S with vL := v, ln := (M.ask t b).line.map wn } : CS)).vL 277 Wn.enc (({ S with vL := v, ln := (M.ask t b).line.map wn } : CS)).ln :: (({ S with vL := v, ln := (M.ask t b).line.map wn } : CS)).rows)) ?_)))))))))))))
          refine Nk (Cs I (Ak I (Af (Aa (Av (An I I ?_))))))
          exact fun _ h => ⟨({ S with vL := v, ln := (M.ask t b).line.map wn } : CS), by rw [hu], ⟨by rw [hu]; exact hR.line v _, fun _ h => h⟩, h⟩
        · have hu := NP hbm hf hk
          obtain ⟨y0, hy0, hys, hya⟩ := Hx hk
          obtain ⟨f0, hfk, hfy⟩ := hR.get hy0
          have hkl := (gl.1 hfk).1
          refine Sv' 10 (fp S.vF k) I (by rw [hk]; rfl) (Cr I (Lm I (Lq I (DZ I GV I I) (Nk (Sb 70 false I (I) (Ab I (Ae (Kt (Cs I (Lm I (Lm I (l_e I (Ee [_] (Ha hR hO t) I call243 Tt (fun v _ => Pw (St _ _ (_ :: Ad bc 257 (({ S with vL := v, ln := (M.leave t).line.map wn } : CS)).cells :: Az (({ S with vL := v, ln := (M.leave t).line.map wn } : CS)).vF 259 FC.enc (({ S with vL := v, ln := (M.leave t).line.map wn } : CS)).fl :: BH (({ S with vL := v, ln := (M.leave t).line.map wn } : CS)).bA kI kI (({ S with vL := v, ln := (M.leave t).line.map wn } : CS)).at' :: BH (({ S with vL := v, ln := (M.leave t).line.map wn } : CS)).bL kI vS (({ S with vL := v, ln := (M.leave t).line.map wn } : CS)).ld :: Az (({ S with vL := v, ln := (M.leave t).line.map wn } : CS)).vL 277 Wn.enc (({ S with vL := v, ln := (M.leave t).line.map wn } : CS)).ln :: (({ S with vL := v, ln := (M.leave t).line.map wn } : CS)).rows)) ?_))))))))))))))
          refine Nk (Cs I (Lm I (Lm I (Lq I (AN ((⟨1, b, -1, 1, true, false, nv0⟩ : FC).c) I I (fun w => by kernel_rfl)) (Lc I (AV (l_e I (Ei k ((⟨1, b, -1, 1, true, false, nv0⟩ : FC)) I I EM I I I I (by omega) (Nk (Cs I (Lm I (Lm I (Pm [1, 1] I ?_)))))))))))))
          have hfk2 : ({ S with vL := v, ln := (M.leave t).line.map wn, fl := S.fl.set k (⟨1, b, -1, 1, true, false, nv0⟩ : FC) } : CS).fl[k]? = some (⟨1, b, -1, 1, true, false, nv0⟩ : FC) := jV hkl
          have hf64 : ({ S with vL := v, ln := (M.leave t).line.map wn, fl := S.fl.set k (⟨1, b, -1, 1, true, false, nv0⟩ : FC) } : CS).fl.length <= 65536 := by
            show (S.fl.set k _).length <= _
            rw [je, hR.len]; have := hO.n64; omega
          refine Pw (St _ _ (_ :: CS.H bc ({ S with vL := v, ln := (M.leave t).line.map wn, fl := S.fl.set k (⟨1, b, -1, 1, true, false, nv0⟩ : FC) } : CS))) ?_
          refine l_e I (Ee [_] (IU (S := ({ S with vL := v, ln := (M.leave t).line.map wn, fl := S.fl.set k (⟨1, b, -1, 1, true, false, nv0⟩ : FC) } : CS)) hfk2 hf64) I call246 Tt (fun _ _ => Pw (St _ _ (_ :: Ad bc 257 (({ S with vL := v, ln := (M.leave t).line.map wn, fl := S.fl.set k (⟨1, b, -1, 1, true, false, nv0⟩ : FC), at' := BJ b (k : Int) S.at' } : CS)).cells :: Az (({ S with vL := v, ln := (M.leave t).line.map wn, fl := S.fl.set k (⟨1, b, -1, 1, true, false, nv0⟩ : FC), at' := BJ b (k : Int) S.at' } : CS)).vF 259 FC.enc (({ S with vL := v, ln := (M.leave t).line.map wn, fl := S.fl.set k (⟨1, b, -1, 1, true, false, nv0⟩ : FC), at' := BJ b (k : Int) S.at' } : CS)).fl :: BH (({ S with vL := v, ln := (M.leave t).line.map wn, fl := S.fl.set k (⟨1, b, -1, 1, true, false, nv0⟩ : FC), at' := BJ b (k : Int) S.at' } : CS)).bA kI kI (({ S with vL := v, ln := (M.leave t).line.map wn, fl := S.fl.set k (⟨1, b, -1, 1, true, false, nv0⟩ : FC), at' := BJ b (k : Int) S.at' } : CS)).at' :: BH (({ S with vL := v, ln := (M.leave t).line.map wn, fl := S.fl.set k (⟨1, b, -1, 1, true, false, nv0⟩ : FC), at' := BJ b (k : Int) S.at' } : CS)).bL kI vS (({ S with vL := v, ln := (M.leave t).line.map wn, fl := S.fl.set k (⟨1, b, -1, 1, true, false, nv0⟩ : FC), at' := BJ b (k : Int) S.at' } : CS)).ld :: Az (({ S with vL := v, ln := (M.leave t).line.map wn, fl := S.fl.set k (⟨1, b, -1, 1, true, false, nv0⟩ : FC), at' := BJ b (k : Int) S.at' } : CS)).vL 277 Wn.enc (({ S with vL := v, ln := (M.leave t).line.map wn, fl := S.fl.set k (⟨1, b, -1, 1, true, false, nv0⟩ : FC), at' := BJ b (k : Int) S.at' } : CS)).ln :: (({ S with vL := v, ln := (M.leave t).line.map wn, fl := S.fl.set k (⟨1, b, -1, 1, true, false, nv0⟩ : FC), at' := BJ b (k : Int) S.at' } : CS)).rows)) ?_))
          refine Nk (Cs I (Ak I (Af (Av (An I I ?_)))))
          exact fun _ h => ⟨({ S with vL := v, ln := (M.leave t).line.map wn, fl := S.fl.set k (⟨1, b, -1, 1, true, false, nv0⟩ : FC), at' := BJ b (k : Int) S.at' } : CS), by rw [hu], ⟨by rw [hu]; exact (hR.line v (M.leave t).line).new (M := M.leave t) hy0 (by rw [hys]; decide) hf I I (.inl I), fun _ hG => hG.set (.zero _)⟩, h⟩
      · obtain ⟨y, hy, hyb, hys, hya⟩ := Ec hf
        obtain ⟨f, hfi, hfy⟩ := hR.get hy
        have hlt := (gl.1 hfi).1
        rw [<- hfy] at hya hys hyb hy
        have hu := UC hbm hf hya
        have hB9 := hO.B9
        have hpb := hO.pins _ (hY hy)
        have hpb1 : 0 <= f.pins := hpb.1
        have hpb2 : f.pins <= (B : Int) := hpb.2
        refine Sv' 8 (.int .i64 (i : Int)) I (by rw [hf]; rfl) (Cr I (Lm I (Lq I (Qg I) (Nk (St' 27 I (by omega) (Ai I (Cs I (Lm I (Lc I (Lfa C7 I FN I (Lo Gy 1 I (Lm I (Lq I (As i I Fh EM I (Hrd 2 I) I I (by omega)) (Ak I (Cs I (Lm I (Lc I (Lfa Er I Z3 I (Lq I (AI i 3 I G3 I I (Hrd 2 I) hfi I) (Lq I (Bf I I I (by omega)) (Lc I (Lfa Er I Z3 I (AV ?_)))))))))))))))))))))))
        refine l_e I (CE i 3 (({ f with pins := f.pins + 1 } : FC)) I I Z3 I I I hfi (by decide) I (Nk (Cs I (Lm I (Lc I (Lfa Er I Z4 I ?_))))))
        have hf2 : (S.fl.set i ({ f with pins := f.pins + 1 } : FC))[i]? = some ({ f with pins := f.pins + 1 } : FC) := jV hlt
        refine l_e I (CE i 4 (({ f with pins := f.pins + 1, ref := true } : FC)) I I Z4 I I I hf2 (by decide) I (Ns (Bo (List.set_set ..) (Pm [1, 1] I (Cr I (Lm I (Lm I ?_)))))))
        have hR1 : Rel ({ S with fl := S.fl.set i ({ f with pins := f.pins + 1, ref := true } : FC) } : CS) (M.put i { vw f with pins := (vw f).pins + 1, ref := true }) := hR.put_same hfi rfl rfl Iff.rfl
        have hO1 : Mo.Ok (M.put i { vw f with pins := (vw f).pins + 1, ref := true }) (B + 1) := E7 (y := vw f) (y' := { vw f with pins := (vw f).pins + 1, ref := true }) (hO.mono (jT B) hB) hy rfl rfl rfl ⟨by show 0 <= f.pins + 1; omega, by show f.pins + 1 <= _; omega⟩ (hO.es (vw f) (hY hy))
        refine Pw (St _ _ (_ :: CS.H bc ({ S with fl := S.fl.set i ({ f with pins := f.pins + 1, ref := true } : FC) } : CS))) ?_
        refine l_e I (Ee [_] (Ha hR1 hO1 t) I call243 Tt (fun v _ => Pw (St _ _ (_ :: Ad bc 257 (({ S with vL := v, ln := (Mo.leave (M.put i { vw f with pins := (vw f).pins + 1, ref := true }) t).line.map wn, fl := S.fl.set i ({ f with pins := f.pins + 1, ref := true } : FC) } : CS)).cells :: Az (({ S with vL := v, ln := (Mo.leave (M.put i { vw f with pins := (vw f).pins + 1, ref := true }) t).line.map wn, fl := S.fl.set i ({ f with pins := f.pins + 1, ref := true } : FC) } : CS)).vF 259 FC.enc (({ S with vL := v, ln := (Mo.leave (M.put i { vw f with pins := (vw f).pins + 1, ref := true }) t).line.map wn, fl := S.fl.set i ({ f with pins := f.pins + 1, ref := true } : FC) } : CS)).fl :: BH (({ S with vL := v, ln := (Mo.leave (M.put i { vw f with pins := (vw f).pins + 1, ref := true }) t).line.map wn, fl := S.fl.set i ({ f with pins := f.pins + 1, ref := true } : FC) } : CS)).bA kI kI (({ S with vL := v, ln := (Mo.leave (M.put i { vw f with pins := (vw f).pins + 1, ref := true }) t).line.map wn, fl := S.fl.set i ({ f with pins := f.pins + 1, ref := true } : FC) } : CS)).at' :: BH (({ S with vL := v, ln := (Mo.leave (M.put i { vw f with pins := (vw f).pins + 1, ref := true }) t).line.map wn, fl := S.fl.set i ({ f with pins := f.pins + 1, ref := true } : FC) } : CS)).bL kI vS (({ S with vL := v, ln := (Mo.leave (M.put i { vw f with pins := (vw f).pins + 1, ref := true }) t).line.map wn, fl := S.fl.set i ({ f with pins := f.pins + 1, ref := true } : FC) } : CS)).ld :: Az (({ S with vL := v, ln := (Mo.leave (M.put i { vw f with pins := (vw f).pins + 1, ref := true }) t).line.map wn, fl := S.fl.set i ({ f with pins := f.pins + 1, ref := true } : FC) } : CS)).vL 277 Wn.enc (({ S with vL := v, ln := (Mo.leave (M.put i { vw f with pins := (vw f).pins + 1, ref := true }) t).line.map wn, fl := S.fl.set i ({ f with pins := f.pins + 1, ref := true } : FC) } : CS)).ln :: (({ S with vL := v, ln := (Mo.leave (M.put i { vw f with pins := (vw f).pins + 1, ref := true }) t).line.map wn, fl := S.fl.set i ({ f with pins := f.pins + 1, ref := true } : FC) } : CS)).rows)) ?_))
        refine Ns (Ag ?_)
        have hf3 : (S.fl.set i ({ f with pins := f.pins + 1, ref := true } : FC))[i]? = some ({ f with pins := f.pins + 1, ref := true } : FC) := jV hlt
        refine Cr I (Lm I (Lc I (Lfa Er I Z3 I (Lq I (AI i 0 I G3 I I (Hrd 2 I) hf3 I) (Lq I (Qe I) (Nk ?_))))))
        refine CB 51 I (fun hs => ?_) (fun hs => ?_)
        · rw [fO (show (vw f).st = 2 from hs)] at hu
          refine Ai I (Cs I (Ak I (Af (Aa (Aa (Av (An I I ?_)))))))
          exact fun _ h => ⟨({ S with vL := v, ln := (Mo.leave (M.put i { vw f with pins := (vw f).pins + 1, ref := true }) t).line.map wn, fl := S.fl.set i ({ f with pins := f.pins + 1, ref := true } : FC) } : CS), by rw [hu], ⟨by rw [hu]; exact hR1.line v _, fun _ hG => hG.set_same hfi rfl⟩, h⟩
        · rw [fR (show ¬ (vw f).st = 2 from hs)] at hu
          have hll := hO.ll
          have hR2 : Rel ({ S with vL := v, ln := (Mo.leave (M.put i { vw f with pins := (vw f).pins + 1, ref := true }) t).line.map wn, fl := S.fl.set i ({ f with pins := f.pins + 1, ref := true } : FC) } : CS) (Mo.leave (M.put i { vw f with pins := (vw f).pins + 1, ref := true }) t) := hR1.line v _
          refine Ab I (Ae (Ks (Dn (rg 15) 11691702 (fun w2 => (Ad bc 257 ({ S with vL := v, ln := (Mo.leave (M.put i { vw f with pins := (vw f).pins + 1, ref := true }) t).line.map wn, fl := S.fl.set i ({ f with pins := f.pins + 1, ref := true } : FC) } : CS).cells).at w2 /\ (BH S.bL kI vS S.ld).at w2) I St.drawn (H2 1 4 I) (Dm I (Dc I (Dfa C7 I R8 I (Dq I (Ao I isAgg254 I (fun _ h => h.1) I) (Dm I (Dm I (Dc I (Dfa C7 I R8 I (Dq I (Ao I isAgg254 I (fun _ h => h.1) I) (Dm I (Dq I (K9 (kf := kI) (vf := vS) b I Pk JR zeroValue22 I I (fun _ h => h.2)) (Dm I ?_)))))))))))))))
          refine B5 (Cn b S.ld) (fun hm2 => ?_) (fun q hm2 => ?_)
          · obtain ⟨_, hpu⟩ := Mt hm2
            have ht : M.told b = [] := by have := hR.ld b; rw [hm2] at this; exact this
            refine Sv' 62 (Cg) I (by rw [hm2]) ?_
            have htl : (([] : List Int)).length <= B := by
              rw [<- ht]; unfold Mo.told; rw [gS]; exact gF (jL _ _) hll
            refine row0 3 (AG .i64) none (d_e I (Ax (sz := 1) [.tmp 63] I I I I I U22 Z3 I zeroValue3 I (fun b2 => Aj (H2 3 6 I) (AM (d_e I (Ap U22 U22 Ez I (fun _ h => AW (h.at 1 I) (AG .i64) [t] I I) (by simp <;> omega) (fun v2 => AM (Av (Aj (H2 2 5 I) (Pre.fact (fun _ h => FL (h.rd 0 I)) ?_))))))))))
            rintro ⟨sv, rfl⟩
            refine Ex (d_t I (Ml (kf := kI) (vf := vS) b (sv, (([] : List Int) ++ [t])) I I Pk JR I I I (AK (Kt (Cs I (Ak I (Af (Aa (AV (Av (Pm [1, 1, 1, 1] I ?_)))))))))))
            have e2 : ({ S with vL := v, ln := (Mo.leave (M.put i { vw f with pins := (vw f).pins + 1, ref := true }) t).line.map wn, fl := S.fl.set i ({ f with pins := f.pins + 1, ref := true } : FC), ld := BJ b (sv, (([] : List Int) ++ [t])) S.ld } : CS).rows = S.rows ++ [Py (b, (sv, (([] : List Int) ++ [t])))] := by unfold CS.rows; show List.map _ (BJ b (sv, (([] : List Int) ++ [t])) S.ld) = _; rw [hpu, gL]; rfl
            refine An I I ?_
            exact fun _ h => ⟨({ S with vL := v, ln := (Mo.leave (M.put i { vw f with pins := (vw f).pins + 1, ref := true }) t).line.map wn, fl := S.fl.set i ({ f with pins := f.pins + 1, ref := true } : FC), ld := BJ b (sv, (([] : List Int) ++ [t])) S.ld } : CS), by rw [hu], ⟨by rw [hu]; exact hR2.wait t b sv _ (by rw [show Mo.told (Mo.leave (M.put i { vw f with pins := (vw f).pins + 1, ref := true }) t) b = M.told b from rfl, ht]), fun _ hG => hG.set_same hfi rfl⟩, by
                  have h2 := St.addT (pre := [_, _, _, _, _]) (T := S.rows) h
                  rw [<- e2] at h2; exact h2⟩
          · obtain ⟨j, hj, _, hpu⟩ := Ip hm2
            have ht : M.told b = q.2 := by have := hR.ld b; rw [hm2] at this; exact this
            have hrj := Q7 hj
            refine Sv' 62 (q.1.v) I (by rw [hm2]) ?_
            have htl : (q.2).length <= B := by
              rw [<- ht]; unfold Mo.told; rw [gS]; exact gF (jL _ _) hll
            refine Pre.world (St _ _ (Py (b, q) :: (_ :: _ :: _ :: _ :: _ :: _ :: S.rows.eraseIdx j))) (fun _ h => St.pullT (pre := [_, _, _, _, _, _]) (T := S.rows) hrj h) ?_
            refine d_e I (Ax (sz := 1) [.tmp 63] I I I I I U22 Z3 I zeroValue3 I (fun b3 => Aj (H2 3 6 I) (AM (d_e I (Ap U22 U22 Ez I (fun _ h => AW (h.at 1 I) (AG .i64) [t] I I) (by simp <;> omega) (fun v2 => AM (Av (Aj (H2 2 5 I) (Pre.fact (fun _ h => FL (h.rd 0 I)) ?_)))))))))
            rintro ⟨sv, rfl⟩
            refine Ex (d_t I (Ml (kf := kI) (vf := vS) b (sv, (q.2 ++ [t])) I I Pk JR I I I (AK (Kt (Cs I (Ak I (Af (Aa (AV (Av (Pm [1, 1, 1, 1] I ?_)))))))))))
            have e2 : ({ S with vL := v, ln := (Mo.leave (M.put i { vw f with pins := (vw f).pins + 1, ref := true }) t).line.map wn, fl := S.fl.set i ({ f with pins := f.pins + 1, ref := true } : FC), ld := BJ b (sv, (q.2 ++ [t])) S.ld } : CS).rows = S.rows.set j (Py (b, (sv, (q.2 ++ [t])))) := by rw [Uz, <- hpu]; rfl
            refine An I I ?_
            exact fun _ h => ⟨({ S with vL := v, ln := (Mo.leave (M.put i { vw f with pins := (vw f).pins + 1, ref := true }) t).line.map wn, fl := S.fl.set i ({ f with pins := f.pins + 1, ref := true } : FC), ld := BJ b (sv, (q.2 ++ [t])) S.ld } : CS), by rw [hu], ⟨by rw [hu]; exact hR2.wait t b sv _ (by rw [show Mo.told (Mo.leave (M.put i { vw f with pins := (vw f).pins + 1, ref := true }) t) b = M.told b from rfl, ht]), fun _ hG => hG.set_same hfi rfl⟩, by
                  have h2 := St.pushT (pre := [_, _, _, _, _]) (T := S.rows) (by rw [UA]; exact (gl.1 hj).1) h
                  rw [<- e2] at h2; exact h2⟩
end Go.Proofs.YtloldofjddbjoaaGreat
namespace Go.Proofs.YtloldofjddbjoaaGreat
open Go.Sep Go.RowKit Tryz
variable {M:Mo} {α:Type} {S:CS} {B bc i:Nat} {l:List En} {k:Kv 8} {t b:Int}
def fE:FC:=⟨0,-1,-1,0,false,false,nv0⟩
theorem dd:vw fE=BG:=rfl
theorem SK {α:Type} {p:α->Bool} {l:List α} {i:Nat} {x:α} (h:l[i]?=some x):Cp p (l.take (i+1))=match Cp p (l.take i) with|some k=>some k|none=>if p x=true then some i else none:=by
 have hlt:=(gl.1 h).1
 have hl:(l.take i).length=i:=by rw[fJ]; omega
 unfold Cp
 rw[jd,h,List.findIdx?_append]
 cases hf:(l.take i).findIdx? p with
 |some k=>rfl
 |none =>
  simp only[Option.none_or,Option.toList,jU,List.findIdx?_nil,hl]
  cases p x<;>simp
theorem NS (M:Mo) (t:Int):∀i,i<=M.fr.length->(cls M t i).head?=Cp (isC t) (M.fr.take i)
 |0,_=>rfl
 |i+1,h=>by
  obtain⟨y,hy⟩:∃y,M.fr[i]?=some y:=⟨_,fD (by omega)⟩
  rw[SK hy,JZ,JS hy,<-NS M t i (by omega)]
  cases hc:cls M t i with
  |nil=>cases isC t y<;>simp
  |cons a l=>cases isC t y<;>simp
theorem SL (M:Mo) (t:Int):Cp (isC t) M.fr=(cls M t M.fr.length).head?:=by rw[NS M t _ (ga _),jH]
theorem Mu {n:Nat}:i∈cls M t n↔i<n/\isC t (M.at' i)=true:=by
 unfold cls; rw[jE,gk]
def giveL (fl:List FC) (l:List Nat):List FC:=l.foldl (fun a k=>a.set k fE) fl
theorem Lu:∀(l:List Nat) (fl:List FC) (i:Nat),(giveL fl l)[i]?=if i∈l then (fl[i]?).map (fun _=>fE) else fl[i]?
 |[],fl,i=>by simp[giveL]
 |k::l,fl,i=>by
  show (giveL (fl.set k fE) l)[i]?=_
  rw[Lu l (fl.set k fE) i,jD]
  by_cases e:k=i
  · subst e
    by_cases hlt:k<fl.length
    · simp[hlt]
    · simp[hlt]
  · simp[e,iA e]
theorem SM (l:List Nat) (fl:List FC):(giveL fl l).length=fl.length:=by
 induction l generalizing fl with
 |nil=>rfl
 |cons k l ih=>show (giveL (fl.set k fE) l).length=_; rw[ih,je]
theorem UG (h:Rel S M) (t:Int):(giveL S.fl (cls M t M.fr.length)).map vw=(M.give t).fr:=by
 refine gv (fun i=>?_)
 show _=(M.fr.map (fun f=>if isC t f=true then BG else f))[i]?
 rw[gm,Lu,gm,<-h.fr,gm]
 cases hf:S.fl[i]? with
 |none=>split<;>rfl
 |some f =>
  have hv:=h.vw_at hf
  have hlt:=(gl.1 hv).1
  have hm:i∈cls M t (S.fl.map vw).length↔isC t (vw f)=true:=by rw[h.fr,Mu,JS hv]; exact⟨fun e=>e.2,fun e=>⟨hlt,e⟩⟩
  by_cases hc:isC t (vw f)=true
  · rw[fO (hm.2 hc)]; simp[hc,dd]
  · rw[fR (fun e=>hc (hm.1 e))]; simp[hc]
theorem SN (h:M.Ok B) (t b:Int):(M.give t).find b=M.find b:=by
 show Cp (isB b) (M.fr.map (fun f=>if isC t f=true then BG else f))=_
 rw[NB]
 unfold Mo.find
 congr 1
 funext f
 split
 · rename_i hc
   unfold isC at hc
   simp only[gQ,ia] at hc
   unfold isB BG
   simp only[hc.1]
   simp
 · rfl
theorem Rel.give (h:Rel S M) (hO:M.Ok B) (t:Int):Rel {S with fl:=giveL S.fl (cls M t M.fr.length)} (M.give t) :=
 ⟨UG h t,h.ln,h.hd,fun b=>by rw[SN hO]; exact h.at' b,h.ld,h.nd,h.na⟩
theorem J6 (nd:Nd) (h:(bkB b&&(M.find b).isNone)=false):M.name t b nd=(false,M):=by unfold Mo.name; rw[h]
theorem NT (nd:Nd) (h:Cp (isC t) M.fr=none):M.name t b nd=(false,M):=by unfold Mo.name; rw[h]; cases (bkB b&&(M.find b).isNone)<;>rfl
theorem NU {k:Nat} (nd:Nd) (h:(bkB b&&(M.find b).isNone)=true) (hk:Cp (isC t) M.fr=some k):M.name t b nd=(true,M.put k ⟨2,b,0,0,true,true,nd⟩):=by unfold Mo.name; rw[h,hk]
def mo0 (n:Nat):Mo:=⟨List.replicate n BG,[],[],0⟩
theorem NIn.give {G:List Ent} {fl:List FC} (h:NIn G fl) (l:List Nat):NIn G (giveL fl l):=by
 induction l generalizing fl with
 |nil=>exact h
 |cons k l ih=>exact ih (h.set (NvIn.zero _))
theorem ZX {s s':Int} (h1:¬(s=1\/s=2)) (h2:¬(s'=1\/s'=2)):(s=1\/s=2)↔(s'=1\/s'=2):=⟨fun e=>absurd e h1,fun e=>absurd e h2⟩
theorem PC (hR:Rel S M) (hO:M.Ok B) (t:Int):Con prog 207 [.pointer (some ⟨bc,0,none⟩),.int .i64 t] (fun _=>True) (S.H bc) (fun S':CS=>.bool (M.claim t).1) (fun S'=>Rel S' (M.claim t).2/\∀G,NIn G S.fl->NIn G S'.fl) (fun S'=>S'.H bc):=by
 intro w hE hH
 refine enter (n:=28) (vs:=[.pointer (some ⟨bc,0,none⟩),.int .i64 t]) (St w (dom (S.H bc)) (Ad bc 257 (S).cells::Az (S).vF 259 FC.enc (S).fl::BH (S).bA kI kI (S).at'::BH (S).bL kI vS (S).ld::Az (S).vL 277 Wn.enc (S).ln::(S).rows)) func207 I I I (St.init hH) ?_
 refine Cs I (Ak I (Cs I (Lm I (Lq I (AN ((wn (t,-1)).c) I I (fun w=>by kernel_rfl)) (l_e I (Au I I I zeroValue277 (fun bw=>Ce (⟨0,0,false⟩:Wn).c I (l_e I (Ah I I EC I I I (Wn.one _) (by show 0+3<=3; decide) (Ay (show Sep.splice _ 0 ((wn (t,-1))).c=((wn (t,-1))).c from Sep.e7 I) (Ns (Cs I (Lm I (Lq I (Cq ((wn (t,-1)).c) L9 EC 0 I (I) (I)) (l_e I (E1 (may_spec hR hO t (-1) (JW (by decide) (by decide))) I call242 (fun _ h=>CR.ofm (S:=S) h (fun e he=>iR _ (he))) (fun _ _=>Lq I (Qt I) (Nk ?_))))))))))))))))))
 refine CB 12 I (fun hm=>?_) (fun hm=>?_)
 · have hu:=NQ (M:=M) (t:=t) hm
   refine Ai I (Cs I (Ak I (Af (Aa (Av (An I I ?_))))))
   exact fun _ h=>⟨S,by rw[hu],⟨by rw[hu]; exact hR,fun _ h=>h⟩,h⟩
 · refine Ab I (Ae (Kt (Cs I (Lm I (Lm I (l_e I (E1 (free_spec hR hO t) I call244 (fun _ h=>CR.ofm (S:=S) h (fun e he=>iR _ (he))) (fun _ _=>Ak I (Ag (Ag ?_))))))))))
   refine B5 (M.takes t) (fun hk=>?_) (fun k hk=>?_)
   · have hu:=IV hm hk
     refine Sv' 6 (.pointer none) I (by rw[hk]; rfl) (Cr I (Lm I (Lq I (DZ I GV I I) (Nk (Sb 17 true I (I) (Ai I (Cs I (Lm I (Lq I (Cq ((wn (t,-1)).c) L9 EC 0 I (I) (I)) (l_e I (Ee [_] (NL hR hO t (-1)) I call245 Tt (fun v _=>Pw (St _ _ (_::Ad bc 257 (({S with vL:=v,ln:=(M.ask t (-1)).line.map wn}:CS)).cells::Az (({S with vL:=v,ln:=(M.ask t (-1)).line.map wn}:CS)).vF 259 FC.enc (({S with vL:=v,ln:=(M.ask t (-1)).line.map wn}:CS)).fl::BH (({S with vL:=v,ln:=(M.ask t (-1)).line.map wn}:CS)).bA kI kI (({S with vL:=v,ln:=(M.ask t (-1)).line.map wn}:CS)).at'::BH (({S with vL:=v,ln:=(M.ask t (-1)).line.map wn}:CS)).bL kI vS (({S with vL:=v,ln:=(M.ask t (-1)).line.map wn}:CS)).ld::Az (({S with vL:=v,ln:=(M.ask t (-1)).line.map wn}:CS)).vL 277 Wn.enc (({S with vL:=v,ln:=(M.ask t (-1)).line.map wn}:CS)).ln::(({S with vL:=v,ln:=(M.ask t (-1)).line.map wn}:CS)).rows)) ?_))))))))))))
     refine Nk (Cs I (Ak I (Af (Aa (Av (An I I ?_))))))
     exact fun _ h=>⟨({S with vL:=v,ln:=(M.ask t (-1)).line.map wn}:CS),by rw[hu],⟨by rw[hu]; exact hR.line v _,fun _ h=>h⟩,h⟩
   · have hu:=J5 hm hk
     obtain⟨y0,hy0,hys,hya⟩:=Hx hk
     obtain⟨f0,hfk,hfy⟩:=hR.get hy0
     have hkl:=(gl.1 hfk).1
     have hfb:f0.blk = -1:=by have:=hO.none' y0 (hY hy0) (.inl hys); rw[<-hfy] at this; exact this
     have hfs:f0.st=0:=by rw[<-hfy] at hys; exact hys
     refine Sv' 6 (fp S.vF k) I (by rw[hk]; rfl) (Cr I (Lm I (Lq I (DZ I GV I I) (Nk (Sb 17 false I (I) (Ab I (Ae (Kt (Cs I (Lm I (Lm I (l_e I (Ee [_] (Ha hR hO t) I call243 Tt (fun v _=>Pw (St _ _ (_::Ad bc 257 (({S with vL:=v,ln:=(M.leave t).line.map wn}:CS)).cells::Az (({S with vL:=v,ln:=(M.leave t).line.map wn}:CS)).vF 259 FC.enc (({S with vL:=v,ln:=(M.leave t).line.map wn}:CS)).fl::BH (({S with vL:=v,ln:=(M.leave t).line.map wn}:CS)).bA kI kI (({S with vL:=v,ln:=(M.leave t).line.map wn}:CS)).at'::BH (({S with vL:=v,ln:=(M.leave t).line.map wn}:CS)).bL kI vS (({S with vL:=v,ln:=(M.leave t).line.map wn}:CS)).ld::Az (({S with vL:=v,ln:=(M.leave t).line.map wn}:CS)).vL 277 Wn.enc (({S with vL:=v,ln:=(M.leave t).line.map wn}:CS)).ln::(({S with vL:=v,ln:=(M.leave t).line.map wn}:CS)).rows)) ?_))))))))))))))
     refine Nk (Cs I (Lm I (Lm I (Lq I (AN ((⟨3,-1,t,1,false,false,nv0⟩:FC).c) I I (fun w=>by kernel_rfl)) (Lc I (AV (l_e I (Ei k ((⟨3,-1,t,1,false,false,nv0⟩:FC)) I I EM I I I I (by omega) (Nk (Cs I (Ak I (Af (AM (Av (Pm [1] I (An I I ?_))))))))))))))))
     exact fun _ h=>⟨({S with vL:=v,ln:=(M.leave t).line.map wn,fl:=S.fl.set k (⟨3,-1,t,1,false,false,nv0⟩:FC)}:CS),by rw[hu],⟨by rw[hu]; exact (hR.line v (M.leave t).line).put_same (M:=M.leave t) (f':=(⟨3,-1,t,1,false,false,nv0⟩:FC)) hfk I hfb.symm (ZX (show ¬((3:Int)=1\/(3:Int)=2) by decide) (by rw[hfs]; decide)),fun _ hG=>hG.set (.zero _)⟩,h⟩
theorem J7 :Con prog 144 [] (fun _=>True) [] (fun _:Unit=>.agg fE.c.toArray) (fun _=>True) (fun _=>[]):=by
 intro w hE hH
 refine E0 func144 I hH ?_
 refine Cs I (l_e I (Au I I I zeroValue259 (fun be=>Ce (⟨0,0,0,0,false,false,nv0⟩:FC).c I (Nk (Cs I (Lq I (AN (fE.c) I I (fun w=>by kernel_rfl)) (l_e I (Ah I I EM I I I (FC.one _) (by show 0+11<=11; decide) (Ay (show Sep.splice _ 0 (fE).c=(fE).c from Sep.e7 I) (Nk (Af (CL I (AJ I isAgg259 EM (Hat 0 I) (I)) ?_))))))))))))
 exact fun _ h=>⟨(),rfl,trivial,h.e8⟩
theorem give_spec (hR:Rel S M) (hO:M.Ok B) (t:Int):Con prog 263 [.pointer (some ⟨bc,0,none⟩),.int .i64 t] (fun _=>True) (S.H bc) (fun S':CS=>.int .i64 (M.claims t:Int)) (fun S'=>Rel S' (M.give t)/\∀G,NIn G S.fl->NIn G S'.fl) (fun S'=>S'.H bc):=by
 intro w hE hH
 refine enter (n:=23) (vs:=[.pointer (some ⟨bc,0,none⟩),.int .i64 t]) (St w (dom (S.H bc)) (Ad bc 257 (S).cells::Az (S).vF 259 FC.enc (S).fl::BH (S).bA kI kI (S).at'::BH (S).bL kI vS (S).ld::Az (S).vL 277 Wn.enc (S).ln::(S).rows)) func263 I I I (St.init hH) ?_
 refine Cs I (Ak I (Cs I (Lm I (Lm I ?_))))
 obtain⟨ks,hks⟩:∃ks,ks=cls M t M.fr.length:=⟨_,rfl⟩
 have hkl:ks.length<=M.fr.length:=by rw[hks]; exact Mr M t _
 have h64:=hO.n64
 have hfl:=hR.len
 refine l_e I (AX (FB hR hO t) I I I call291 I (fun _ h=>CR.ofm (S:=S) h (fun e he=>he)) ?_)
 intro vk _
 rw[<-hks]
 refine Ak I (Ag (Cs I (Lm I (Lq I (AL I KN I (Hrd 0 I)) (Lm I (Nk (Al ?_)))))))
 refine Bc (fun (j:Nat)=>[(0,.pointer (some ⟨bc,0,none⟩)),(5,vk),(11,vk),(12,.int .i64 (ks.length:Int)),(13,.int .i64 (j:Int))]) (fun (j:Nat)=>St w (dom (S.H bc)) (Az vk 284 (Lj S.vF) ks::Ad bc 257 (S).cells::Az (S).vF 259 FC.enc (giveL S.fl (ks.take j))::BH (S).bA kI kI (S).at'::BH (S).bL kI vS (S).ld::Az (S).vL 277 Wn.enc (S).ln::(S).rows)) (fun (j:Nat)=>j<=ks.length) (fun (j:Nat)=>ks.length-j) (0) (gb _) (Si I) Ih (fun j hj0=>Cs I (Lq I (Ql I) (Ns ?_)))
 refine CB 14 I (fun h1=>?_) (fun h1=>?_)
 · obtain⟨i,hj⟩:∃i,ks[j]?=some i:=⟨_,fD (by omega)⟩
   have hil:i<M.fr.length:=by have:=hY hj; rw[hks] at this; exact (Mu.1 this).1
   have hgl:=SM (ks.take j) S.fl
   have hgs:giveL S.fl (ks.take (j+1))=(giveL S.fl (ks.take j)).set i fE:=by unfold giveL; rw[jd,hj,jZ]; rfl
   refine Ai I (Ae (Ks (Al (Cs I (Lq I (As j I KN sizeOf284 I (Hrd 0 I) I I (by omega)) (Lq I (AI j 0 I isAgg284 I I (Hrd 0 I) hj I) (Ak I (Cr I (Lm I (l_e I (E1 (J7) I call144 Tt (fun _ _=>Lc I (AV (l_e I (Ei i fE I I EM I I I I (by omega) (AB (Aw (Kt (Cr I (Lq I (Qi I (by omega)) (Lm I (AB (Pm [1,1] I ?_)))))))))))))))))))))))
   exact AD (j+1) (by omega) (by omega) (Si I) (fun _ h=>by rw[hgs]; exact h)
 · rw[fZ (show ks.length<=j by omega)]
   refine Ab I (AO (Ac (Ac (Ar (Kt (Cs I (Lm I (Lq I (AL I KN I (Hrd 0 I)) (Ak I (Af (Av (An I I ?_))))))))))))
   exact fun _ h=>⟨{S with fl:=giveL S.fl ks},congrArg (fun z=>Ending.returned (Value.int .i64 z)) (by rw[hks,Q6]),⟨by rw[hks]; exact hR.give hO t,fun _ hG=>hG.give _⟩,h⟩
theorem Rel.zero (vF vL:Value) (bA bL n:Nat):Rel ⟨vF,List.replicate n fE,bA,[],bL,[],vL,[],0⟩ (mo0 n) :=
 ⟨by show (List.replicate n fE).map vw=List.replicate n BG; rw[gT]; rfl,rfl,rfl,fun b=>by
  show none=Option.map _ (Cp (isB b) (List.replicate n BG))
  rw[C3 (fun z hz=>by rw[(ic.1 hz).2]; unfold isB BG; simp)]; rfl,fun b=>rfl,iO,iO⟩
theorem NIn.zero (G:List Ent) (n:Nat):NIn G (List.replicate n fE):=fun f hf=>by rw[(ic.1 hf).2]; exact NvIn.zero _
theorem UH (n:Nat) (x:α):List.replicate n x++[x]=List.replicate (n+1) x:=(List.replicate_succ' ..).symm
def c0 (v:Value) (bA bL:Nat):List Value:=[v,.map (some bA),.map (some bL),Cg,.int .i64 0]
theorem new_spec (n:Nat) (h1n:1<=n) (hn:n<=64):Con prog 101 [.int .i64 (n:Int)] (fun _=>True) [] (fun r:Nat×CS=>.tuple #[.pointer (some ⟨r.1,0,none⟩),.int .i64 0]) (fun r=>Rel r.2 (mo0 n)/\∀G,NIn G r.2.fl) (fun r=>r.2.H r.1):=by
 intro w hE hH
 refine E0 func101 I hH ?_
 refine Cs I (Las I (Ak I (Ag (Cs I (Lm I (Lq I (Ql I) (Lm I (Sf 7 I (by omega) (Lm I (Lq I (BS I I I) (Lq I (Qz I) (Nk (Sf 10 I (by omega) (Ab I (Ae (Kt (Cs I (l_e I (G2 kI kI I I I (fun bA=>l_e I (G2 kI vS I I I (fun bM=>Lq I (AN (c0 Cg bA bM) I I (fun w=>by kernel_rfl)) (l_e I (AQ I I I I (fun bc=>Ce (c0 Cg bA bM) I (Ak I (Ag (Cs I (Lm I (Lm I (Nk (Al (row0 277 Wn.enc none (row0 259 FC.enc none (Pm [2,0,2,1] I ?_)))))))))))))))))))))))))))))))))))
 refine CN (fun (i:Nat) (v:Value)=>[(4,.pointer (some ⟨bc,0,none⟩)),(15,.int .i64 (n:Int)),(16,.int .i64 (i:Int))]) (fun (i:Nat) (v:Value)=>St w [] [Ad bc 257 (c0 v bA bM),Az v 259 FC.enc (List.replicate i fE),BH bA kI kI [],BH bM kI vS [],Az Cg 277 Wn.enc []]) (fun (i:Nat) (v:Value)=>i<=n) (fun (i:Nat) (v:Value)=>n-i) (0) (.slice none 0 0) (gb _) (Si I) Ih (fun i v hi=>Ag ?_)
 have hrl:(List.replicate i fE).length=i:=jB ..
 refine Cr I (Lq I (Ql I) (Ns ?_))
 refine CB 17 I (fun h1=>?_) (fun h1=>?_)
 · refine Ai I (Ae (Ks (Al (Dn (rg 11) 173745 (fun w2=>(Ad bc 257 (c0 v bA bM)).at w2) I St.drawn (Hat 0 I) (Dm I (Dm I (Dc I (Dfa C7 I FN I (Dq I (Ao I Gy I Ih I) (d_e I (E1 (J7) I call144 Tt (fun _ _=>Aj (Hat 0 I) (d_e I (Ax (sz:=11) [.tmp 23] I I I I I Fh EM I zeroValue259 I (fun b2=>Aj (Hat 1 I) (AV (d_e I (Ap Fh Fh Xw I (fun _ h=>AW (h.at 1 I) FC.enc [fE] I I) (by simp<;>omega) (fun v2=>Bo (UH i fE) (AM (Av (Aj (Hat 1 I) (d_t I (e_q I I (Bt I I) (d_t I (e_q I I (Ba I C7 I FN I I) (Pre.fact (fun _ h=>FL (h.rd 0 I)) ?_)))))))))))))))))))))))))))
   rintro⟨sv,rfl⟩
   refine AM (d_t I (AF I I FN I I I (iy I) (Ce (c0 sv.v bA bM) I (AK (Aw (Kt (Cr I (Lq I (Qi I (by omega)) (Lm I (AB ?_))))))))))
   exact AD ((i+1,sv.v)) (by dsimp only; omega) (by dsimp only; omega) (Si I) (fun _ h=>h)
 · have hin:i=n:=by omega
   subst hin
   refine Ab I (AO (Ac (Ac (Ar (Kt (Cs I (Lm I (Las I (Ak I (Af (Be (rs:=[.tmp 2,.tmp 3]) I I ?_)))))))))))
   exact fun _ h=>⟨(bc,⟨v,List.replicate i fE,bA,[],bM,[],Cg,[],0⟩),rfl,⟨Rel.zero _ _ _ _ _,fun G=>NIn.zero G i⟩,h⟩
theorem SO (hR:Rel S M) (hO:M.Ok B) (t b:Int) (nv:NV) (hn:nv.d.Sm 65536):Con prog 268 [.pointer (some ⟨bc,0,none⟩),.int .i64 t,.int .i64 b,.agg nv.c.toArray] (fun _=>True) (Bz nv++S.H bc) (fun r:CS×NV=>.bool (M.name t b nv.d).1) (fun r=>Rel r.1 (M.name t b nv.d).2/\∀G,(∀e∈Bz r.2,e∈G)->NIn G S.fl->NIn G r.1.fl) (fun r=>Bz r.2++Bz nv++r.1.H bc):=by
 intro w hE hH
 refine enter (n:=40) (vs:=[.pointer (some ⟨bc,0,none⟩),.int .i64 t,.int .i64 b,.agg nv.c.toArray]) (St w (dom (Bp nv.s.e nv.d.es::CG nv.s.k nv.d.kids::CH nv.s.p nv.d.piv::EN nv.s.m nv.d.msgs::S.H bc)) (Bp nv.s.e nv.d.es::CG nv.s.k nv.d.kids::CH nv.s.p nv.d.piv::EN nv.s.m nv.d.msgs::Ad bc 257 (S).cells::Az (S).vF 259 FC.enc (S).fl::BH (S).bA kI kI (S).at'::BH (S).bL kI vS (S).ld::Az (S).vL 277 Wn.enc (S).ln::(S).rows)) func268 I I I (St.init hH) ?_
 refine Cs I (l_e I (AQ I I I I (fun bn=>Ce nv.c I (Ak I (Cs I (Lm I (Lm I ?_)))))))
 obtain⟨ks,hks⟩:∃ks,ks=cls M t M.fr.length:=⟨_,rfl⟩
 have hcf:=SL M t
 rw[<-hks] at hcf
 refine l_e I (AX (FB hR hO t) I I I call291 I (fun _ h=>CR.ofm (S:=S) h (fun e he=>iR _ (iR _ (iR _ (iR _ (iR _ (he))))))) ?_)
 intro vk _
 rw[<-hks]
 refine Ak I (Ag (Cs I (Lm I (l_e I (E1 (block_spec b) I call241 Tt (fun _ _=>Lq I (Qt I) (Lm I ?_)))))))
 refine CB 16 I (fun hb=>?_) (fun hb=>?_)
 · have hu:=J6 (M:=M) (t:=t) (b:=b) nv.d (by rw[hb]; rfl)
   refine Lx I (Lx I (Lx I (Lq I (Qy I) (Lm I (Lx I (Lx I (Lx I (Lx I (Lq I (Qy I) (Nk (Ai I (Cs I (Ak I (Af (Aa (Av (Av (row0 154 Ms.enc none (row0 77 (Kv.enc 8) none (row0 3 (AG .i64) none (row0 79 En.enc none (An I I ?_))))))))))))))))))))))
   exact fun _ h=>⟨(S,⟨n40,ndE⟩),by rw[hu],⟨by rw[hu]; exact hR,fun _ _ h=>h⟩,h⟩
 · refine Lm I (Lq I (AL I KN I (Hrd 0 I)) (Lq I (Qe I) (Lq I (Qz I) (Lm I ?_))))
   refine JY ks (fun hk=>?_) (fun k r hk=>?_)
   · have hk0:ks.length=0:=by rw[hk]; rfl
     refine St' 21 I (by omega) (Lx I (Lx I (Lx I (Lx I (Lq I (Qy I) (Nk (Ai I (Cs I (Ak I (Af (Aa ?_)))))))))))
     have hu:=NT (M:=M) (t:=t) (b:=b) nv.d (by rw[hcf,hk]; rfl)
     refine Av (Av (row0 154 Ms.enc none (row0 77 (Kv.enc 8) none (row0 3 (AG .i64) none (row0 79 En.enc none (An I I ?_))))))
     exact fun _ h=>⟨(S,⟨n40,ndE⟩),by rw[hu],⟨by rw[hu]; exact hR,fun _ _ h=>h⟩,h⟩
   · have hk0:0<ks.length:=by rw[hk]; simp
     have hj:ks[0]?=some k:=by rw[hk]; rfl
     refine Sf 21 I (by omega) (Lm I (Lm I (l_e I (E1 (D7 hR hO b) I call194 (fun _ h=>CR.ofm (S:=S) h (fun e he=>iR _ (iR _ (iR _ (iR _ (iR _ (iR _ (he)))))))) (fun _ _=>Lq I (Qg I) (Lq I (Qz I) (Nk ?_)))))))
     refine Pre.caseB 26 I (fun hp=>?_) (fun hp=>?_)
     · rw[NC] at hp
       have hu:=J6 (M:=M) (t:=t) (b:=b) nv.d (by rw[<-Option.not_isSome,hp,Bool.not_true,jQ])
       refine Ai I (Cs I (Ak I (Af (Aa (Av (Av (row0 154 Ms.enc none (row0 77 (Kv.enc 8) none (row0 3 (AG .i64) none (row0 79 En.enc none (An I I ?_)))))))))))
       exact fun _ h=>⟨(S,⟨n40,ndE⟩),by rw[hu],⟨by rw[hu]; exact hR,fun _ _ h=>h⟩,h⟩
     · rw[NC] at hp
       have hfn:M.find b=none:=by cases h:M.find b with
        |none=>rfl
        |some _=>rw[h] at hp; cases hp
       have hu:=NU (M:=M) (t:=t) (b:=b) nv.d (by rw[hb,hfn]; rfl) (by rw[hcf,hk]; rfl)
       have hkc:=(Mu (M:=M) (t:=t) (i:=k) (n:=M.fr.length)).1 (by rw[<-hks,hk]; exact iG ..)
       obtain⟨y0,hy0⟩:∃y,M.fr[k]?=some y:=⟨_,fD hkc.1⟩
       obtain⟨f0,hfk,hfy⟩:=hR.get hy0
       have hkl:=(gl.1 hfk).1
       have hys:y0.st=3:=by have:=hkc.2; rw[JS hy0] at this; unfold isC at this; simp only[gQ,ia] at this; exact this.1
       refine Ab I (Ae (Ks (Dn (rg 9) 17739 (fun w2=>(Ad bn 135 nv.c).at w2/\RdV w2 vk (Lj S.vF) ks) I St.drawn (fun _ h=>⟨h.at 1 rfl,h.rd 0 rfl⟩) (Dm I (Dq I (As 0 I KN sizeOf284 I (fun _ h=>h.2) I I (by omega)) (Dq I (AI 0 0 I isAgg284 I I (fun _ h=>h.2) hj I) (Dm I (Dq I (AP (nv.c) I Bs AR I (fun _ h=>h.1) (I) (I)) (d_e I (EG (F7 nv hn) I I I call155 I (fun _ h=>⟨h.rd 2 rfl,h.rd 3 rfl,h.rd 4 rfl,h.rd 5 rfl⟩) (fun s _=>Aj (fun _ h=>⟨h.at 5 rfl,h.rd 4 rfl⟩) (Dq I (AN ((⟨2,b,-1,0,true,true,⟨s,nv.d⟩⟩:FC).c) I I (fun w=>by kernel_rfl)) (d_t I (e_q I I (Bt I I) (Ig (d_t I (Ei k ((⟨2,b,-1,0,true,true,⟨s,nv.d⟩⟩:FC)) I I EM I I I I (by omega) (AK (Kt (Cs I (Lm I (Lm I (Lq I (As 0 I KN sizeOf284 I (Hrd 5 I) I I (by omega)) (Lq I (AI 0 0 I isAgg284 I I (Hrd 5 I) hj I) (Pm [6,6,6,6,6,6,0,5,5,5] I ?_)))))))))))))))))))))))))
       refine Pm [10,10,10,10,10] I ?_
       have hfk2:({S with fl:=S.fl.set k (⟨2,b,-1,0,true,true,⟨s,nv.d⟩⟩:FC)}:CS).fl[k]?=some (⟨2,b,-1,0,true,true,⟨s,nv.d⟩⟩:FC):=jV hkl
       have hf64:({S with fl:=S.fl.set k (⟨2,b,-1,0,true,true,⟨s,nv.d⟩⟩:FC)}:CS).fl.length<=65536:=by
        show (S.fl.set k _).length<=_
        rw[je,hR.len]; have:=hO.n64; omega
       refine Pw (St _ _ (_::_::_::_::_::_::_::_::_::_::CS.H bc ({S with fl:=S.fl.set k (⟨2,b,-1,0,true,true,⟨s,nv.d⟩⟩:FC)}:CS))) ?_
       refine l_e I (Ee [_,_,_,_,_,_,_,_,_,_] (IU (S:=({S with fl:=S.fl.set k (⟨2,b,-1,0,true,true,⟨s,nv.d⟩⟩:FC)}:CS)) hfk2 hf64) I call246 Tt (fun _ _=>Pw (St _ _ (_::_::_::_::_::_::_::_::_::_::Ad bc 257 (({S with fl:=S.fl.set k (⟨2,b,-1,0,true,true,⟨s,nv.d⟩⟩:FC),at':=BJ b (k:Int) S.at'}:CS)).cells::Az (({S with fl:=S.fl.set k (⟨2,b,-1,0,true,true,⟨s,nv.d⟩⟩:FC),at':=BJ b (k:Int) S.at'}:CS)).vF 259 FC.enc (({S with fl:=S.fl.set k (⟨2,b,-1,0,true,true,⟨s,nv.d⟩⟩:FC),at':=BJ b (k:Int) S.at'}:CS)).fl::BH (({S with fl:=S.fl.set k (⟨2,b,-1,0,true,true,⟨s,nv.d⟩⟩:FC),at':=BJ b (k:Int) S.at'}:CS)).bA kI kI (({S with fl:=S.fl.set k (⟨2,b,-1,0,true,true,⟨s,nv.d⟩⟩:FC),at':=BJ b (k:Int) S.at'}:CS)).at'::BH (({S with fl:=S.fl.set k (⟨2,b,-1,0,true,true,⟨s,nv.d⟩⟩:FC),at':=BJ b (k:Int) S.at'}:CS)).bL kI vS (({S with fl:=S.fl.set k (⟨2,b,-1,0,true,true,⟨s,nv.d⟩⟩:FC),at':=BJ b (k:Int) S.at'}:CS)).ld::Az (({S with fl:=S.fl.set k (⟨2,b,-1,0,true,true,⟨s,nv.d⟩⟩:FC),at':=BJ b (k:Int) S.at'}:CS)).vL 277 Wn.enc (({S with fl:=S.fl.set k (⟨2,b,-1,0,true,true,⟨s,nv.d⟩⟩:FC),at':=BJ b (k:Int) S.at'}:CS)).ln::(({S with fl:=S.fl.set k (⟨2,b,-1,0,true,true,⟨s,nv.d⟩⟩:FC),at':=BJ b (k:Int) S.at'}:CS)).rows)) ?_))
       refine Nk (Cs I (Ak I (Af (CY (Av (CY (Av (An I I ?_))))))))
       exact fun _ h=>⟨(({S with fl:=S.fl.set k (⟨2,b,-1,0,true,true,⟨s,nv.d⟩⟩:FC),at':=BJ b (k:Int) S.at'}:CS),⟨s,nv.d⟩),by rw[hu],⟨by rw[hu]; exact hR.new hy0 (by rw[hys]; decide) hfn I I (.inr I),fun G hG1 hG=>hG.set (.of hG1)⟩,h⟩
theorem NW (hR:Rel S M) (hO:M.Ok B) (t:Int):Con prog 262 [.pointer (some ⟨bc,0,none⟩),.int .i64 t] (fun _=>True) (S.H bc) (fun _:Unit=>.int .i64 (M.claims t:Int)) (fun _=>True) (fun _=>S.H bc):=by
 intro w hE hH
 refine enter (n:=9) (vs:=[.pointer (some ⟨bc,0,none⟩),.int .i64 t]) (St w (dom (S.H bc)) (Ad bc 257 (S).cells::Az (S).vF 259 FC.enc (S).fl::BH (S).bA kI kI (S).at'::BH (S).bL kI vS (S).ld::Az (S).vL 277 Wn.enc (S).ln::(S).rows)) func262 I I I (St.init hH) ?_
 refine Cs I (Ak I (Cs I (Lm I (Lm I ?_))))
 have hkl:=Mr M t M.fr.length
 have h64:=hO.n64
 refine l_e I (AX (FB hR hO t) I I I call291 I (fun _ h=>CR.ofm (S:=S) h (fun e he=>he)) (fun vk _=>Lq I (AL I KN I (Hrd 0 I)) (Ak I (Af (Av (An I I ?_))))))
 exact fun _ h=>⟨(),congrArg (fun z=>Ending.returned (Value.int .i64 z)) (by rw[Q6]),trivial,h⟩
theorem PD (hR:Rel S M) (hO:M.Ok B) (b:Int):Con prog 196 [.pointer (some ⟨bc,0,none⟩),.int .i64 b] (fun _=>True) (S.H bc) (fun _:Unit=>.bool (M.frI b 2).isSome) (fun _=>True) (fun _=>S.H bc):=by
 intro w hE hH
 refine enter (n:=9) (vs:=[.pointer (some ⟨bc,0,none⟩),.int .i64 b]) (St w (dom (S.H bc)) (Ad bc 257 (S).cells::Az (S).vF 259 FC.enc (S).fl::BH (S).bA kI kI (S).at'::BH (S).bL kI vS (S).ld::Az (S).vL 277 Wn.enc (S).ln::(S).rows)) func196 I I I (St.init hH) ?_
 refine Cs I (Ak I (Cs I (Lm I (Lm I (l_e I (E1 (EO hR hO b 2) I call165 (fun _ h=>CR.ofm (S:=S) h (fun e he=>he)) (fun _ _=>B5 (M.frI b 2) (fun hf=>?_) (fun i hf=>?_))))))))
 · refine Sv' 7 (.pointer none) I (by rw[hf]; rfl) (Lq I (DR I GV I I) (Ak I (Af (An I I ?_))))
   exact fun _ h=>⟨(),congrArg (fun z=>Ending.returned (Value.bool z)) (by rw[hf]; rfl),trivial,h⟩
 · refine Sv' 7 (fp S.vF i) I (by rw[hf]; rfl) (Lq I (DR I GV I I) (Ak I (Af (An I I ?_))))
   exact fun _ h=>⟨(),congrArg (fun z=>Ending.returned (Value.bool z)) (by rw[hf]; rfl),trivial,h⟩
section
variable {P:Program} {n:Nat} {L:Env} {X:World->Prop} {o:Oper} {α:Type} {E:Enc α} {l:List α} {v:Value}
theorem BQ {t:TypeId} {x:Operand} {off sz:Nat} (us:List Value) (j k:Nat) {a:α} (ho:o.op=.load t x) (hg:∀w,(isAgg t).run P w=.ok true w) (hz:∀w,(sizeOf t).run P w=.ok sz w) (hx:ev L x=some (.pointer (some ⟨blk v,off,none⟩))) (hoff:off=EW v+j*E.sz+k)
 (hr:∀w,X w->RdV w v E l) (ha:l[j]?=some a) (hk:k+sz<=E.sz) (hu:((E.f a).drop k).take sz=us):QOp P n L X o (.agg us.toArray):=hu▸Ej j k ho hg hz hx hoff hr ha hk
theorem Q9 {Q:Exit->Act->World->Prop} {K:Act->World->Prop} {w0:World} {D:List Nat} {H:List Ent} {t e:TypeId} (E:Enc α) (m:Nat) {i:TypeInfo} {x y:Operand} {z:Value} {d:Nat} {j k:IntKind} {p q:Int} (ho:o.op=.makeSlice t x y) (hd:o.dst=some d) (hn:d.blt n=true) (ht:P.underlying t=some (.slice e))
 (hi:P.info? e=some i) (hs:i.size=E.sz) (hz:i.zero=some z) (hzl:z.cells.size=E.sz) (hx:ev L x=some (.int j p)) (hy:ev L y=some (.int k q)) (hp:p=0) (hq:q=(m:Int)) (hm:m*i.bytes<=281474976710656) (hm2:m<=9223372036854775807)
 (h:∀v,Pre n ((d,v)::L) (St w0 D (Az v e E []::H)) K):EOp P n L (St w0 D H) o Q K :=
 EOp.val (β:=Value) (fun v=>v) (fun _=>True) (fun v=>St w0 D (Az v e E []::H)) hd hn (fun a w kn x=>by
  subst hp; subst hq
  have hw1:IntKind.i64.wrap (m:Int)=(m:Int):=Cj (by omega)
  have hw0:IntKind.i64.wrap (0:Int)=(0:Int):=by decide
  have hzv:(zeroValue e).run P w=.ok z w:=by simp[zeroValue,typeInfo,hi,hz]
  have hrun:(Instr.makeSlice t (.int j 0) (.int k (m:Int))).run P w=.ok (.slice (some ⟨w.heap.size,0,none⟩) 0 m) (w.alloc (.cells ((Array.range (m*E.sz)).map (z.cells[·%z.cells.size]!)) e)):=by
   have h2:¬((i.bytes:Int)*(m:Int)>2^48):=by
    have h4:i.bytes*m<=281474976710656:=by rw[gf]; exact hm
    have h5:((i.bytes*m:Nat):Int)<=281474976710656:=by omega
    rw[jb] at h5
    omega
   have h1:¬((m:Int)<0):=by omega
   have h6:¬((0:Int)>(m:Int)):=by omega
   unfold Instr.makeSlice
   simp only[gx,AT ht,gz,asInt,asIntOf,gy,Sem.run_map,typeInfo,run_program,hi,hw1,hw0]
   simp[h2,h1,h6,run_askRoom,sizeOf,typeInfo,run_program,hi,hs,DE,hzv]
   have h9:¬(281474976710656:Int)<(i.bytes:Int)*(m:Int):=h2
   rw[fR h9]
   split
   · rename_i h0
     have hr0:∀f:Nat->Value,(Array.range 0).map f=#[]:=fun f=>by simp
     rw[h0,hr0,hr0]
   · rfl
  refine⟨.slice (some ⟨w.heap.size,0,none⟩) 0 m,w.alloc (.cells ((Array.range (m*E.sz)).map (z.cells[·%z.cells.size]!)) e),by simp only[execOp,ho,kn.eval hx,kn.eval hy,gx,hrun,gz,gy],trivial,?_⟩
  by_cases h0:m=0
  · subst h0
    exact (x.alloc (φ:=fun _=>True) trivial).free I (.inl ⟨_,rfl,rfl⟩)
  · have hb:C4 (.slice (some ⟨w.heap.size,0,none⟩) 0 m)=some w.heap.size:=by simp[C4,h0]
    have h1:=x.alloc (φ:=Row (.slice (some ⟨w.heap.size,0,none⟩) 0 m) e E []) (o:=.cells ((Array.range (m*E.sz)).map (z.cells[·%z.cells.size]!)) e) (.inr ⟨w.heap.size,m,[],((Array.range (m*E.sz)).map (z.cells[·%z.cells.size]!)).toList,rfl,by omega,by rw[Enc.flat_nil,gO,gO,Array.toArray_toList],gb _,by simp⟩)
    rw[<-hb] at h1
    exact h1) (fun v _=>h v)
end
def B8 (l:List En):Prop:=l.Pairwise (fun a b=>BC a.key b.key<0)
def Ci (l:List En) (k:Kv 8):Nat:=(l.takeWhile (fun e=>decide (BC e.key k<0))).length
def lis (l:List En) (k:Kv 8):Bool:=match l[Ci l k]? with|some e=>decide (e.key=k)|none=>false
def AS (l:List En) (k:Kv 8):Kv 16×Bool:=match l[Ci l k]? with|some e=>if e.key=k then (e.val,true) else (kv0 16,false)|none=>(kv0 16,false)
def DG (l:List En) (m:Ms):List En:=if (D6 (AS l m.key).1 (AS l m.key).2 m).2=true then [⟨m.key,(D6 (AS l m.key).1 (AS l m.key).2 m).1⟩] else []
def Bu (l:List En) (m:Ms):List En:=l.take (Ci l m.key)++DG l m++l.drop (Ci l m.key+(if lis l m.key=true then 1 else 0))
def Hb (l:List En) (ms:List Ms):List En:=ms.foldl Bu l
def lsz (e:En):Int:=2+e.key.n+e.val.n
def lby (l:List En):Int:=(l.map lsz).sum
def EP (l:List En) (i:Nat):Bool:=match l[i]? with
 |some e=>kck e.key&&vck e.val&&(match i,l[i-1]? with|0,_=>true|_,some d=>decide (BC d.key e.key<0)|_,none=>true)
 |none=>true
def lck (l:List En):Bool:=(List.range l.length).all (EP l)
theorem Ra (hi:i<=l.length) (h1:∀j e,j<i->l[j]?=some e->BC e.key k<0) (h2:∀e,l[i]?=some e->¬BC e.key k<0):Ci l k=i:=by
 unfold Ci
 have hl:l.take i++l.drop i=l:=gP i l
 have ht:∀e∈l.take i,decide (BC e.key k<0)=true:=fun e he=>by
  obtain⟨j,hj⟩:=jK.1 he
  rw[fN] at hj
  split at hj
  · rename_i hlt; exact jq (h1 j e hlt hj)
  · cases hj
 rw[<-hl,List.takeWhile_append_of_pos ht]
 have hd:(l.drop i).takeWhile (fun e=>decide (BC e.key k<0))=[]:=by
  cases hx:l.drop i with
  |nil=>rfl
  |cons x xs =>
   have:l[i]?=some x:=by rw[<-List.head?_drop,hx]; rfl
   rw[j6,fR (by simpa using h2 x this)]
 rw[hd,jc,fJ]; omega
theorem Hy {R:α->α->Prop} {l:List α} (h:l.Pairwise R) (i j:Nat) (a b:α) (hij:i<j) (ha:l[i]?=some a) (hb:l[j]?=some b):R a b:=by
 obtain⟨hi,rfl⟩:=gl.1 ha
 obtain⟨hj,rfl⟩:=gl.1 hb
 exact j7.1 h i j hi hj hij
theorem Rb {R:α->α->Prop} {l:List α} (h:∀(i j:Nat) (a b:α),i<j->l[i]?=some a->l[j]?=some b->R a b):l.Pairwise R:=by
 rw[j7]
 intro i j h1 h2 hij
 exact h i j (l[i]'h1) (l[j]'h2) hij (by simp) (by simp)
theorem UI {R:α->α->Prop} {l:List α}:l.Pairwise R↔∀(i j:Nat) (a b:α),i<j->l[i]?=some a->l[j]?=some b->R a b:=⟨Hy,Rb⟩
theorem Iq (hs:B8 l) {k:Kv 8} {i j:Nat} {a b:En} (hij:i<=j) (ha:l[i]?=some a) (hb:l[j]?=some b) (h:BC b.key k<0):BC a.key k<0:=by
 rcases fG i j with hlt|hge
 · exact G7 (Hy hs i j a b hlt ha hb) (gJ h)
 · have:i=j:=by omega
   subst this; rw[ha] at hb; cases hb; exact h
theorem Jk (l:List En) (k:Kv 8):Ci l k<=l.length:=(j8 _).length_le
theorem PE (h:lis l k=true):∃e,l[Ci l k]?=some e/\e.key=k/\AS l k=(e.val,true):=by
 unfold lis at h
 cases h2:l[Ci l k]? with
 |none=>rw[h2] at h; cases h
 |some e =>
  rw[h2] at h
  have hk:=jt h
  exact⟨e,rfl,hk,by unfold AS; rw[h2]; simp[hk]⟩
theorem UJ (h:lis l k=false):AS l k=(kv0 16,false):=by
 unfold lis at h
 unfold AS
 cases h2:l[Ci l k]? with
 |none=>rfl
 |some e=>rw[h2] at h; have hk:=of_decide_eq_false h; simp[hk]
theorem lput_len (l:List En) (m:Ms):(Bu l m).length<=l.length+1:=by
 unfold Bu DG
 rw[fL,fL,fJ,fK]
 have:=Jk l m.key
 split<;>(try simp)<;>omega
theorem NX:∀(ms:List Ms) (l:List En),(Hb l ms).length<=l.length+ms.length
 |[],l=>ga _
 |m::ms,l=>by
  have h1:=NX ms (Bu l m)
  have h2:=lput_len l m
  show (Hb (Bu l m) ms).length<=_
  simp only[fv]; omega
theorem NY:B8 l↔∀(i j:Nat) (a b:En),i<j->l[i]?=some a->l[j]?=some b->BC a.key b.key<0:=UI
theorem UK {p:α->Bool}:∀{l:List α} {j:Nat} {e:α},j<(l.takeWhile p).length->l[j]?=some e->p e=true
 |[],j,e,h,_=>by simp at h
 |x::l,j,e,h,he=>by
  rw[j6] at h
  by_cases hx:p x=true
  · rw[fO hx] at h
    cases j with
    |zero=>simp at he; subst he; exact hx
    |succ j=>exact UK (l:=l) (by simpa using h) (by simpa using he)
  · rw[fR hx] at h; simp at h
theorem Mv {p:α->Bool}:∀{l:List α} {e:α},l[(l.takeWhile p).length]?=some e->p e=false
 |[],e,h=>by simp at h
 |x::l,e,h=>by
  by_cases hx:p x=true
  · rw[j6,fO hx,fv,g9] at h
    exact Mv h
  · rw[j6,fR hx] at h; simp at h; subst h; simpa using hx
theorem Rc {j:Nat} {e:En} (hj:j<Ci l k) (he:l[j]?=some e):BC e.key k<0:=jt (UK (p:=fun e:En=>decide (BC e.key k<0)) hj he)
theorem Hz (hs:B8 l) {j:Nat} {e:En} (hj:Ci l k<=j) (he:l[j]?=some e):¬BC e.key k<0:=fun h=>by
 have hjl:=(gl.1 he).1
 obtain⟨d,hd⟩:∃d,l[Ci l k]?=some d:=⟨_,fD (by omega)⟩
 have h1:=Iq hs hj hd he h
 have h2:=Mv (p:=fun e:En=>decide (BC e.key k<0)) (show l[(l.takeWhile (fun e:En=>decide (BC e.key k<0))).length]?=some d from hd)
 exact of_decide_eq_false h2 h1
theorem IW {va:Value} (l:List En) (k:Kv 8) (hs:B8 l) (hn:l.length<=65536):Con prog 158 [va,.agg k.c.toArray] (fun w=>RdV w va En.enc l) [] (fun _:Unit=>.tuple #[.int .i64 (Ci l k:Int),.bool (lis l k)]) (fun _=>True) (fun _=>[]):=by
 intro w hl hH
 refine E0 func158 I hH ?_
 refine Cs I (l_e I (AQ I I I I (fun bk=>Ce k.c I (Las I (Ak I (Cs I (Lm I (Lq I (AL I U49 I (fun _ h=>hl.keep h (by simp[dom]))) (Lq I (AN ([.int .i64 0,.int .i64 (l.length:Int)]) I I (fun w=>by kernel_rfl)) (l_e I (Au I I I zeroValue324 (fun be=>Ce [.int .i64 0,.int .i64 0] I (l_e I (Ah rfl rfl sizeOf324 rfl rfl rfl (fun v hv=>by simp at hv; rcases hv with rfl|rfl<;>rfl) (by show 0+2<=2; decide) (Ce [.int .i64 ((0:Nat):Int),.int .i64 (l.length:Int)] I (Ns (Al ?_)))))))))))))))))
 refine CN (fun (lo:Nat) (hi:Nat)=>[(0,va),(3,.pointer (some ⟨bk,0,none⟩)),(6,.pointer (some ⟨be,0,none⟩))]) (fun (lo:Nat) (hi:Nat)=>St w [] [Ad be 324 [.int .i64 (lo:Int),.int .i64 (hi:Int)],Ad bk 77 k.c]) (fun (lo:Nat) (hi:Nat)=>lo<=hi/\hi<=l.length/\(∀j e,j<lo->l[j]?=some e->BC e.key k<0)/\∀j e,hi<=j->l[j]?=some e->¬BC e.key k<0) (fun (lo:Nat) (hi:Nat)=>hi-lo) (0) (l.length) ⟨gb _,ga _,fun j e h=>absurd h (jy _),fun j e h1 h2=>by have:=(gl.1 h2).1; omega⟩ (Si I) (fun _ h=>h) ?_
 intro lo hi hp
 refine Ag (Ag ?_)
 obtain⟨hlh,hhl,hp1,hp2⟩:=hp
 refine Cr I (Lq I (AZ 0 I Pn Z3 I I I (by omega)) (Lo G3 0 I (Lq I (AZ 1 I Pn Z3 I I I (by omega)) (Lo G3 0 I (Lq I (Ql I) (Nk ?_))))))
 refine CB 17 I (fun hlt=>?_) (fun hlt=>?_)
 · obtain⟨mid,hmd⟩:∃mid:Nat,mid=(lo+hi)/2:=⟨_,rfl⟩
   have hdv:((lo:Int)+(hi:Int))/2=(mid:Int):=by omega
   obtain⟨c,hmid⟩:∃c,l[mid]?=some c:=⟨_,fD (by omega)⟩
   refine Ai I (Ae (Kt (Al (Ag (Dn (rg 8) 0 (fun w2=>(Ad be 324 [.int .i64 (lo:Int),.int .i64 (hi:Int)]).at w2) I St.drawn (Hat 0 I) (Dq I (AZ 0 I Pn Z3 I I I (by omega)) (Dq I (Ao I G3 I Ih I) (Dq I (AZ 1 I Pn Z3 I I I (by omega)) (Dq I (Ao I G3 I Ih I) (Dq I (Bf I I I (by omega)) (Dq I (Br I I I (by omega) (by omega) (by omega)) (Das I (Das I (AK (Ks (Ag (Sv' 8 (.int .i64 (mid:Int)) I (by rw[hdv]) (Dn (rg 8) 729 (fun w2=>(Ad bk 77 k.c).at w2/\RdV w2 va En.enc l) I St.drawn (fun _ h=>⟨h.at 1 rfl,hl.keep h (by simp)⟩) (Dm I (Dm I (Dq I (As mid I U49 Z79 I (fun _ h=>h.2) I I (by omega)) (Dfa U79 I Z77 I (Dq I (BQ (c.key.c) mid 0 I G77 Z77 I I (fun _ h=>h.2) hmid (by decide) (En.fk _)) ?_)))))))))))))))))))))))
   refine Dq I (AP (k.c) I G77 Z77 I (fun _ h=>h.1) (AY _) (Kv.e6 _)) (d_e I (E1 (Fj c.key k) I call162 Tt (fun _ _=>Aj (fun _ h=>⟨h.at 1 rfl,hl.keep h (by simp)⟩) (Dq I (Ql I) (AK (Kt ?_))))))
   refine CB 31 I (fun hc=>?_) (fun hc=>?_)
   · refine Ai I (Cr I (Lm I (Lq I (Qi I (by omega)) (Las I (Ak I (Cr I (Lm I (Lm I (Lq I (AZ 0 I Pn Z3 I I I (by omega)) (l_e I (AF I I Z3 I I I (by show 0<2; decide) (Ce [.int .i64 ((mid+1:Nat):Int),.int .i64 (hi:Int)] I (AB (Aw ?_))))))))))))))
     exact AD ((mid+1,hi)) (by dsimp only; omega) ⟨by dsimp only; omega,hhl,fun j e hj he=>Iq hs (by dsimp only at hj; omega) he hmid hc,hp2⟩ (Si I) (fun _ h=>h)
   · refine Ab I (Ae (Kt (Cr I (Lm I (Lm I (Lq I (AZ 1 I Pn Z3 I I I (by omega)) (l_e I (AF I I Z3 I I I (by show 1<2; decide) (Ce [.int .i64 (lo:Int),.int .i64 (mid:Int)] I (AB (Aw ?_)))))))))))
     exact AD ((lo,mid)) (by dsimp only; omega) ⟨by dsimp only; omega,by dsimp only; omega,hp1,fun j e hj he h=>hc (Iq hs hj hmid he h)⟩ (Si I) (fun _ h=>h)
 · have hpos:Ci l k=lo:=Ra (by omega) hp1 (fun e he=>hp2 lo e (by omega) he)
   refine Ab I (AO (Ac (Ac (Ar (Kt (Cs I (Lq I (AZ 0 I Pn Z3 I I I (by omega)) (Lo G3 0 I (Ak I (Ag (Dn (rg 16) 0 (fun w2=>(Ad bk 77 k.c).at w2/\RdV w2 va En.enc l) I St.drawn (fun _ h=>⟨h.at 1 rfl,hl.keep h (by simp)⟩) (Dm I (Dm I (Dm I (Dq I (AL I U49 I (fun _ h=>h.2)) (Dq I (Ql I) (Dm I ?_)))))))))))))))))
   refine CB 44 I (fun hin=>?_) (fun hin=>?_)
   · obtain⟨c,hlo⟩:∃c,l[lo]?=some c:=⟨_,fD (by omega)⟩
     refine Dm I (Dm I (Dq I (As lo I U49 Z79 I (fun _ h=>h.2) I I (by omega)) (Dfa U79 I Z77 I (Dq I (BQ (c.key.c) lo 0 I G77 Z77 I I (fun _ h=>h.2) hlo (by decide) (En.fk _)) (Dq I (AP (k.c) I G77 Z77 I (fun _ h=>h.1) (AY _) (Kv.e6 _)) (Dq I (Q2 (c.key) (k) I I I) (Dq I (Qy I) (Das I (Das I (AK (Kt (Af ?_))))))))))))
     have hlis:lis l k=decide (c.key=k):=by unfold lis; rw[hpos,hlo]
     refine Be (rs:=[.tmp 4,.tmp 5]) I I ?_
     exact fun _ h=>⟨(),by rw[hpos,hlis],trivial,h.e8⟩
   · have hlis:lis l k=false:=by unfold lis; rw[hpos,fI (by omega)]
     refine Dx I (Dx I (Dx I (Dx I (Dx I (Dx I (Dx I (Dq I (Qz I) (Das I (Das I (AK (Kt (Af (Be (rs:=[.tmp 4,.tmp 5]) I I ?_)))))))))))))
     exact fun _ h=>⟨(),by rw[hpos,hlis],trivial,h.e8⟩
end Go.Proofs.YtloldofjddbjoaaGreat
namespace Go.Proofs.YtloldofjddbjoaaGreat
open Go.Sep Go.RowKit Tryz
variable {l:List En} {i:Nat} {va:Value} {c:En} {α:Type} {w0:World} {D:List Nat} {H:List Ent} {t:TypeId}
theorem PF (l:List En) (k:Kv 8) (hs:B8 l) (hn:l.length<=65536):Con prog 181 [va,.agg k.c.toArray] (fun w=>RdV w va En.enc l) [] (fun _:Unit=>.tuple #[.agg (AS l k).1.c.toArray,.bool (AS l k).2]) (fun _=>True) (fun _=>[]):=by
 intro w hl hH
 obtain⟨i,hi⟩:∃i,i=Ci l k:=⟨_,rfl⟩
 refine E0 func181 I hH ?_
 refine Cs I (l_e I (AQ I I I I (fun bk=>Ce k.c I (l_e I (Au I I I zeroValue56 (fun br=>Ce (kv0 16).c I (Ak I (Cs I (Lm I (Lq I (Cq (k.c) G77 Z77 1 I (AY _) (Kv.e6 _)) (l_e I (E1 (IW l k hs hn) I call158 (fun _ h=>hl.keep h (by simp)) ?_))))))))))))
 intro _ _
 rw[<-hi]
 refine Lm I (Lq I (Qx I) (Lq I (Qx I) (Las I (Ak I (Ag (Cs I (Lm I (Lq I (Qt I) (Nk ?_)))))))))
 refine CB 15 I (fun his=>?_) (fun his=>?_)
 · have hf:=UJ his
   refine Ai I (Cs I (Lq I (AN ((kv0 16).c) I I (fun w=>by kernel_rfl)) (l_e I (Ah I I Z56 I I (Kv.e6 _) (Kv.one _) (by simp only[Kv.e6]; decide) (Ce (kv0 16).c (Sep.e7 (by simp only[Kv.e6])) (Ak I (Af (Aa (BI I (AJ I G56 Z56 (Hat 0 I) (Kv.e6 _)) (show Sep.look _ _=some _ from I) ?_)))))))))
   exact fun _ h=>⟨(),by rw[hf],trivial,h.e8⟩
 · obtain⟨c,hc,hck,hf⟩:=PE his
   rw[<-hi] at hc
   have hlt:=(gl.1 hc).1
   refine Ab I (Ae (Kt (Cs I (Lm I (Lm I (Lq I (As i I U49 Z79 I (fun _ h=>hl.keep h (by simp[dom])) I I (by omega)) (Lfa U79 I Z56 I (Lq I (BQ (c.val.c) i 9 I G56 Z56 I I (fun _ h=>hl.keep h (by simp[dom])) hc (by decide) (En.val_part _)) (l_e I (Ah I I Z56 I I (Kv.e6 _) (Kv.one _) (by simp only[Kv.e6]; decide) (Ce c.val.c (Sep.e7 (by simp only[Kv.e6])) (Ak I (Af (BI I (AJ I G56 Z56 (Hat 0 I) (Kv.e6 _)) (show Sep.look _ _=some _ from I) ?_))))))))))))))
   exact fun _ h=>⟨(),by rw[hf],trivial,h.e8⟩
theorem En.set_val (e:En) (v:Kv 16):Sep.splice e.c 9 v.c=(⟨e.key,v⟩:En).c:=by
 unfold En.c
 have:=splice_mid (a:=e.key.c) (b:=e.val.c) (c:=[]) (vs:=v.c) (k:=9) (Kv.e6 _) (by rw[Kv.e6,Kv.e6])
 simpa using this
def en0:En:=⟨kv0 8,kv0 16⟩
theorem UL (key:Kv 8) (w:World):(Instr.build 79 #[(0,.agg key.c.toArray)]).run prog w=.ok (.agg (⟨key,kv0 16⟩:En).c.toArray) w:=by
 obtain⟨a,b,c,d,e,f,g,h,hb⟩:=F3 key
 unfold En.c Kv.c
 rw[hb]
 kernel_rfl
theorem SP (l:List En) (m:Ms) (hs:B8 l) (hn:l.length<=60000):Con prog 108 [va,.agg m.c.toArray] (fun w=>RdV w va En.enc l) [] (fun v:Value=>v) (fun _=>True) (fun v=>[Az v 79 En.enc (Bu l m)]):=by
 intro w hl hH
 obtain⟨i,hi⟩:∃i,i=Ci l m.key:=⟨_,rfl⟩
 have hil:i<=l.length:=by rw[hi]; exact Jk _ _
 refine E0 func108 I hH ?_
 refine Cs I (l_e I (AQ I I I I (fun bm=>Ce m.c I (Ak I (Cs I (Lm I (Lfa B7 I Z77 I (Lq I (Cq (m.key.c) G77 Z77 0 I (Ms.fk _) (Kv.e6 _)) (l_e I (E1 (IW l m.key hs (by omega)) I call158 (fun _ h=>hl.keep h (by simp)) ?_))))))))))
 intro _ _
 rw[<-hi]
 refine Lm I (Lq I (Qx I) (Lq I (Qx I) (Las I (Ak I (Ag (Dn (rg 9) 16038 (fun w2=>(Ad bm 154 m.c).at w2/\RdV w2 va En.enc l) I St.drawn (fun _ h=>⟨h.at 0 rfl,hl.keep h (by simp)⟩) (Dfa B7 I Z77 I (Dq I (AP (m.key.c) I G77 Z77 I (fun _ h=>h.1) (Ms.fk _) (Kv.e6 _)) (Dq I (AN ((⟨m.key,kv0 16⟩:En).c) I I (fun w=>UL _ w)) (Dm I (Dm I (Dq I (D1 i I U49 Z79 I (fun _ h=>h.2) I I (by omega)) (d_e I (Au I I I zeroValue79 (fun be=>Ce en0.c I (Aj (fun _ h=>⟨h.at 1 rfl,hl.keep h (by simp)⟩) (d_e I (Ah I I Z79 I I (En.e6 _) (En.one _) (by simp only[En.e6]; decide) (Ce (⟨m.key,kv0 16⟩:En).c (Sep.e7 (by simp only[En.e6])) (Aj (fun _ h=>⟨h.at 1 rfl,hl.keep h (by simp)⟩) (d_t I (e_q I I (AE I I) (AK (Ks (Cs I (Lm I (Nk ?_)))))))))))))))))))))))))))
 refine Pre.caseB 24 I (fun his=>?_) (fun his=>?_)
 · obtain⟨c,hc,hck,hf⟩:=PE his
   rw[<-hi] at hc
   have hlt:=(gl.1 hc).1
   refine Ai I (Dn (rg 12) 413343 (fun w2=>RdV w2 va En.enc l) I St.drawn (fun _ h=>hl.keep h (by simp)) (Dm I (Dm I (Dq I (As i I U49 Z79 I Ih I I (by omega)) (Dfa U79 I Z56 I (Dq I (BQ (c.val.c) i 9 I G56 Z56 I I Ih hc (by decide) (En.val_part _)) (Dm I (Dm I (Dq I (Qi I (by omega)) (Dq I (D1 (i+1) I U49 Z79 I Ih I I (by omega)) (Dfa U79 I Z56 I (d_e I (Ah I I Z56 I I (Kv.e6 _) (Kv.one _) (by rw[Kv.e6,En.e6]; decide) (Ay (En.set_val _ _) (Aj (fun _ h=>hl.keep h (by simp)) (d_t I (e_q I I (AE I I) (AK (Kt (Cs I (Ak I (Ag (Dn [0,1,2,4,5,6,3,7,8] 18225 (fun w2=>RdV w2 va En.enc l) I St.drawn (fun _ h=>hl.keep h (by simp)) ?_)))))))))))))))))))))))
   refine Dm I (Dq I (AL I U49 I Ih) (Dq I (Qi I (by omega)) (Dm I (Dm I (Dq I (Fg i I U49 Z79 I Ih I I (by omega)) ?_)))))
   have hmp:D6 (AS l m.key).1 (AS l m.key).2 m=D6 c.val true m:=by rw[hf]
   obtain⟨r,hr⟩:∃r,r=D6 c.val true m:=⟨_,rfl⟩
   have hput:Bu l m=l.take i++(if r.2=true then [(⟨m.key,r.1⟩:En)] else [])++l.drop (i+1):=by
    unfold Bu DG; rw[hmp,<-hi,<-hr,his]; rfl
   have hti:(l.take i).length<=i:=jP _ _
   refine d_e I (Q9 En.enc (l.length+1) I I I U49 CV I I I I I I I (by simp only[GG]; omega) (by omega) (fun v1=>Aj (fun _ h=>hl.keep h (by simp)) (d_t I (Ap U49 U49 CV I (fun _ h=>by have:=CF (hl.keep h (by simp)) (lo:=0) (hi:=i) (gb _) hil; rwa[fV] at this) (by simp<;>omega) (fun v2=>d_t I (e_q I I (AE I I) (AK (Ks (Cs I (Lfa U79 I Z56 I (Lq I (Cq ((⟨m.key,c.val⟩:En).val.c) G56 Z56 1 I (En.val_part _) (Kv.e6 _)) (Lm I (Lq I (Cq (m.c) Cm Bi 2 I (Bm _) (Ms.e6 _)) (Bo (l':=l.take i) (by simp) (Sv' 46 (.bool true) I (by rw[his]) (l_e I (E1 (F6 c.val true m) I call159 Tt ?_)))))))))))))))))
   intro _ _
   rw[<-hr]
   refine Lm I (Lq I (Qx I) (Lq I (Qx I) (Lfa U79 I Z56 I (AM (l_e I (Ah I I Z56 I I (Kv.e6 _) (Kv.one _) (by rw[Kv.e6,En.e6]; decide) (Ay (En.set_val _ _) (Ak I (Cs I (Lm I (Nk ?_)))))))))))
   refine Pre.caseB 52 I (fun hr2=>?_) (fun hr2=>?_)
   · refine Ai I (Cr I (Lm I (Lq I (Cq ((⟨m.key,r.1⟩:En).c) G79 Z79 0 I (En.whole _) (En.e6 _)) (l_e I (Ax (sz:=26) [.tmp 54] I I I I I U49 Z79 I zeroValue79 (by simp[Value.cells,En.e6]) (fun b4=>AV (l_e I (Ap U49 U49 CV I (fun _ h=>AW (h.at 1 I) En.enc [(⟨m.key,r.1⟩:En)] I I) (by simp<;>omega) (fun v3=>AM (Av (Ak I (Cs I (Lm I (Lm I (l_e I (BZ I I I U49 U49 CV I I I I I (fun _ h=>by have:=CF (hl.keep h (by simp)) (lo:=i+1) (hi:=l.length) (by omega) (ga _); rwa[jH] at this) (by simp only[GG]; simp; omega) (by simp<;>omega) (fun v4=>Ak I (Af (Bo (l':=Bu l m) (by rw[hput,hr2]; simp) (An I I ?_))))))))))))))))))))
     exact fun _ h=>⟨v4,rfl,trivial,h.sublist (jR.2 (iQ _))⟩
   · refine Ab I (Ae (Kt (Cs I (Lm I (Lm I (AM (l_e I (BZ I I I U49 U49 CV I I I I I (fun _ h=>by have:=CF (hl.keep h (by simp)) (lo:=i+1) (hi:=l.length) (by omega) (ga _); rwa[jH] at this) (by simp only[GG]; simp; omega) (by simp<;>omega) (fun v4=>Ak I (Af (Bo (l':=Bu l m) (by rw[hput,hr2]; simp) (An I I ?_))))))))))))
     exact fun _ h=>⟨v4,rfl,trivial,h.sublist (jR.2 (iQ _))⟩
 · have hf:=UJ his
   refine Ab I (Ae (Kt (Cs I (Ak I (Ag (Dn [0,1,2,4,5,6,3,7,8] 18225 (fun w2=>RdV w2 va En.enc l) I St.drawn (fun _ h=>hl.keep h (by simp)) (Dm I (Dq I (AL I U49 I Ih) (Dq I (Qi I (by omega)) (Dm I (Dm I (Dq I (Fg i I U49 Z79 I Ih I I (by omega)) ?_))))))))))))
   have hmp:D6 (AS l m.key).1 (AS l m.key).2 m=D6 (kv0 16) false m:=by rw[hf]
   obtain⟨r,hr⟩:∃r,r=D6 (kv0 16) false m:=⟨_,rfl⟩
   have hput:Bu l m=l.take i++(if r.2=true then [(⟨m.key,r.1⟩:En)] else [])++l.drop (i+0):=by
    unfold Bu DG; rw[hmp,<-hi,<-hr,his]; rfl
   have hti:(l.take i).length<=i:=jP _ _
   refine d_e I (Q9 En.enc (l.length+1) I I I U49 CV I I I I I I I (by simp only[GG]; omega) (by omega) (fun v1=>Aj (fun _ h=>hl.keep h (by simp)) (d_t I (Ap U49 U49 CV I (fun _ h=>by have:=CF (hl.keep h (by simp)) (lo:=0) (hi:=i) (gb _) hil; rwa[fV] at this) (by simp<;>omega) (fun v2=>d_t I (e_q I I (AE I I) (AK (Ks (Cs I (Lfa U79 I Z56 I (Lq I (Cq ((⟨m.key,kv0 16⟩:En).val.c) G56 Z56 1 I (En.val_part _) (Kv.e6 _)) (Lm I (Lq I (Cq (m.c) Cm Bi 2 I (Bm _) (Ms.e6 _)) (Bo (l':=l.take i) (by simp) (Sv' 46 (.bool false) I (by rw[his]) (l_e I (E1 (F6 (kv0 16) false m) I call159 Tt ?_)))))))))))))))))
   intro _ _
   rw[<-hr]
   refine Lm I (Lq I (Qx I) (Lq I (Qx I) (Lfa U79 I Z56 I (AM (l_e I (Ah I I Z56 I I (Kv.e6 _) (Kv.one _) (by rw[Kv.e6,En.e6]; decide) (Ay (En.set_val _ _) (Ak I (Cs I (Lm I (Nk ?_)))))))))))
   refine Pre.caseB 52 I (fun hr2=>?_) (fun hr2=>?_)
   · refine Ai I (Cr I (Lm I (Lq I (Cq ((⟨m.key,r.1⟩:En).c) G79 Z79 0 I (En.whole _) (En.e6 _)) (l_e I (Ax (sz:=26) [.tmp 54] I I I I I U49 Z79 I zeroValue79 (by simp[Value.cells,En.e6]) (fun b6=>AV (l_e I (Ap U49 U49 CV I (fun _ h=>AW (h.at 1 I) En.enc [(⟨m.key,r.1⟩:En)] I I) (by simp<;>omega) (fun v3=>AM (Av (Ak I (Cs I (Lm I (Lm I (l_e I (BZ I I I U49 U49 CV I I I I I (fun _ h=>by have:=CF (hl.keep h (by simp)) (lo:=i) (hi:=l.length) hil (ga _); rwa[jH] at this) (by simp only[GG]; simp; omega) (by simp<;>omega) (fun v4=>Ak I (Af (Bo (l':=Bu l m) (by rw[hput,hr2]; simp) (An I I ?_))))))))))))))))))))
     exact fun _ h=>⟨v4,rfl,trivial,h.sublist (jR.2 (iQ _))⟩
   · refine Ab I (Ae (Kt (Cs I (Lm I (Lm I (AM (l_e I (BZ I I I U49 U49 CV I I I I I (fun _ h=>by have:=CF (hl.keep h (by simp)) (lo:=i) (hi:=l.length) hil (ga _); rwa[jH] at this) (by simp only[GG]; simp; omega) (by simp<;>omega) (fun v4=>Ak I (Af (Bo (l':=Bu l m) (by rw[hput,hr2]; simp) (An I I ?_))))))))))))
     exact fun _ h=>⟨v4,rfl,trivial,h.sublist (jR.2 (iQ _))⟩
def UM (l:List En) (ms:List Ms):Prop:=∀i,i<=ms.length->B8 (Hb l (ms.take i))
theorem SQ {ms:List Ms} {m:Ms} (h:ms[i]?=some m):Hb l (ms.take (i+1))=Bu (Hb l (ms.take i)) m:=by
 unfold Hb; rw[jd,h,jZ]; rfl
theorem Fe {e:En} (h:l[i]?=some e):((l.take (i+1)).map lsz).sum=((l.take i).map lsz).sum+lsz e:=by
 rw[jd,h,gL,List.sum_append]; simp
def En.Bd (e:En):Prop:=-1000<=e.key.n/\e.key.n<=1000/\-1000<=e.val.n/\e.val.n<=1000
theorem PG (h:∀e∈l,e.Bd) (i:Nat) : -2000*(i:Int)<=((l.take i).map lsz).sum/\((l.take i).map lsz).sum<=2002*(i:Int):=by
 induction i with
 |zero=>simp
 |succ i ih =>
  cases hx:l[i]? with
  |none=>rw[jd,hx]; simp only[Option.toList,jc]; omega
  |some e =>
   rw[Fe hx]
   have:=h e (hY hx)
   unfold En.Bd at this
   have hz:lsz e=2+e.key.n+e.val.n:=rfl
   omega
def KS {α:Type} (own:Bool) (v:Value) (t:TypeId) (E:Enc α) (l:List α):Ent:=if own=true then Az v t E l else⟨none,fun _=>True⟩
theorem Jl {w:World} {own:Bool} {v:Value} {E:Enc α} {l:List α} (h:St w0 D H w) (i:Nat) (hi:H[i]?=some (KS own v t E l)) (hr:own=false->RdV w v E l):RdV w v E l:=by
 cases own with
 |true=>exact h.rd i hi
 |false=>exact hr rfl
theorem Lw {n:Nat} {L:Env} {F:Act->World->Prop} (v:Value) (t:TypeId) (E:Enc α) (l:List α) (k:Pre n L (St w0 D (KS false v t E l::H)) F):Pre n L (St w0 D H) F:=k.world _ (fun w s=>s.add (e':=KS false v t E l) rfl trivial)
theorem SR {vm:Value} (l:List En) (ms:List Ms) (hr:UM l ms) (hn:l.length+ms.length<=60000):Con prog 58 [va,vm] (fun w=>RdV w va En.enc l/\RdV w vm Ms.enc ms) [] (fun b:Value×Bool=>b.1) (fun b=>(ms≠[]->b.2=true)/\(b.2=false->b.1=va/\ms=[])) (fun b=>[KS b.2 b.1 79 En.enc (Hb l ms)]):=by
 intro w hE hH
 obtain⟨hl,hm⟩:=hE
 refine E0 func58 I hH ?_
 refine Cs I (Ak I (Ag (Cs I (Lm I (Lq I (AL I BP I (fun _ h=>hm.keep h (by simp[dom]))) (Lm I (Nk (Al (Lw va 79 En.enc l ?_)))))))))
 refine E3 (fun (i:Nat) (own:Bool) (v:Value)=>[(0,v),(7,vm),(8,.int .i64 (ms.length:Int)),(9,.int .i64 (i:Int))]) (fun (i:Nat) (own:Bool) (v:Value)=>St w [] [KS own v 79 En.enc (Hb l (ms.take i))]) (fun (i:Nat) (own:Bool) (v:Value)=>i<=ms.length/\(0<i->own=true)/\(own=false->v=va/\i=0)) (fun (i:Nat) (own:Bool) (v:Value)=>ms.length-i) (0) (false) (va) ⟨gb _,fun h=>absurd h (Nat.lt_irrefl _),fun _=>⟨rfl,rfl⟩⟩ (Si I) Ih (fun i own v hp=>Ag ?_)
 obtain⟨hi,how,hno⟩:=hp
 have hlen:=NX (ms.take i) l
 have htl:=jP i ms
 refine Cr I (Lq I (Ql I) (Ns ?_))
 refine CB 10 I (fun h1=>?_) (fun h1=>?_)
 · obtain⟨m,hmi⟩:∃m,ms[i]?=some m:=⟨_,fD (by omega)⟩
   have hsn:=SQ (l:=l) hmi
   refine Ai I (Ae (Ks (Al (Cs I (Lq I (As i I BP Bi I (fun _ h=>hm.keep h (by simp[dom])) I I (by omega)) (Lq I (AU i I Cm Bi I I (fun _ h=>hm.keep h (by simp[dom])) hmi) (l_e I (Au I I I zeroValue154 (fun bm=>Ce ms0.c I (l_e I (Ah I I Bi I I (Ms.e6 _) (Ms.one _) (by show 0+(Ms.c _).length<=(Ms.c _).length; rw[Ms.e6,Ms.e6]; decide) (Ce m.c (Sep.e7 (by show (Ms.c _).length=_; rw[Ms.e6,Ms.e6])) (Nk (Cr I (Lm I (Lq I (Cq (m.c) Cm Bi 0 I (Bm _) (Ms.e6 _)) (l_e I (AX (SP (Hb l (ms.take i)) m (hr i hi) (by omega)) rfl rfl rfl call108 rfl (fun _ h=>Jl h 1 rfl (fun e=>by obtain⟨e1,e2⟩:=hno e; subst e1; subst e2; exact hl.keep h (by simp))) (fun v2 _=>Las I (AB (Aw (Kt (Cr I (Lq I (Qi I (by omega)) (Lm I (AB (AM (Av (AM (Av ?_))))))))))))))))))))))))))))))
   exact AD ((i+1,true,v2)) (by dsimp only; omega) ⟨by dsimp only; omega,fun _=>rfl,fun e=>by cases e⟩ (Si I) (fun _ h=>by dsimp only; rw[hsn]; exact h)
 · have hfin:ms.take i=ms:=fZ (by omega)
   rw[hfin]
   refine Ab I (AO (Ac (Ac (Ar (Kt (Cs I (Lm I (Ak I (Af (An I I ?_))))))))))
   exact fun _ h=>⟨(v,own),rfl,⟨fun hne=>how (by have:=ji.2 hne; omega),fun e=>⟨(hno e).1,fS (by have:=(hno e).2; omega)⟩⟩,h⟩
theorem XN (e:En):e.c[0+9+0]?=some (.int .i64 e.val.n):=by
 unfold En.c; rw[fP (by rw[Kv.e6]; decide),Kv.e6]; rfl
theorem J8 (e:En) (hb:e.Bd):Con prog 308 [.agg e.c.toArray] (fun _=>True) [] (fun _:Unit=>.int .i64 (lsz e)) (fun _=>True) (fun _=>[]):=by
 intro w hE hH
 obtain⟨h1,h2,h3,h4⟩:=hb
 refine E0 func308 I hH ?_
 refine Cs I (l_e I (AQ I I I I (fun be=>Ce e.c I (Ak I (Cs I (Lfa U79 I Z77 I (Lfa U77 I Z3 I (Lo G3 0 I (Lq I (Bf I I I (by omega)) (Lfa U79 I Z56 I (Lfa U56 I Z3 I (Lq I (Ao I G3 I (Hat 0 I) (XN _)) (Lq I (Bf I I I (by omega)) (Ak I (Af (An I I ?_))))))))))))))))
 exact fun _ h=>⟨(),rfl,trivial,h.e8⟩
theorem IX (l:List En) (hb:∀e∈l,e.Bd) (hn:l.length<=60000):Con prog 307 [va] (fun w=>RdV w va En.enc l) [] (fun _:Unit=>.int .i64 (lby l)) (fun _=>True) (fun _=>[]):=by
 intro w hl hH
 refine E0 func307 I hH ?_
 refine Cs I (Ak I (Cs I (Ak I (Ag (Cs I (Lm I (Lq I (AL I U49 I (fun _ h=>hl.keep h (by simp[dom]))) (Lm I (Nk (Al ?_))))))))))
 refine Bc (fun (i:Nat)=>[(3,.int .i64 ((l.take i).map lsz).sum),(6,va),(7,.int .i64 (l.length:Int)),(8,.int .i64 (i:Int))]) (fun (i:Nat)=>St w [] []) (fun (i:Nat)=>i<=l.length) (fun (i:Nat)=>l.length-i) (0) (gb _) (Si I) Ih (fun i hi=>Ag ?_)
 have hbd:=PG hb i
 refine Cr I (Lq I (Ql I) (Ns ?_))
 refine CB 9 I (fun h1=>?_) (fun h1=>?_)
 · obtain⟨c,hc⟩:∃c,l[i]?=some c:=⟨_,fD (by omega)⟩
   have hcb:=hb c (hY hc)
   have hcb2:=hcb
   unfold En.Bd at hcb2
   have hsn:=Fe hc
   have hlz:lsz c=2+c.key.n+c.val.n:=rfl
   refine Ai I (Ae (Ks (Al (Cs I (Lq I (As i I U49 Z79 I (fun _ h=>hl.keep h (by simp[dom])) I I (by omega)) (Lq I (AU i I G79 Z79 I I (fun _ h=>hl.keep h (by simp[dom])) hc) (l_e I (Au I I I zeroValue79 (fun be=>Ce en0.c I (l_e I (Ah I I Z79 I I (En.e6 _) (En.one _) (by show 0+(En.c _).length<=(En.c _).length; rw[En.e6,En.e6]; decide) (Ce c.c (Sep.e7 (by show (En.c _).length=_; rw[En.e6,En.e6])) (Nk (Cr I (Lm I (Lq I (Cq (c.c) G79 Z79 0 I (En.whole _) (En.e6 _)) (l_e I (E1 (J8 c hcb) I call308 Tt (fun _ _=>Lq I (Bf I I I (by omega)) (Las I (AB (Aw (Kt (Cr I (Lq I (Qi I (by omega)) (Lm I (AB (Av ?_))))))))))))))))))))))))))))
   exact AD (i+1) (by omega) (by omega) (Sub.consE I (by rw[hsn]) (Si I)) (fun _ h=>h)
 · have hfin:l.take i=l:=fZ (by omega)
   refine Ab I (AO (Ac (Ac (Ar (Kt (Cs I (Lm I (Ak I (Af (An I I ?_))))))))))
   exact fun _ h=>⟨(),congrArg (fun z=>Ending.returned (Value.int .i64 z)) (by rw[hfin]; rfl),trivial,h.e8⟩
theorem PH (hi:i<l.length) (h:EP l i=false):lck l=false:=by
 unfold lck; rw[j9]; exact⟨i,gk.2 hi,by rw[h]; decide⟩
theorem XO (h:∀i,i<l.length->EP l i=true):lck l=true:=by
 unfold lck; rw[iD]; exact fun i hi=>h i (gk.1 hi)
theorem XP (hc:l[0]?=some c):EP l 0=(kck c.key&&vck c.val):=by
 unfold EP; rw[hc]; simp
theorem Re {d:En} (hi:0<i) (hc:l[i]?=some c) (hd:l[i-1]?=some d):EP l i=(kck c.key&&vck c.val&&decide (BC d.key c.key<0)):=by
 unfold EP; rw[hc]
 cases i with
 |zero=>omega
 |succ i=>simp only[hd]
theorem Rf (hc:l[i]?=some c) (h:kck c.key=false):EP l i=false:=by
 unfold EP; rw[hc]; simp[h]
theorem Rg (hc:l[i]?=some c) (h:vck c.val=false):EP l i=false:=by
 unfold EP; rw[hc]; simp[h]
theorem NZ (l:List En) (hn:l.length<=60000):Con prog 341 [va] (fun w=>RdV w va En.enc l) [] (fun _:Unit=>.bool (lck l)) (fun _=>True) (fun _=>[]):=by
 intro w hl hH
 refine E0 func341 I hH ?_
 refine Cs I (Ak I (Ag (Cs I (Lm I (Lq I (AL I U49 I (fun _ h=>hl.keep h (by simp[dom]))) (Lm I (Nk (Al ?_))))))))
 refine Bc (fun (i:Nat)=>[(0,va),(5,va),(6,.int .i64 (l.length:Int)),(7,.int .i64 (i:Int))]) (fun (i:Nat)=>St w [] []) (fun (i:Nat)=>i<=l.length/\∀j,j<i->EP l j=true) (fun (i:Nat)=>l.length-i) (0) ⟨gb _,fun j h=>absurd h (jy _)⟩ (Si I) Ih (fun i hp=>Ag ?_)
 obtain⟨hi,hj⟩:=hp
 refine Cr I (Lq I (Ql I) (Ns ?_))
 refine CB 8 I (fun h1=>?_) (fun h1=>?_)
 · obtain⟨c,hc⟩:∃c,l[i]?=some c:=⟨_,fD (by omega)⟩
   have hlt:=(gl.1 hc).1
   refine Ai I (Ae (Ks (Al (Cs I (Lm I (Lq I (As i I U49 Z79 I (fun _ h=>hl.keep h (by simp[dom])) I I (by omega)) (Lq I (AU i I G79 Z79 I I (fun _ h=>hl.keep h (by simp[dom])) hc) (l_e I (Au I I I zeroValue79 (fun be=>Ce en0.c I (Las I (l_e I (Ah I I Z79 I I (En.e6 _) (En.one _) (by show 0+(En.c _).length<=(En.c _).length; rw[En.e6,En.e6]; decide) (Ce c.c (Sep.e7 (by show (En.c _).length=_; rw[En.e6,En.e6])) (Ns (Dn (rg 26) 31381061805 (fun w2=>(Ad be 79 c.c).at w2/\RdV w2 va En.enc l) I St.drawn (fun _ h=>⟨h.at 0 rfl,hl.keep h (by simp)⟩) (Dfa U79 I Z77 I (Dq I (AP (c.key.c) I G77 Z77 I (fun _ h=>h.1) (En.fk _) (Kv.e6 _)) (d_e I (E1 (E5 c.key) I call279 Tt (fun _ _=>Aj (fun _ h=>⟨h.at 0 rfl,hl.keep h (by simp)⟩) (Dq I (Qt I) (Dm I ?_)))))))))))))))))))))))
   refine CB 16 I (fun hk=>?_) (fun hk=>?_)
   · refine Dx I (Dx I (Dx I (Dx I (Dq I (Qy I) (Dm I (Dx I (Dx I (Dx I (Dx I (Dx I (Dx I (Dx I (Dx I (Dx I (Dx I (Dx I (Dx I (Dx I (Dx I (Dq I (Qy I) (AK (Kt (Ai I ?_)))))))))))))))))))))))
     refine Cs I (Ak I (Af (Am (Aa (Aa (Am (Aa (An I I ?_))))))))
     exact fun _ h=>⟨(),congrArg (fun z=>Ending.returned (Value.bool z)) (PH hlt (Rf hc hk)).symm,trivial,h.e8⟩
   · refine Dfa U79 I Z56 I (Dq I (AP (c.val.c) I G56 Z56 I (fun _ h=>h.1) (En.val_part _) (Kv.e6 _)) (d_e I (E1 (JQ c.val) I call316 Tt (fun _ _=>Aj (fun _ h=>⟨h.at 0 rfl,hl.keep h (by simp)⟩) (Dq I (Qt I) (Dq I (Qz I) (Dm I ?_)))))))
     refine CB 22 I (fun hv=>?_) (fun hv=>?_)
     · refine Dx I (Dx I (Dx I (Dx I (Dx I (Dx I (Dx I (Dx I (Dx I (Dx I (Dx I (Dx I (Dx I (Dx I (Dq I (Qy I) (AK (Kt (Ai I (Cs I (Ak I (Af (Am (Aa (Aa ?_)))))))))))))))))))))))
       refine Am (Aa (An I I ?_))
       exact fun _ h=>⟨(),congrArg (fun z=>Ending.returned (Value.bool z)) (PH hlt (Rg hc hv)).symm,trivial,h.e8⟩
     · refine Dm I (Dq I (BS I I I) (Dm I ?_))
       refine CB 25 I (fun h0=>?_) (fun h0=>?_)
       · obtain⟨d,hd⟩:∃d,l[i-1]?=some d:=⟨_,fD (by omega)⟩
         have hat:=Re (by omega) hc hd
         rw[hk,hv] at hat
         refine Dm I (Dm I (Dq I (Dl I I I (by omega)) (Dq I (As (i-1) I U49 Z79 I (fun _ h=>h.2) I (by omega) (by omega)) (Dfa U79 I Z77 I (Dq I (BQ (d.key.c) (i-1) 0 I G77 Z77 I I (fun _ h=>h.2) hd (by decide) (En.fk _)) (Dfa U79 I Z77 I (Dq I (AP (c.key.c) I G77 Z77 I (fun _ h=>h.1) (En.fk _) (Kv.e6 _)) (d_e I (E1 (Fj d.key c.key) I call162 Tt (fun _ _=>Aj (fun _ h=>⟨h.at 0 rfl,hl.keep h (by simp)⟩) (Dq I (Qg I) (Dq I (Qy I) (Dq I (Qz I) (AK (Kt ?_)))))))))))))))
         refine CB 37 I (fun hcm=>?_) (fun hcm=>?_)
         · refine Ai I (Cs I (Ak I (Af (Am (Aa (Aa (Am (Aa (An I I ?_)))))))))
           exact fun _ h=>⟨(),congrArg (fun z=>Ending.returned (Value.bool z)) (PH hlt (by rw[hat,jo (by omega)]; rfl)).symm,trivial,h.e8⟩
         · refine Ab I (Ae (Aw (Kt (Cr I (Lq I (Qi I (by omega)) (Lm I (AB (Av ?_))))))))
           exact AD (i+1) (by omega) ⟨by omega,fun j h=>by
            rcases ke.1 h with h|rfl
            · exact hj j h
            · rw[hat,jq (by omega)]; rfl⟩ (Si I) (fun _ h=>h)
       · have hi0:i=0:=by omega
         subst hi0
         refine Dx I (Dx I (Dx I (Dx I (Dx I (Dx I (Dx I (Dx I (Dx I (Dx I (Dq I (Qz I) (Dq I (Qz I) (AK (Kt (Ab I (Ae (Aw (Kt (Cr I (Lq I (Qi I (by omega)) (Lm I (AB (Av ?_))))))))))))))))))))))
         exact AD (0+1) (by omega) ⟨by omega,fun j h=>by
          rcases ke.1 h with h|rfl
          · exact hj j h
          · rw[XP hc,hk,hv]; rfl⟩ (Si I) (fun _ h=>h)
 · have hie:i=l.length:=by omega
   refine Ab I (AO (Ac (Ac (Ar (Kt (Cs I (Ak I (Af (An I I ?_)))))))))
   exact fun _ h=>⟨(),congrArg (fun z=>Ending.returned (Value.bool z)) (XO (fun j h=>hj j (by omega))).symm,trivial,h⟩
section
variable {P:Program} {n:Nat} {L:Env} {o:Oper} {Q:Exit->Act->World->Prop} {K:Act->World->Prop} {w0:World} {D:List Nat}
theorem Jm {β:Type} {v:β->Value} {p:β->Prop} {E:World->Prop} {F:List Ent} {HB:β->List Ent} {r:Operand} {name:String} {xs:List Operand} {ts:Array TypeId} {x:Value} {us:List Value} {f:FuncId} {vs:List Value} {d:Nat} (s:Con P f vs E [] v p HB) (ho:o.op=.call ⟨.invoke r name,xs.toArray,ts⟩) (hd:o.dst=some d) (hn:d.blt n=true) (hr:ev L r=some (.iface t x)) (hv:evs L xs=some us)
 (hm:∀w,(callMethod (.iface t x) name us.toArray).run P w=.ok (.enter f vs.toArray) w) (hE:∀w,St w0 D F w->E w) (h:∀b,p b->Pre n ((d,v b)::L) (St w0 D (HB b++F)) K):EOp P n L (St w0 D F) o Q K :=
 Xq hd hn (fun a w k _=>Pj ho hr hv hm a w k) (fun w h=>s.frame (F:=F) h (hE w h)) h
end
theorem F8 (hc:l[i]?=some c) (h:EP l i=true):kck c.key=true/\vck c.val=true/\(0<i->∀d,l[i-1]?=some d->BC d.key c.key<0):=by
 have hk:kck c.key=true:=by
  cases hk:kck c.key with
  |true=>rfl
  |false=>rw[Rf hc hk] at h; cases h
 have hv:vck c.val=true:=by
  cases hv:vck c.val with
  |true=>rfl
  |false=>rw[Rg hc hv] at h; cases h
 refine⟨hk,hv,fun hi d hd=>?_⟩
 rw[Re hi hc hd,hk,hv] at h
 simpa using h
theorem PI (h:lck l=true) {i:Nat} {c:En} (hc:l[i]?=some c):EP l i=true:=by
 unfold lck at h; rw[iD] at h; exact h i (gk.2 (gl.1 hc).1)
theorem UN (h:lck l=true):∀e∈l,e.Bd:=fun e he=>by
 obtain⟨i,hi⟩:=jK.1 he
 obtain⟨h1,h2,_⟩:=F8 hi (PI h hi)
 have:=Ik h1
 have:=Il h2
 unfold En.Bd; omega
theorem N1 {R:α->α->Prop} (ht:∀a b c,R a b->R b c->R a c) {l:List α} (h:∀i a b,l[i]?=some a->l[i+1]?=some b->R a b):l.Pairwise R:=by
 refine Rb (fun i j a b hij ha hb=>?_)
 obtain⟨k,rfl⟩:∃k,j=i+1+k:=⟨j-i-1,by omega⟩
 clear hij
 induction k generalizing b with
 |zero=>exact h i a b ha hb
 |succ k ih =>
  have hlt:=(gl.1 hb).1
  obtain⟨c,hc⟩:∃c,l[i+1+k]?=some c:=⟨_,fD (by omega)⟩
  exact ht a c b (ih c hc) (h (i+1+k) c b hc hb)
theorem UO (h:lck l=true):B8 l:=N1 (R:=fun a b:En=>BC a.key b.key<0) (fun a b c h1 h2=>G7 h1 (gJ h2)) (fun i a b ha hb=>(F8 hb (PI h hb)).2.2 (by omega) a ha)
def Cd (n:Nd):Bool:=lck n.es&&decide (n.kids.length+n.piv.length+n.msgs.length=0)&&decide (lby n.es<=248)
theorem HE (nv:NV) (hlf:nv.d.leaf=true):Con prog 258 [.agg nv.c.toArray] (fun _=>True) [] (fun _:Unit=>.iface 365 (.agg nv.c.toArray)) (fun _=>True) (fun _=>[]):=by
 intro w hE hH
 refine E0 func258 I hH ?_
 refine Cs I (l_e I (AQ I I I I (fun bn=>Ce nv.c I (Ak I (Ag (Cs I (Lfa CT I Z4 I (Lo G4 0 I (Nk (Sb 4 true I (hlf) (Ai I (Cs I (Lq I (Cq (nv.c) Bs AR 0 I (I) (I)) (Lq rfl (Hn rfl Nj (fun _ h=>by cases h) rfl) (Ak I (Af (Aa (An I I ?_))))))))))))))))))
 exact fun _ h=>⟨(),rfl,trivial,h.e8⟩
theorem N3 (nv:NV) (hn:nv.d.Sm 60000):Con prog 340 [.agg nv.c.toArray] (fun w=>NRd w nv) [] (fun _:Unit=>.bool (lck nv.d.es&&decide (nv.d.kids.length+nv.d.piv.length+nv.d.msgs.length=0))) (fun _=>True) (fun _=>[]):=by
 intro w hE hH
 obtain⟨n1,n2,n3,n4⟩:=hn
 refine E0 func340 I hH ?_
 refine Cs I (l_e I (AQ I I I I (fun bn=>Ce nv.c I (Ak I (Cs I (Lfa Nj I Z49 I (Lo G49 0 I (l_e I (E1 (NZ nv.d.es n1) I call341 (fun _ h=>hE.e.keep h (by simp)) (fun _ _=>Lm I ?_))))))))))
 refine Pre.caseB 6 I (fun hc=>?_) (fun hc=>?_)
 · refine Lfa Nj I Z22 I (Lo G22 0 I (Lq I (AL I U22 I (fun _ h=>hE.k.keep h (by simp[dom]))) (Lfa Nj I Ni I (Lo isAgg132 0 I (Lq I (AL I Ho I (fun _ h=>hE.p.keep h (by simp[dom]))) (Lq I (Bf I I I (by omega)) (Lfa Nj I Hp I (Lo I7 0 I (Lq I (AL I BP I (fun _ h=>hE.m.keep h (by simp[dom]))) (Lq I (Bf I I I (by omega)) (Lq I (Qe I) (Lq I (Qy I) (Ak I (Af (An I I ?_)))))))))))))))
   exact fun _ h=>⟨(),congrArg (fun z=>Ending.returned (Value.bool z)) (by rw[hc,kg,jF]; omega),trivial,h.e8⟩
 · refine Lx I (Lx I (Lx I (Lx I (Lx I (Lx I (Lx I (Lx I (Lx I (Lx I (Lx I (Lx I (Lq I (Qz I) (Ak I (Af (An I I ?_)))))))))))))))
   exact fun _ h=>⟨(),congrArg (fun z=>Ending.returned (Value.bool z)) (by rw[hc]; rfl),trivial,h.e8⟩
theorem N5 (nv:NV) (hn:nv.d.Sm 60000) (hb:∀e∈nv.d.es,e.Bd):Con prog 339 [.agg nv.c.toArray] (fun w=>NRd w nv) [] (fun _:Unit=>.int .i64 (lby nv.d.es)) (fun _=>True) (fun _=>[]):=by
 intro w hE hH
 refine E0 func339 I hH ?_
 refine Cs I (l_e I (AQ I I I I (fun bn=>Ce nv.c I (Ak I (Cs I (Lfa Nj I Z49 I (Lo G49 0 I (l_e I (E1 (IX nv.d.es hb hn.e) I call307 (fun _ h=>hE.e.keep h (by simp)) (fun _ _=>Ak I (Af (An I I ?_))))))))))))
 exact fun _ h=>⟨(),rfl,trivial,h.e8⟩
theorem N6 (nv:NV) (hlf:nv.d.leaf=true) (hn:nv.d.Sm 60000):Con prog 272 [.agg nv.c.toArray] (fun w=>NRd w nv) [] (fun _:Unit=>.bool (lck nv.d.es&&decide (nv.d.kids.length+nv.d.piv.length+nv.d.msgs.length=0))) (fun _=>True) (fun _=>[]):=by
 intro w hE hH
 refine E0 func272 I hH ?_
 refine Cs I (l_e I (AQ I I I I (fun bn=>Ce nv.c I (Ak I (Cs I (Lq I (Cq (nv.c) Bs AR 0 I (I) (I)) (l_e I (E1 (HE nv hlf) I call258 Tt (fun _ _=>l_e I (Jm (N3 nv hn) I I I I I (fun w=>by kernel_rfl) (fun _ h=>hE.keep h) (fun _ _=>Ak I (Af (An I I ?_)))))))))))))
 exact fun _ h=>⟨(),rfl,trivial,h.e8⟩
theorem KT (nv:NV) (hlf:nv.d.leaf=true) (hn:nv.d.Sm 60000) (hb:∀e∈nv.d.es,e.Bd):Con prog 199 [.agg nv.c.toArray] (fun w=>NRd w nv) [] (fun _:Unit=>.int .i64 (lby nv.d.es)) (fun _=>True) (fun _=>[]):=by
 intro w hE hH
 refine E0 func199 I hH ?_
 refine Cs I (l_e I (AQ I I I I (fun bn=>Ce nv.c I (Ak I (Cs I (Lq I (Cq (nv.c) Bs AR 0 I (I) (I)) (l_e I (E1 (HE nv hlf) I call258 Tt (fun _ _=>l_e I (Jm (N5 nv hn hb) I I I I I (fun w=>by kernel_rfl) (fun _ h=>hE.keep h) (fun _ _=>Ak I (Af (An I I ?_)))))))))))))
 exact fun _ h=>⟨(),rfl,trivial,h.e8⟩
theorem Hc (nv:NV) (hlf:nv.d.leaf=true) (hn:nv.d.Sm 60000):Con prog 216 [.agg nv.c.toArray] (fun w=>NRd w nv) [] (fun _:Unit=>.bool (Cd nv.d)) (fun _=>True) (fun _=>[]):=by
 intro w hE hH
 refine E0 func216 I hH ?_
 refine Cs I (l_e I (AQ I I I I (fun bn=>Ce nv.c I (Ak I (Cs I (Ak I (Ag (Cs I (Lq I (Cq (nv.c) Bs AR 0 I (I) (I)) (l_e I (E1 (HE nv hlf) I call258 Tt (fun _ _=>Nk (Al (Cs I (Lq rfl (Cw rfl Nj (fun _ h=>by cases h) rfl) (Lq I (Qx I) (Lq I (Qx I) (Nk (Ai I (Cr I (Las I (AB (Aw (Kt (Cs I (Lq I (Cq (nv.c) Bs AR 0 I (I) (I)) (l_e I (E1 (N6 nv hlf hn) I call272 (fun _ h=>hE.keep h) (fun _ _=>Lm I ?_)))))))))))))))))))))))))))))
 refine Pre.caseB 14 I (fun hc=>?_) (fun hc=>?_)
 · have hck:lck nv.d.es=true:=by rw[gQ] at hc; exact hc.1
   refine Lq I (Cq (nv.c) Bs AR 0 I (I) (I)) (l_e I (E1 (KT nv hlf hn (UN hck)) I call199 (fun _ h=>hE.keep h) (fun _ _=>Lm I (Lq I (Hk I I I) (Lq I (Qy I) (Ak I (Af (An I I ?_))))))))
   exact fun _ h=>⟨(),congrArg (fun z=>Ending.returned (Value.bool z)) (by unfold Cd; rw[hc,kg]),trivial,h.e8⟩
 · refine Lx I (Lx I (Lx I (Lx I (Lq I (Qz I) (Ak I (Af (An I I ?_)))))))
   exact fun _ h=>⟨(),congrArg (fun z=>Ending.returned (Value.bool z)) (by unfold Cd; rw[hc]; rfl),trivial,h.e8⟩
theorem N7 (nv:NV) (hlf:nv.d.leaf=true):Con prog 136 [.agg nv.c.toArray] (fun _=>True) [] (fun _:Unit=>.bool false) (fun _=>True) (fun _=>[]):=by
 intro w hE hH
 refine E0 func136 I hH ?_
 refine Cs I (l_e I (AQ I I I I (fun bn=>Ce nv.c I (Ak I (Cs I (Lfa CT I Z4 I (Lo G4 0 I (Lq I (Qt I) (Lm I (Sb 6 false I (by rw[hlf]; rfl) (Lx I (Lx I (Lx I (Lx I (Lq I (Qz I) (Ak I (Af (An I I ?_))))))))))))))))))
 exact fun _ h=>⟨(),rfl,trivial,h.e8⟩
theorem KU (nv:NV) (hlf:nv.d.leaf=true):Con prog 259 [.agg nv.c.toArray] (fun _=>True) [] (fun _:Unit=>Cg) (fun _=>True) (fun _=>[]):=by
 intro w hE hH
 refine E0 func259 I hH ?_
 refine Cs I (l_e I (AQ I I I I (fun bn=>Ce nv.c I (Ak I (Cs I (Ak I (Ag (Cs I (Lq I (Cq (nv.c) Bs AR 0 I (I) (I)) (l_e I (E1 (HE nv hlf) I call258 Tt (fun _ _=>Nk (Al (Cs I (Lq rfl (CO rfl Nl (fun _ h=>by cases h) rfl (by decide) zeroValue366) (Lq I (Qx I) (Lq I (Qx I) (Nk (Ab I (Ae (Aw (Kt (Cs I (Lm I (Ak I (Af (An I I ?_)))))))))))))))))))))))))))
 exact fun _ h=>⟨(),rfl,trivial,h.e8⟩
theorem J9 (nv:NV) (hlf:nv.d.leaf=true):Con prog 200 [.agg nv.c.toArray] (fun _=>True) [] (fun _:Unit=>.int .i64 (-1)) (fun _=>True) (fun _=>[]):=by
 intro w hE hH
 refine E0 func200 I hH ?_
 refine Cs I (l_e I (AQ I I I I (fun bn=>Ce nv.c I (Ak I (Cs I (Las I (Ak I (Ag (Cs I (Lq I (Cq (nv.c) Bs AR 0 I (I) (I)) (l_e I (E1 (KU nv hlf) I call259 Tt (fun _ _=>Lq I (Ew I U22 I) (Lm I (Nk (Al ?_))))))))))))))))
 refine Bc (fun (u:Unit)=>[(3,.int .i64 (-1)),(9,.int .i64 ((0:Nat):Int)),(10,.int .i64 ((0:Nat):Int))]) (fun (u:Unit)=>St w [] []) (fun (u:Unit)=>True) (fun (u:Unit)=>0) (()) trivial (Si I) (fun _ h=>h.e8) (fun u _=>Cs I (Lq I (Ql I) (Ns (Sb 11 false I (I) (Ab I (AO (Ac (Ac (Ar (Kt (Cs I (Lm I (Ak I (Af (An I I ?_)))))))))))))))
 exact fun _ h=>⟨(),rfl,trivial,h⟩
end Go.Proofs.YtloldofjddbjoaaGreat
namespace Go.Proofs.YtloldofjddbjoaaGreat
open Go.Sep Go.RowKit Tryz
variable {t:TypeId} {v:Value}
section
variable {P:Program} {n:Nat} {L:Env} {X:World->Prop} {o:Oper} {Q:Exit->Act->World->Prop} {K:Act->World->Prop} {w0:World} {D:List Nat}
theorem DU {x i:Operand} {y z:Value} (ho:o.op=.index t x i) (hx:ev L x=some y) (hi:ev L i=some z) (hr:∀w,(Instr.index t y z).run P w=.ok v w):QOp P n L X o v :=
 QOp.mk (fun a=>Instr.index t (a.eval x) (a.eval i)) (fun a=>by simp[execOp,ho]) (fun a w hk _=>by rw[hk.eval hx,hk.eval hi]; exact hr w)
theorem Cz {β:Type} {v:β->Value} {p:β->Prop} {E:World->Prop} {F:List Ent} {HB:β->List Ent} {g:Operand} {f:FuncId} {xs:List Operand} {ts:Array TypeId} {d:Nat} {vs:List Value} (s:Con P f vs E [] v p HB) (ho:o.op=.call ⟨.value g,xs.toArray,ts⟩) (hd:o.dst=some d) (hn:d.blt n=true) (hg:ev L g=some (.func (.func f) #[] #[])) (hc:∀us w,(callFunc f us).run P w=.ok (.enter f us) w) (hv:evs L xs=some vs)
 (hE:∀w,St w0 D F w->E w) (h:∀b,p b->Pre n ((d,v b)::L) (St w0 D (HB b++F)) K):EOp P n L (St w0 D F) o Q K :=
 Fx (us:=[]) ho hd hn hg hc hv (fun w h=>by rw[jc]; exact s.frame (F:=F) h (hE w h)) h
end
abbrev fnV (f:Nat):Value:=.func (.func f) #[] #[]
theorem DL {l:List En} {m:Ms} (h:B8 l) (h2:B8 (Bu l m)):UM l [m]:=fun i hi=>by
 cases i with
 |zero=>exact h
 |succ i=>simp at hi; subst hi; exact h2
theorem ER (nv:NV) (hlf:nv.d.leaf=true):Con prog 270 [.agg nv.c.toArray] (fun _=>True) [] (fun _:Unit=>.agg #[fnV 297,fnV 267]) (fun _=>True) (fun _=>[]):=by
 intro w hE hH
 refine E0 func270 I hH ?_
 refine Cs I (l_e I (AQ I I I I (fun bn=>Ce nv.c I (l_e I (Au I I I zeroValue363 (fun br=>Nk (Cs I (Ak I (Ag (Cs I (Lfa CT I Z4 I (Lo G4 1 I (Nk (Sb 5 true I (hlf) (Ai I (Cr I (Ak I (Cs I (Lq I (AN [fnV 296,fnV 265] I I (fun w=>by kernel_rfl)) (Lq I (AN [fnV 297,fnV 267] I I (fun w=>by kernel_rfl)) (Lq I (AN [fnV 296,fnV 265,fnV 297,fnV 267] I I (fun w=>by kernel_rfl)) (Lm I (Lq I (DU (v:=.agg #[fnV 297,fnV 267]) I I I (fun w=>by kernel_rfl)) (l_e I (Ah rfl rfl sizeOf363 rfl rfl rfl (fun v hv=>by simp at hv; rcases hv with rfl|rfl<;>rfl) (by show 0+2<=2; decide) (Ce [fnV 297,fnV 267] I (Nk (Af (CL I (AJ I isAgg363 sizeOf363 (Hat 0 I) (I)) ?_)))))))))))))))))))))))))))))
 exact fun _ h=>⟨(),rfl,trivial,h.e8⟩
theorem Dh {vm:Value} (nv:NV) (ms:List Ms) (hr:UM nv.d.es ms) (hn:nv.d.es.length+ms.length<=60000):Con prog 297 [.agg nv.c.toArray,vm] (fun w=>NRd w nv/\RdV w vm Ms.enc ms) [] (fun b:Sv×Bool=>.agg (⟨⟨b.1,nv.s.k,nv.s.p,nv.s.m⟩,{nv.d with es:=Hb nv.d.es ms}⟩:NV).c.toArray) (fun b=>(ms≠[]->b.2=true)/\(b.2=false->b.1.v=nv.s.e.v/\ms=[])) (fun b=>[KS b.2 b.1.v 79 En.enc (Hb nv.d.es ms)]):=by
 intro w hE hH
 obtain⟨hE,hm⟩:=hE
 refine E0 func297 I hH ?_
 refine Cs I (l_e I (AQ I I I I (fun bn=>Ce nv.c I (l_e I (Au I I I zeroValue135 (fun br=>Ce nv0.c I (Nk (Cs I (Lfa CT I Z49 I (Lo G49 1 I (Lm I (l_e I (AX (SR nv.d.es ms hr hn) I I I call58 I (fun _ h=>⟨hE.e.keep h (by simp),hm.keep h (by simp)⟩) ?_)))))))))))))
 intro ⟨v,own⟩ hb
 refine Lfa CT I Z49 I (Pre.fact (fun _ h=>FL (Jl h 0 rfl (fun e=>by obtain⟨e1,e2⟩:=hb.2 e; dsimp only at e1; subst e1; subst e2; exact hE.e.keep h (by simp)))) ?_)
 rintro⟨s,hs⟩
 dsimp only at hs
 subst hs
 refine AV (l_e I (AF I I Z49 I I I (by show 1<5; decide) (Ce (⟨⟨s,nv.s.k,nv.s.p,nv.s.m⟩,{nv.d with es:=Hb nv.d.es ms}⟩:NV).c I (Nk (Cs I (Lq I (Cq ((⟨⟨s,nv.s.k,nv.s.p,nv.s.m⟩,{nv.d with es:=Hb nv.d.es ms}⟩:NV).c) Bs AR 0 I (I) (I)) (AV (l_e I (Ah I I AR I I I (NV.one _) (by show 0+5<=5; decide) (Ay (show Sep.splice _ 0 ((⟨⟨s,nv.s.k,nv.s.p,nv.s.m⟩,{nv.d with es:=Hb nv.d.es ms}⟩:NV)).c=((⟨⟨s,nv.s.k,nv.s.p,nv.s.m⟩,{nv.d with es:=Hb nv.d.es ms}⟩:NV)).c from Sep.e7 I) (Nk (Af (AV (CL I (AJ I Bs AR (Hat 1 I) (I)) ?_))))))))))))))
 exact fun _ h=>⟨(s,own),rfl,hb,h.sublist (jR.2 (iQ _))⟩
def Cb (d:Nd) (m:Ms):Nd:={d with es:=Bu d.es m}
theorem Ct {α:Type} {n:Nat} {L:Env} {F:Act->World->Prop} {w0:World} {D:List Nat} {H:List Ent} {E:Enc α} {l:List α} (k:Pre n L (St w0 D (Az v t E l::H)) F):Pre n L (St w0 D ([KS true v t E l]++H)) F:=k
theorem HH (nv:NV) (m:Ms) (hlf:nv.d.leaf=true) (hr:B8 nv.d.es) (hr2:B8 (Bu nv.d.es m)) (hn:nv.d.Sm 50000):Con prog 253 [.agg nv.c.toArray,.agg m.c.toArray] (fun w=>NRd w nv) [] (fun s:Sv=>if Cd (Cb nv.d m)=true then .tuple #[.agg (⟨⟨s,nv.s.k,nv.s.p,nv.s.m⟩,Cb nv.d m⟩:NV).c.toArray,.bool true] else .tuple #[.agg nv.c.toArray,.bool false]) (fun _=>True) (fun s=>[Bp s (Bu nv.d.es m)]):=by
 intro w hE hH
 refine E0 func253 I hH ?_
 refine Cs I (l_e I (AQ I I I I (fun bn=>Ce nv.c I (l_e I (AQ I I I I (fun bm=>Ce m.c I (l_e I (Au I I I zeroValue135 (fun br=>Ce nv0.c I (Ak I (Ag ?_)))))))))))
 have hin:(Cb nv.d m).es.length<=nv.d.es.length+1:=lput_len _ _
 obtain⟨n1,n2,n3,n4⟩:=hn
 refine DC (fun (s:Sv) (bx:Nat)=>[(2,.pointer (some ⟨bn,0,none⟩)),(4,.pointer (some ⟨br,0,none⟩)),(6,.pointer (some ⟨bx,0,none⟩))]) (fun (s:Sv) (bx:Nat)=>St w [] [Bp s (Bu nv.d.es m),Ad bx 135 (⟨⟨s,nv.s.k,nv.s.p,nv.s.m⟩,Cb nv.d m⟩:NV).c,Ad br 135 nv0.c,Ad bm 154 m.c,Ad bn 135 nv.c]) (fun (s:Sv) (bx:Nat)=>True) ?_ ?_
 · refine EZ (fun w2=>(Ad bn 135 nv.c).at w2/\(Ad bm 154 m.c).at w2) I St.drawn (Aq 0 I (H2 2 1 I) (AP (nv.c) I Bs AR I (fun _ h=>h.1) (I) (I)) (Aq 3 I (H2 2 1 I) (AP (nv.c) I Bs AR I (fun _ h=>h.1) (I) (I)) (Aq 4 I (H2 2 1 I) (AP (m.c) I Cm Bi I (fun _ h=>h.2) (Bm _) (Ms.e6 _)) ?_)))
   refine H5 1 5 7 (by kernel_rfl) I I I I I I ?_ ?_ ?_
   · refine E1 (ER nv hlf) I call270 Tt (fun _ _=>Aj (H2 2 1 I) (Aq 2 I (H2 2 1 I) (DB I I8 I KO I I) ?_))
     refine BK 5 7 (by kernel_rfl) I I I I ?_ ?_
     · refine Ax (sz:=29) [.tmp 11] I I I I I BP Bi I zeroValue154 (by simp[Value.cells,Ms.e6]) (fun bl=>Aj (H2 3 2 I) ?_)
       refine BK 6 7 (by kernel_rfl) I I I I ?_ ?_
       · refine Cz (Dh nv [m] (DL hr hr2) (by show nv.d.es.length+1<=60000; omega)) I I I I call297 I (fun _ h=>⟨hE.keep h,AW (h.at 0 I) Ms.enc [m] I rfl⟩) ?_
         rintro⟨s,own⟩ ⟨ho,_⟩
         have ho2:=ho (by simp)
         dsimp only at ho2
         subst ho2
         refine Ct (Aj (H2 4 3 I) (AH 7 (by kernel_rfl) I I (Au I I I zeroValue135 (fun bx=>Ce nv0.c I (Aj (H2 5 4 I) (AH 8 (by kernel_rfl) I I (Ah I I AR I I I (NV.one _) (by show 0+5<=5; decide) (Ay (show Sep.splice _ 0 ((⟨⟨s,nv.s.k,nv.s.p,nv.s.m⟩,Cb nv.d m⟩:NV)).c=((⟨⟨s,nv.s.k,nv.s.p,nv.s.m⟩,Cb nv.d m⟩:NV)).c from Sep.e7 I) (Aj (H2 5 4 I) (BW (by kernel_rfl) (AV (Av (Pm [1] I ?_)))))))))))))
         exact Bb ((s,bx)) trivial (Si I) (fun _ h=>h)
       · refine Au I I I zeroValue135 (fun bx=>Ce nv0.c I (Aj (H2 4 3 I) (AH 6 (by kernel_rfl) I I (Cz (Dh nv [m] (DL hr hr2) (by show nv.d.es.length+1<=60000; omega)) I I I I call297 I (fun _ h=>⟨hE.keep h,AW (h.at 1 I) Ms.enc [m] I rfl⟩) ?_))))
         rintro⟨s,own⟩ ⟨ho,_⟩
         have ho2:=ho (by simp)
         dsimp only at ho2
         subst ho2
         refine Ct (Aj (H2 5 4 I) (AM (AH 8 (by kernel_rfl) I I (Ah I I AR I I I (NV.one _) (by show 0+5<=5; decide) (Ay (show Sep.splice _ 0 ((⟨⟨s,nv.s.k,nv.s.p,nv.s.m⟩,Cb nv.d m⟩:NV)).c=((⟨⟨s,nv.s.k,nv.s.p,nv.s.m⟩,Cb nv.d m⟩:NV)).c from Sep.e7 I) (Aj (H2 5 4 I) (BW (by kernel_rfl) (AV (Av (Pm [1] I ?_))))))))))
         exact Bb ((s,bx)) trivial (Si I) (fun _ h=>h)
     · refine Au I I I zeroValue135 (fun bx=>Ce nv0.c I (Aj (H2 3 2 I) (AH 5 (by kernel_rfl) I I (Ax (sz:=29) [.tmp 11] I I I I I BP Bi I zeroValue154 (by simp[Value.cells,Ms.e6]) (fun bl=>Aj (H2 4 3 I) (AH 6 (by kernel_rfl) I I (Cz (Dh nv [m] (DL hr hr2) (by show nv.d.es.length+1<=60000; omega)) I I I I call297 I (fun _ h=>⟨hE.keep h,AW (h.at 0 I) Ms.enc [m] I rfl⟩) ?_)))))))
       rintro⟨s,own⟩ ⟨ho,_⟩
       have ho2:=ho (by simp)
       dsimp only at ho2
       subst ho2
       refine Ct (Aj (H2 5 4 I) (AV (AH 8 (by kernel_rfl) I I (Ah I I AR I I I (NV.one _) (by show 0+5<=5; decide) (Ay (show Sep.splice _ 0 ((⟨⟨s,nv.s.k,nv.s.p,nv.s.m⟩,Cb nv.d m⟩:NV)).c=((⟨⟨s,nv.s.k,nv.s.p,nv.s.m⟩,Cb nv.d m⟩:NV)).c from Sep.e7 I) (Aj (H2 5 4 I) (BW (by kernel_rfl) (AV (Av (Pm [1] I ?_))))))))))
       exact Bb ((s,bx)) trivial (Si I) (fun _ h=>h)
   · refine Ax (sz:=29) [.tmp 11] I I I I I BP Bi I zeroValue154 (by simp[Value.cells,Ms.e6]) (fun bl=>Aj (H2 3 2 I) ?_)
     refine BK 1 7 (by kernel_rfl) I I I I ?_ ?_
     · refine E1 (ER nv hlf) I call270 Tt (fun _ _=>Aj (H2 3 2 I) (Aq 2 I (H2 3 2 I) (DB I I8 I KO I I) ?_))
       refine BK 6 7 (by kernel_rfl) I I I I ?_ ?_
       · refine Cz (Dh nv [m] (DL hr hr2) (by show nv.d.es.length+1<=60000; omega)) I I I I call297 I (fun _ h=>⟨hE.keep h,AW (h.at 0 I) Ms.enc [m] I rfl⟩) ?_
         rintro⟨s,own⟩ ⟨ho,_⟩
         have ho2:=ho (by simp)
         dsimp only at ho2
         subst ho2
         refine Ct (Aj (H2 4 3 I) (AH 7 (by kernel_rfl) I I (Au I I I zeroValue135 (fun bx=>Ce nv0.c I (Aj (H2 5 4 I) (AH 8 (by kernel_rfl) I I (Ah I I AR I I I (NV.one _) (by show 0+5<=5; decide) (Ay (show Sep.splice _ 0 ((⟨⟨s,nv.s.k,nv.s.p,nv.s.m⟩,Cb nv.d m⟩:NV)).c=((⟨⟨s,nv.s.k,nv.s.p,nv.s.m⟩,Cb nv.d m⟩:NV)).c from Sep.e7 I) (Aj (H2 5 4 I) (BW (by kernel_rfl) (AV (Av (Pm [1] I ?_)))))))))))))
         exact Bb ((s,bx)) trivial (Si I) (fun _ h=>h)
       · refine Au I I I zeroValue135 (fun bx=>Ce nv0.c I (Aj (H2 4 3 I) (AH 6 (by kernel_rfl) I I (Cz (Dh nv [m] (DL hr hr2) (by show nv.d.es.length+1<=60000; omega)) I I I I call297 I (fun _ h=>⟨hE.keep h,AW (h.at 1 I) Ms.enc [m] I rfl⟩) ?_))))
         rintro⟨s,own⟩ ⟨ho,_⟩
         have ho2:=ho (by simp)
         dsimp only at ho2
         subst ho2
         refine Ct (Aj (H2 5 4 I) (AM (AH 8 (by kernel_rfl) I I (Ah I I AR I I I (NV.one _) (by show 0+5<=5; decide) (Ay (show Sep.splice _ 0 ((⟨⟨s,nv.s.k,nv.s.p,nv.s.m⟩,Cb nv.d m⟩:NV)).c=((⟨⟨s,nv.s.k,nv.s.p,nv.s.m⟩,Cb nv.d m⟩:NV)).c from Sep.e7 I) (Aj (H2 5 4 I) (BW (by kernel_rfl) (AV (Av (Pm [1] I ?_))))))))))
         exact Bb ((s,bx)) trivial (Si I) (fun _ h=>h)
     · refine Au I I I zeroValue135 (fun bx=>Ce nv0.c I (Aj (H2 4 3 I) (AH 1 (by kernel_rfl) I I (E1 (ER nv hlf) I call270 Tt (fun _ _=>Aj (H2 4 3 I) (Aq 2 I (H2 4 3 I) (DB I I8 I KO I I) (AH 6 (by kernel_rfl) I I (Cz (Dh nv [m] (DL hr hr2) (by show nv.d.es.length+1<=60000; omega)) I I I I call297 I (fun _ h=>⟨hE.keep h,AW (h.at 1 I) Ms.enc [m] I rfl⟩) ?_))))))))
       rintro⟨s,own⟩ ⟨ho,_⟩
       have ho2:=ho (by simp)
       dsimp only at ho2
       subst ho2
       refine Ct (Aj (H2 5 4 I) (AM (AH 8 (by kernel_rfl) I I (Ah I I AR I I I (NV.one _) (by show 0+5<=5; decide) (Ay (show Sep.splice _ 0 ((⟨⟨s,nv.s.k,nv.s.p,nv.s.m⟩,Cb nv.d m⟩:NV)).c=((⟨⟨s,nv.s.k,nv.s.p,nv.s.m⟩,Cb nv.d m⟩:NV)).c from Sep.e7 I) (Aj (H2 5 4 I) (BW (by kernel_rfl) (AV (Av (Pm [1] I ?_))))))))))
       exact Bb ((s,bx)) trivial (Si I) (fun _ h=>h)
   · refine Au I I I zeroValue135 (fun bx=>Ce nv0.c I (Aj (H2 3 2 I) ?_))
     refine BK 1 5 (by kernel_rfl) I I I I ?_ ?_
     · refine E1 (ER nv hlf) I call270 Tt (fun _ _=>Aj (H2 3 2 I) (Aq 2 I (H2 3 2 I) (DB I I8 I KO I I) (AH 5 (by kernel_rfl) I I (Ax (sz:=29) [.tmp 11] I I I I I BP Bi I zeroValue154 (by simp[Value.cells,Ms.e6]) (fun bl=>Aj (H2 4 3 I) (AH 6 (by kernel_rfl) I I (Cz (Dh nv [m] (DL hr hr2) (by show nv.d.es.length+1<=60000; omega)) I I I I call297 I (fun _ h=>⟨hE.keep h,AW (h.at 0 I) Ms.enc [m] I rfl⟩) ?_)))))))
       rintro⟨s,own⟩ ⟨ho,_⟩
       have ho2:=ho (by simp)
       dsimp only at ho2
       subst ho2
       refine Ct (Aj (H2 5 4 I) (AV (AH 8 (by kernel_rfl) I I (Ah I I AR I I I (NV.one _) (by show 0+5<=5; decide) (Ay (show Sep.splice _ 0 ((⟨⟨s,nv.s.k,nv.s.p,nv.s.m⟩,Cb nv.d m⟩:NV)).c=((⟨⟨s,nv.s.k,nv.s.p,nv.s.m⟩,Cb nv.d m⟩:NV)).c from Sep.e7 I) (Aj (H2 5 4 I) (BW (by kernel_rfl) (AV (Av (Pm [1] I ?_))))))))))
       exact Bb ((s,bx)) trivial (Si I) (fun _ h=>h)
     · refine Ax (sz:=29) [.tmp 11] I I I I I BP Bi I zeroValue154 (by simp[Value.cells,Ms.e6]) (fun bl=>Aj (H2 4 3 I) (AH 1 (by kernel_rfl) I I (E1 (ER nv hlf) I call270 Tt (fun _ _=>Aj (H2 4 3 I) (Aq 2 I (H2 4 3 I) (DB I I8 I KO I I) (AH 6 (by kernel_rfl) I I (Cz (Dh nv [m] (DL hr hr2) (by show nv.d.es.length+1<=60000; omega)) I I I I call297 I (fun _ h=>⟨hE.keep h,AW (h.at 0 I) Ms.enc [m] I rfl⟩) ?_)))))))
       rintro⟨s,own⟩ ⟨ho,_⟩
       have ho2:=ho (by simp)
       dsimp only at ho2
       subst ho2
       refine Ct (Aj (H2 5 4 I) (AV (AH 8 (by kernel_rfl) I I (Ah I I AR I I I (NV.one _) (by show 0+5<=5; decide) (Ay (show Sep.splice _ 0 ((⟨⟨s,nv.s.k,nv.s.p,nv.s.m⟩,Cb nv.d m⟩:NV)).c=((⟨⟨s,nv.s.k,nv.s.p,nv.s.m⟩,Cb nv.d m⟩:NV)).c from Sep.e7 I) (Aj (H2 5 4 I) (BW (by kernel_rfl) (AV (Av (Pm [1] I ?_))))))))))
       exact Bb ((s,bx)) trivial (Si I) (fun _ h=>h)
 · intro s bx _
   refine Ag (Cs I (Lq I (Cq ((⟨⟨s,nv.s.k,nv.s.p,nv.s.m⟩,Cb nv.d m⟩:NV).c) Bs AR 1 I (I) (I)) (l_e I (E1 (Hc (⟨⟨s,nv.s.k,nv.s.p,nv.s.m⟩,Cb nv.d m⟩:NV) hlf ⟨by show (Bu nv.d.es m).length<=60000; have:(Bu nv.d.es m).length<=nv.d.es.length+1:=hin; omega,gF n2 (by decide),gF n3 (by decide),gF n4 (by decide)⟩) I call216 (fun _ h=>⟨h.rd 0 rfl,hE.k.keep h (by simp),hE.p.keep h (by simp),hE.m.keep h (by simp)⟩) (fun _ _=>Lq I (Qt I) (Nk ?_))))))
   refine CB 16 I (fun hf=>?_) (fun hf=>?_)
   · refine Ai I (Cs I (Lq I (Cq (nv.c) Bs AR 4 I (I) (I)) (AV (l_e I (Ah I I AR I I I (NV.one _) (by show 0+5<=5; decide) (Ay (show Sep.splice _ 0 (nv).c=(nv).c from Sep.e7 I) (Ak I (Af (Aa (AM (BI I (AJ I Bs AR (Hat 1 I) (I)) (show Sep.look _ _=some _ from I) ?_)))))))))))
     exact fun _ h=>⟨s,by dsimp only; rw[fR (by rw[show Cd (Cb nv.d m)=false from hf]; decide)],trivial,h.sublist (jR.2 (iQ _))⟩
   · refine Ab I (Ae (Kt (Cs I (Lq I (Cq ((⟨⟨s,nv.s.k,nv.s.p,nv.s.m⟩,Cb nv.d m⟩:NV).c) Bs AR 1 I (I) (I)) (AV (l_e I (Ah I I AR I I I (NV.one _) (by show 0+5<=5; decide) (Ay (show Sep.splice _ 0 ((⟨⟨s,nv.s.k,nv.s.p,nv.s.m⟩,Cb nv.d m⟩:NV)).c=((⟨⟨s,nv.s.k,nv.s.p,nv.s.m⟩,Cb nv.d m⟩:NV)).c from Sep.e7 I) (Ak I (Af (AM (BI I (AJ I Bs AR (Hat 1 I) (I)) (show Sep.look _ _=some _ from I) ?_))))))))))))
     exact fun _ h=>⟨s,by dsimp only; rw[fO (show Cd (Cb nv.d m)=true from hf)],trivial,h.sublist (jR.2 (iQ _))⟩
end Go.Proofs.YtloldofjddbjoaaGreat
namespace Go.Proofs.YtloldofjddbjoaaGreat
open Go.Sep Go.RowKit Tryz
variable {i:Nat} {l:List Int} {va vp:Value}
def Jb {α:Type} (f:α->Bool) (lt:α->α->Bool) (l:List α):Nat->Bool
 |0=>match l[0]? with|some e=>f e|none=>true
 |i+1=>match l[i+1]?,l[i]? with|some e,some d=>f e&&lt d e|some e,none=>f e|none,_=>true
def FE {α:Type} (f:α->Bool) (lt:α->α->Bool) (l:List α):Bool:=(List.range l.length).all (Jb f lt l)
section
variable {α:Type} {f:α->Bool} {lt:α->α->Bool} {l:List α}
theorem Mw (hi:i<l.length) (h:Jb f lt l i=false):FE f lt l=false:=by
 unfold FE; rw[j9]; exact⟨i,gk.2 hi,by rw[h]; decide⟩
theorem Rh (h:∀i,i<l.length->Jb f lt l i=true):FE f lt l=true:=by
 unfold FE; rw[iD]; exact fun i hi=>h i (gk.1 hi)
theorem UP {c:α} (hc:l[0]?=some c):Jb f lt l 0=f c:=by unfold Jb; rw[hc]
theorem UQ {c d:α} (hi:0<i) (hc:l[i]?=some c) (hd:l[i-1]?=some d):Jb f lt l i=(f c&&lt d c):=by
 cases i with
 |zero=>omega
 |succ i =>
  have hd':l[i]?=some d:=hd
  simp only[Jb,hc,hd']
theorem Zc {c:α} (hc:l[i]?=some c) (h:f c=false):Jb f lt l i=false:=by
 cases i with
 |zero=>rw[UP hc,h]
 |succ i =>
  obtain⟨d,hd⟩:∃d,l[i]?=some d:=⟨_,fD (by have:=(gl.1 hc).1; omega)⟩
  rw[UQ (Nat.succ_pos i) hc hd,h]; rfl
end
def FP (l:List (Kv 8)) (k:Kv 8):Nat:=l.countP (fun p=>decide (BC p k<=0))
theorem SS {l:List (Kv 8)} {p k:Kv 8} (h:l[i]?=some p):FP (l.take (i+1)) k=FP (l.take i) k+(if BC p k<=0 then 1 else 0):=by
 unfold FP; rw[jd,h,List.countP_append]; simp[List.countP_cons]
theorem XQ (l:List (Kv 8)) (k:Kv 8):FP l k<=l.length:=List.countP_le_length
def fpl (l:List Int) (x:Int):Option Nat:=Cp (fun y=>decide (y=x)) l
def fkB (l:List Int) (i:Nat):Bool:=match l[i]? with|some x=>decide (1<=x)&&(decide (x<256)&&decide (fpl l x=some i))|none=>true
def ltK (a b:Kv 8):Bool:=decide (BC a b<0)
def fck (ks:List Int) (ps:List (Kv 8)):Bool:=decide (2<=ks.length/\ks.length<=4/\ps.length+1=ks.length)&&((List.range ks.length).all (fkB ks)&&FE kck ltK ps)
theorem PJ (hi:i<l.length) (h:fkB l i=false):(List.range l.length).all (fkB l)=false:=by
 rw[j9]; exact⟨i,gk.2 hi,by rw[h]; decide⟩
theorem XR (h:∀i,i<l.length->fkB l i=true):(List.range l.length).all (fkB l)=true:=by
 rw[iD]; exact fun i hi=>h i (gk.1 hi)
theorem Zd {o:Option Nat} {i:Nat}:(io o=(i:Int))↔o=some i:=by
 cases o with
 |none=>exact⟨fun h=>by simp only[io] at h; omega,fun h=>by cases h⟩
 |some j=>simp only[io,Option.some.injEq]; omega
theorem N8 (l:List Int) (x:Int) (hn:l.length<=65536):Con prog 157 [va,.int .i64 x] (fun w=>RdV w va (AG .i64) l) [] (fun _:Unit=>.int .i64 (io (fpl l x))) (fun _=>True) (fun _=>[]):=by
 intro w hl hH
 refine E0 func157 I hH ?_
 refine Cs I (Ak I (Ag (Cs I (Lm I (Lq I (AL I U22 I (fun _ h=>hl.keep h (by simp[dom]))) (Lm I (Nk (Al ?_))))))))
 refine Bc (fun (i:Nat)=>[(0,va),(1,.int .i64 x),(7,.int .i64 (l.length:Int)),(8,.int .i64 (i:Int))]) (fun (i:Nat)=>St w [] []) (fun (i:Nat)=>i<=l.length/\∀z∈l.take i,decide (z=x)=false) (fun (i:Nat)=>l.length-i) (0) ⟨gb _,by simp⟩ (Si I) Ih (fun i hp=>Ag ?_)
 obtain⟨hi,hno⟩:=hp
 refine Cr I (Lq I (Ql I) (Ns ?_))
 refine CB 9 I (fun h1=>?_) (fun h1=>?_)
 · obtain⟨y,hy⟩:∃y,l[i]?=some y:=⟨_,fD (by omega)⟩
   refine Ai I (Ae (Ks (Al (Cs I (Lm I (Ak I (Cs I (Lm I (Lm I (Lm I (Lq I (As i I U22 Z3 I (fun _ h=>hl.keep h (by simp[dom])) I I (by omega)) (Lq I (AI i 0 I G3 I I (fun _ h=>hl.keep h (by simp[dom])) hy I) (Lq I (Qe I) (Nk ?_))))))))))))))
   refine CB 16 I (fun he=>?_) (fun he=>?_)
   · refine Ai I (Cs I (Lm I (Ak I (Af (Am (Aa (Aa (Am (Aa (An I I ?_))))))))))
     exact fun _ h=>⟨(),congrArg (fun z=>Ending.returned (Value.int .i64 z)) (by unfold fpl; rw[C2 hy (jq he.symm) hno]; rfl),trivial,h⟩
   · refine Ab I (Ae (Aw (Kt (Cr I (Lq I (Qi I (by omega)) (Lm I (AB ?_)))))))
     exact AD (i+1) (by omega) ⟨by omega,EI hno hy (jo (fun e=>he e.symm))⟩ (Si I) (fun _ h=>h)
 · rw[fZ (by omega)] at hno
   refine Ab I (AO (Ac (Ac (Ar (Kt (Cs I (Ak I (Af (An I I ?_)))))))))
   exact fun _ h=>⟨(),congrArg (fun z=>Ending.returned (Value.int .i64 z)) (by unfold fpl; rw[C3 hno]; rfl),trivial,h⟩
theorem N9 (l:List Int) (x:Int) (hn:l.length<=65536):Con prog 203 [va,.int .i64 x] (fun w=>RdV w va (AG .i64) l) [] (fun _:Unit=>.int .i64 (io (fpl l x))) (fun _=>True) (fun _=>[]):=by
 intro w hl hH
 refine E0 func203 I hH ?_
 refine Cs I (Ak I (Cs I (Lm I (Lm I (l_e I (E1 (N8 l x hn) I call157 (fun _ h=>hl.keep h (by simp)) (fun _ _=>Ak I (Af (An I I ?_)))))))))
 exact fun _ h=>⟨(),rfl,trivial,h⟩
theorem Ly (l:List (Kv 8)) (k:Kv 8) (hn:l.length<=60000):Con prog 178 [vp,.agg k.c.toArray] (fun w=>RdV w vp (Kv.enc 8) l) [] (fun _:Unit=>.int .i64 (FP l k:Int)) (fun _=>True) (fun _=>[]):=by
 intro w hE hH
 refine E0 func178 I hH ?_
 refine Cs I (l_e I (AQ I I I I (fun bk=>Ce k.c I (Ak I (Cs I (Ak I (Ag (Cs I (Lm I (Lq I (AL I Ho I (fun _ h=>hE.keep h (by simp[dom]))) (Lm I (Nk (Al ?_)))))))))))))
 refine Bc (fun (i:Nat)=>[(3,.pointer (some ⟨bk,0,none⟩)),(5,.int .i64 (FP (l.take i) k:Int)),(8,vp),(9,.int .i64 (l.length:Int)),(10,.int .i64 (i:Int))]) (fun (i:Nat)=>St w [] [Ad bk 77 k.c]) (fun (i:Nat)=>i<=l.length) (fun (i:Nat)=>l.length-i) (0) (gb _) (Si I) Ih (fun i hi=>Cs I (Lq I (Ql I) (Ns ?_)))
 refine CB 11 I (fun h1=>?_) (fun h1=>?_)
 · obtain⟨p,hx⟩:∃p,l[i]?=some p:=⟨_,fD (by omega)⟩
   have hsn:=SS (k:=k) hx
   have hle:=XQ (l.take i) k
   have htl:=jP i l
   refine Ai I (Ae (Ks (Al (Cs I (Lq I (As i I Ho Z77 I (fun _ h=>hE.keep h (by simp[dom])) I I (by omega)) (Lq I (AU i I G77 Z77 I I (fun _ h=>hE.keep h (by simp[dom])) hx) (l_e I (Au I I I zeroValue77 (fun bp=>Ce (kv0 8).c I (l_e I (Ah I I Z77 I I (Kv.e6 _) (Kv.one _) (by show 0+(Kv.c _).length<=(Kv.c _).length; rw[Kv.e6,Kv.e6]; decide) (Ce (p).c (Sep.e7 (by show (Kv.c _).length=_; rw[Kv.e6,Kv.e6])) (Nk (Cs I (Lq I (Cq (p.c) G77 Z77 0 I (AY _) (Kv.e6 _)) (Lq I (Cq (k.c) G77 Z77 1 I (AY _) (Kv.e6 _)) (l_e I (E1 (Fj p k) I call162 Tt (fun _ _=>Lq I (Hk I I I) (Nk ?_))))))))))))))))))))
   refine CB 17 I (fun h2=>?_) (fun h2=>?_)
   · rw[fO h2] at hsn
     refine Ai I (Cr I (Lm I (Lq I (Qi I (by omega)) (Las I (AB (Aw (Kt (Cr I (Lq I (Qi I (by omega)) (Lm I (AB (Av ?_))))))))))))
     exact AD (i+1) (by omega) (by omega) (Sub.cons I (Sub.consE I (by rw[hsn]) (Si I))) (fun _ h=>h)
   · rw[fR h2] at hsn
     refine Ab I (Ae (Aw (Kt (Cr I (Lq I (Qi I (by omega)) (Lm I (AB (Av ?_))))))))
     exact AD (i+1) (by omega) (by omega) (Sub.cons I (Sub.consE I (by rw[hsn]; rfl) (Si I))) (fun _ h=>h)
 · have hfin:l.take i=l:=fZ (by omega)
   rw[hfin]
   refine Ab I (AO (Ac (Ac (Ar (Kt (Cs I (Lm I (Ak I (Af (An I I ?_))))))))))
   exact fun _ h=>⟨(),rfl,trivial,h.e8⟩
theorem Oa {vk:Value} (ks:List Int) (ps:List (Kv 8)) (hn:ks.length<=60000) (hn2:ps.length<=60000):Con prog 344 [vk,vp] (fun w=>RdV w vk (AG .i64) ks/\RdV w vp (Kv.enc 8) ps) [] (fun _:Unit=>.bool (fck ks ps)) (fun _=>True) (fun _=>[]):=by
 intro w hE hH
 obtain⟨hk,hp⟩:=hE
 refine E0 func344 I hH ?_
 refine Cs I (Ak I (Ag (Cs I (Lm I (Lq I (AL I U22 I (fun _ h=>hk.keep h (by simp[dom]))) (Lq I (Ql I) (Lm I ?_)))))))
 refine CB 12 I (fun h1=>?_) (fun h1=>?_)
 · refine Lx I (Lx I (Lx I (Lq I (Qy I) (Lm I (Lx I (Lx I (Lx I (Lx I (Lx I (Lx I (Lq I (Qy I) (Nk (Ai I (Cs I (Ak I (Af (Aa (An I I ?_))))))))))))))))))
   exact fun _ h=>⟨(),congrArg (fun z=>Ending.returned (Value.bool z)) (by unfold fck; rw[jo (by omega)]; rfl),trivial,h⟩
 · refine Lm I (Lq I (AL I U22 I (fun _ h=>hk.keep h (by simp[dom]))) (Lq I (BS I I I) (Lq I (Qz I) (Lm I ?_))))
   refine CB 17 I (fun h2=>?_) (fun h2=>?_)
   · refine Lx I (Lx I (Lx I (Lx I (Lx I (Lx I (Lq I (Qy I) (Nk (Ai I (Cs I (Ak I (Af (Aa (An I I ?_)))))))))))))
     exact fun _ h=>⟨(),congrArg (fun z=>Ending.returned (Value.bool z)) (by unfold fck; rw[jo (by omega)]; rfl),trivial,h⟩
   · refine Lm I (Lq I (AL I Ho I (fun _ h=>hp.keep h (by simp[dom]))) (Lm I (Lq I (AL I U22 I (fun _ h=>hk.keep h (by simp[dom]))) (Lq I (Dl I I I (by omega)) (Lq I (Qn I) (Lq I (Qz I) (Nk ?_)))))))
     refine CB 24 I (fun h3=>?_) (fun h3=>?_)
     · refine Ai I (Cs I (Ak I (Af (Aa (An I I ?_)))))
       exact fun _ h=>⟨(),congrArg (fun z=>Ending.returned (Value.bool z)) (by unfold fck; rw[jo (by omega)]; rfl),trivial,h⟩
     · refine Ab I (Ae (Ks (Cs I (Lm I (Lq I (AL I U22 I (fun _ h=>hk.keep h (by simp[dom]))) (Lm I (Nk (Al ?_))))))))
       have hyes:decide (2<=ks.length/\ks.length<=4/\ps.length+1=ks.length)=true:=jq (by omega)
       refine Bc (fun (i:Nat)=>[(0,vk),(1,vp),(25,vk),(26,.int .i64 (ks.length:Int)),(27,.int .i64 (i:Int))]) (fun (i:Nat)=>St w [] []) (fun (i:Nat)=>i<=ks.length/\∀j,j<i->fkB ks j=true) (fun (i:Nat)=>ks.length-i) (0) ⟨gb _,fun j h=>absurd h (jy _)⟩ (Si I) Ih (fun i hp2=>Ag ?_)
       obtain⟨hi,hj⟩:=hp2
       refine Cr I (Lq I (Ql I) (Ns ?_))
       refine CB 28 I (fun h4=>?_) (fun h4=>?_)
       · obtain⟨x,hx⟩:∃x,ks[i]?=some x:=⟨_,fD (by omega)⟩
         have hlt:=(gl.1 hx).1
         refine Ai I (Ae (Ks (Al (Cs I (Lm I (Lq I (As i I U22 Z3 I (fun _ h=>hk.keep h (by simp[dom])) I I (by omega)) (Lq I (AI i 0 I G3 I I (fun _ h=>hk.keep h (by simp[dom])) hx I) (Las I (Ak I (Cs I (Lm I (Lq I (Ql I) (Lm I ?_)))))))))))))
         refine CB 34 I (fun h5=>?_) (fun h5=>?_)
         · refine Lx I (Lx I (Lq I (Qy I) (Lm I (Lx I (Lx I (Lx I (Lx I (Lx I (Lq I (Qy I) (Nk (Ai I (Cs I (Ak I (Af (Am (Aa (Aa (Am (Aa (An I I ?_))))))))))))))))))))
           exact fun _ h=>⟨(),congrArg (fun z=>Ending.returned (Value.bool z)) (by unfold fck; rw[PJ hlt (by unfold fkB; rw[hx]; simp only[jo (show ¬1<=x by omega),iJ]; try simp)]; simp),trivial,h⟩
         · refine Lm I (Lq I (Qg I) (Lq I (Qz I) (Lm I ?_)))
           refine CB 38 I (fun h6=>?_) (fun h6=>?_)
           · refine Lx I (Lx I (Lx I (Lx I (Lx I (Lq I (Qy I) (Nk (Ai I (Cs I (Ak I (Af (Am (Aa (Aa (Am (Aa (An I I ?_))))))))))))))))
             exact fun _ h=>⟨(),congrArg (fun z=>Ending.returned (Value.bool z)) (by unfold fck; rw[PJ hlt (by unfold fkB; rw[hx]; simp only[jo (show ¬x<256 by omega),iJ,jQ]; try simp)]; simp),trivial,h⟩
           · refine Lm I (Lm I (l_e I (E1 (N9 ks x (by omega)) I call203 (fun _ h=>hk.keep h (by simp)) (fun _ _=>Lm I (Lq I (Qn I) (Lq I (Qz I) (Nk ?_)))))))
             refine CB 44 I (fun h7=>?_) (fun h7=>?_)
             · refine Ai I (Cs I (Ak I (Af (Am (Aa (Aa (Am (Aa (An I I ?_)))))))))
               exact fun _ h=>⟨(),congrArg (fun z=>Ending.returned (Value.bool z)) (by unfold fck; rw[PJ hlt (by unfold fkB; rw[hx]; simp only[jo (show ¬fpl ks x=some i from fun e=>h7 (Zd.2 e)),jQ]; try simp)]; simp),trivial,h⟩
             · refine Ab I (Ae (Aw (Kt (Cr I (Lq I (Qi I (by omega)) (Lm I (AB ?_)))))))
               exact AD (i+1) (by omega) ⟨by omega,fun j h=>by
                rcases ke.1 h with h|rfl
                · exact hj j h
                · unfold fkB; rw[hx]; simp only[jq (show 1<=x by omega),jq (show x<256 by omega),jq (Zd.1 (by omega):fpl ks x=some j)]; rfl⟩ (Si I) (fun _ h=>h)
       · have hks:=XR (l:=ks) (fun j h=>hj j (by omega))
         refine Ab I (AO (Ac (Ac (Ar (Ks (Cs I (Lm I (Lq I (AL I Ho I (fun _ h=>hp.keep h (by simp[dom]))) (Lm I (Nk (Al ?_)))))))))))
         refine Bc (fun (q:Nat)=>[(1,vp),(46,vp),(47,.int .i64 (ps.length:Int)),(48,.int .i64 (q:Int))]) (fun (q:Nat)=>St w [] []) (fun (q:Nat)=>q<=ps.length/\∀j,j<q->Jb kck ltK ps j=true) (fun (q:Nat)=>ps.length-q) (0) ⟨gb _,fun j h=>absurd h (jy _)⟩ (Si I) Ih (fun q hp3=>Ag ?_)
         obtain⟨hq,hjq⟩:=hp3
         refine Cr I (Lq I (Ql I) (Ns ?_))
         refine CB 49 I (fun h8=>?_) (fun h8=>?_)
         · obtain⟨c,hc⟩:∃c,ps[q]?=some c:=⟨_,fD (by omega)⟩
           have hlt:=(gl.1 hc).1
           refine Ai I (Ae (Ks (Al (Cs I (Lm I (Lq I (As q I Ho Z77 I (fun _ h=>hp.keep h (by simp[dom])) I I (by omega)) (Lq I (AU q I G77 Z77 I I (fun _ h=>hp.keep h (by simp[dom])) hc) (l_e I (Au I I I zeroValue77 (fun bp=>Ce (kv0 8).c I (Las I (l_e I (Ah I I Z77 I I (Kv.e6 _) (Kv.one _) (by show 0+(Kv.c _).length<=(Kv.c _).length; rw[Kv.e6,Kv.e6]; decide) (Ce (c).c (Sep.e7 (by show (Kv.c _).length=_; rw[Kv.e6,Kv.e6])) (Ns (Dn (rg 17) 1594326 (fun w2=>(Ad bp 77 c.c).at w2/\RdV w2 vp (Kv.enc 8) ps) I St.drawn (fun _ h=>⟨h.at 0 rfl,hp.keep h (by simp)⟩) (Dq I (AP (c.c) I G77 Z77 I (fun _ h=>h.1) (AY _) (Kv.e6 _)) (d_e I (E1 (E5 c) I call279 Tt (fun _ _=>Aj (fun _ h=>⟨h.at 0 rfl,hp.keep h (by simp)⟩) (Dq I (Qt I) (Dm I ?_))))))))))))))))))))))
           refine CB 56 I (fun hk2=>?_) (fun hk2=>?_)
           · refine Dx I (Dx I (Dx I (Dx I (Dx I (Dx I (Dx I (Dx I (Dx I (Dx I (Dx I (Dx I (Dq I (Qy I) (AK (Kt (Ai I (Cs I (Ak I (Af (Am (Aa (Aa (Am (Aa ?_)))))))))))))))))))))))
             refine An I I ?_
             exact fun _ h=>⟨(),congrArg (fun z=>Ending.returned (Value.bool z)) (by unfold fck; rw[Mw hlt (Zc hc hk2)]; simp),trivial,h.e8⟩
           · refine Dm I (Dq I (BS I I I) (Dm I ?_))
             refine CB 59 I (fun h0=>?_) (fun h0=>?_)
             · obtain⟨d,hd⟩:∃d,ps[q-1]?=some d:=⟨_,fD (by omega)⟩
               have hat:=UQ (f:=kck) (lt:=ltK) (by omega) hc hd
               rw[hk2] at hat
               refine Dm I (Dm I (Dq I (Dl I I I (by omega)) (Dq I (As (q-1) I Ho Z77 I (fun _ h=>h.2) I (by omega) (by omega)) (Dq I (AU (q-1) I G77 Z77 I I (fun _ h=>h.2) hd) (Dq I (AP (c.c) I G77 Z77 I (fun _ h=>h.1) (AY _) (Kv.e6 _)) (d_e I (E1 (Fj d c) I call162 Tt (fun _ _=>Aj (fun _ h=>⟨h.at 0 rfl,hp.keep h (by simp)⟩) (Dq I (Qg I) (Dq I (Qy I) (Dq I (Qz I) (AK (Kt ?_)))))))))))))
               refine CB 69 I (fun hcm=>?_) (fun hcm=>?_)
               · refine Ai I (Cs I (Ak I (Af (Am (Aa (Aa (Am (Aa (An I I ?_)))))))))
                 exact fun _ h=>⟨(),congrArg (fun z=>Ending.returned (Value.bool z)) (by unfold fck; rw[Mw hlt (by rw[hat]; unfold ltK; rw[jo (by omega)]; rfl)]; simp),trivial,h.e8⟩
               · refine Ab I (Ae (Aw (Kt (Cr I (Lq I (Qi I (by omega)) (Lm I (AB (Av ?_))))))))
                 exact AD (q+1) (by omega) ⟨by omega,fun j h=>by
                  rcases ke.1 h with h|rfl
                  · exact hjq j h
                  · rw[hat]; unfold ltK; rw[jq (by omega)]; rfl⟩ (Si I) (fun _ h=>h)
             · have hq0:q=0:=by omega
               subst hq0
               refine Dx I (Dx I (Dx I (Dx I (Dx I (Dx I (Dx I (Dx I (Dq I (Qz I) (Dq I (Qz I) (AK (Kt (Ab I (Ae (Aw (Kt (Cr I (Lq I (Qi I (by omega)) (Lm I (AB (Av ?_))))))))))))))))))))
               exact AD (0+1) (by omega) ⟨by omega,fun j h=>by
                rcases ke.1 h with h|rfl
                · exact hjq j h
                · rw[UP hc,hk2]⟩ (Si I) (fun _ h=>h)
         · refine Ab I (AO (Ac (Ac (Ar (Kt (Cs I (Ak I (Af (An I I ?_)))))))))
           exact fun _ h=>⟨(),congrArg (fun z=>Ending.returned (Value.bool z)) (by unfold fck; rw[hyes,hks,Rh (fun j h=>hjq j (by omega))]; rfl),trivial,h⟩
end Go.Proofs.YtloldofjddbjoaaGreat
namespace Go.Proofs.YtloldofjddbjoaaGreat
open Go.Sep Go.RowKit Tryz
variable {t u:TypeId} {x y:Operand} {k:IntKind} {p q:Int} {va:Value} {i:Nat}
section
variable {P:Program} {n:Nat} {L:Env} {X:World->Prop} {o:Oper}
def ES (k:IntKind) (a b:Int):Int:=k.wrap ((BitVec.ofInt k.bits a ^^^ BitVec.ofInt k.bits b).toNat:Int)
def ZY (k:IntKind) (a b:Int):Int:=k.wrap ((BitVec.ofInt k.bits a &&& BitVec.ofInt k.bits b).toNat:Int)
theorem UR (ho:o.op=.binOp .xor t x y u) (hx:ev L x=some (.int k p)) (hy:ev L y=some (.int k q)):QOp P n L X o (.int k (ES k p q)) :=
 CW ho hx hy (fun w _=>by rw[gx,Ch]; simp[binOp,Op.intBits,ES])
theorem de (ho:o.op=.binOp .and t x y u) (hx:ev L x=some (.int k p)) (hy:ev L y=some (.int k q)):QOp P n L X o (.int k (ZY k p q)) :=
 CW ho hx hy (fun w _=>by rw[gx,Ch]; simp[binOp,Op.intBits,ZY])
theorem Ri {j:IntKind} (m:Nat) (ho:o.op=.binOp .shr t x y u) (hx:ev L x=some (.int k p)) (hy:ev L y=some (.int j (m:Int))) (hm:m<=k.bits):QOp P n L X o (.int k (p.fdiv (2^m))) :=
 CW ho hx hy (fun w _=>by
  rw[gx,Ch]
  have h1:¬((m:Int)<0):=by omega
  have h2:min ((m:Int)).toNat k.bits=m:=by rw[ie]; omega
  simp only[binOp,Op.shift,fR h1,h2]
  rfl)
theorem Ze (ho:o.op=.unOp .xor t x) (hk:k.signed=false) (hx:ev L x=some (.int k p)):QOp P n L X o (.int k (ES k k.max p)) :=
 QOp.mk (fun a=>Op.unary .xor (a.eval x)) (fun a=>by simp[execOp,ho]) (fun a w kn _=>by rw[kn.eval hx]; simp[Op.unary,hk,Op.intBits,ES])
end
theorem Rj (z:Int):IntKind.u8.wrap z=z%256:=by simp[IntKind.wrap,IntKind.signed,IntKind.bits]
theorem US (z:Int):IntKind.u32.wrap z=z%4294967296:=by simp[IntKind.wrap,IntKind.signed,IntKind.bits]
theorem df (z:Int):z.fdiv (2^8)=z/256:=by rw[kh _ (by decide)]; rfl
theorem ZZ (a b:Int):0<=ES .u8 a b/\ES .u8 a b<256:=by unfold ES; rw[Rj]; omega
theorem XS (a b:Int):0<=ES .u32 a b/\ES .u32 a b<4294967296:=by unfold ES; rw[US]; omega
def UT (x:Int):Int:=if ZY .u32 x 1=1 then ES .u32 (x.fdiv (2^1)) 3988292384 else x.fdiv (2^1)
def UU:Nat->Int->Int
 |0,x=>x
 |k+1,x=>UT (UU k x)
def Lz (i:Nat):Int:=UU 8 (IntKind.u32.wrap (i:Int))
def HJ (x c:Int):Int:=ES .u32 (Lz (ES .u8 (IntKind.u8.wrap x) c).toNat) (x.fdiv (2^8))
def FQ (l:List Int):Int:=ES .u32 IntKind.u32.max (l.foldl HJ (ES .u32 IntKind.u32.max 0))
theorem Z0 (l:List Int):0<=FQ l/\FQ l<4294967296:=XS _ _
def EY (i:Nat):List Value:=((List.range i).map (fun k=>Value.int .u32 (Lz k)))++List.replicate (256-i) (Value.int .u32 0)
theorem CU (h:i<=256):(EY i).length=256:=by unfold EY; simp; omega
theorem UW (h:i<256):(EY i).set (0+i*1) (.int .u32 (Lz i))=EY (i+1):=by
 unfold EY
 have hl:((List.range i).map (fun k=>Value.int .u32 (Lz k))).length=i:=by simp
 rw[show 0+i*1=i by omega,iq _ _ (by omega),hl,Nat.sub_self,jM,gL]
 obtain⟨m,hm⟩:∃m,256-i=m+1:=⟨255-i,by omega⟩
 rw[hm,fT,iu,show 256-(i+1)=m by omega]
 simp
theorem UX {j:Nat} (h:j<256):(EY 256)[0+j*1]?=some (.int .u32 (Lz j)):=by
 unfold EY
 rw[show 0+j*1=j by omega,fM (by simp<;>omega)]
 simp[h]
theorem Ob (i:Nat):∀v∈EY i,v.oneCell'=true:=fun v hv=>by
 unfold EY at hv
 rcases ib.1 hv with hv|hv
 · obtain⟨k,_,rfl⟩:=gj.1 hv; rfl
 · rw[(ic.1 hv).2]; rfl
theorem SU (x:Int):Con prog 298 [.int .i64 x] (fun _=>True) [] (fun _:Unit=>.bool (decide (1<=x/\x<=8))) (fun _=>True) (fun _=>[]):=by
 intro w hE hH
 refine E0 func298 I hH ?_
 refine Cs I (Ak I (Cs I (Lm I (Lq I (Qg I) (Lm I ?_)))))
 refine CB 5 I (fun h1=>?_) (fun h1=>?_)
 · refine Lm I (Lq I (Hk I I I) (Lq I (Qy I) (Ak I (Af (An I I ?_)))))
   exact fun _ h=>⟨(),congrArg (fun z=>Ending.returned (Value.bool z)) (by rw[jF]; omega),trivial,h⟩
 · refine Lx I (Lx I (Lq I (Qz I) (Ak I (Af (An I I ?_)))))
   exact fun _ h=>⟨(),congrArg (fun z=>Ending.returned (Value.bool z)) (jo (by omega)).symm,trivial,h⟩
theorem SV (zs:List Int) (z:Int) (k:Nat) (h1:1<=k) (h8:k<=8) (hn:zs.length<=60000):Con prog 274 [va,.int .u64 z,.int .i64 (k:Int)] (fun w=>RdV w va (AG .u8) zs) [] (fun v:Value=>v) (fun _=>True) (fun v=>[Az v 5 (AG .u8) (zs++le z k)]):=by
 intro w hl hH
 refine E0 func274 I hH ?_
 refine Cs I (Ak I (Cs I (Lm I (row0 5 (AG .u8) none (l_e I (BZ I I I U23 U23 IQ I I I I I (fun _ h=>hl.keep h (by simp)) (by simp only[Sh]; simp; omega) (by simp<;>omega) (fun v1=>Ak I (Ag (Cs I (Lm I ?_))))))))))
 rw[gO]
 refine l_e I (E1 (SU k) I call298 Tt (fun _ _=>Lq I (Qt I) (Nk (Sb 12 false I (by rw[jq (by omega)]; rfl) (Ab I (Ae (Ks (Cs I (Lm I (Lm I (Nk (Al ?_))))))))))))
 refine CN (fun (i:Nat) (v:Value)=>[(1,.int .u64 (z/256^i)),(7,v),(14,.int .i64 (k:Int)),(15,.int .i64 (i:Int))]) (fun (i:Nat) (v:Value)=>St w [] [Az v 5 (AG .u8) (zs++le z i)]) (fun (i:Nat) (v:Value)=>i<=k) (fun (i:Nat) (v:Value)=>k-i) (0) (v1) (gb _) (Sub.consE I (by simp) (Si I)) (fun _ h=>by simpa [le] using h) (fun i v hi=>Ag ?_)
 have hll:=B1 i z
 have hll:=B1 i z
 have hdd:(z/256^i).fdiv (2^8)=z/256^(i+1):=by rw[df,ft (gJ (Int.pow_pos (by decide))),Int.pow_succ]
 refine Cr I (Lq I (Ql I) (Ns ?_))
 refine CB 16 I (fun h1=>?_) (fun h1=>?_)
 · refine Ai I (Ae (Ks (Al (Cs I (Lm I (Lm I (Lq I (GR I underlying41 U5 I) (l_e I (Ax (sz:=1) [.tmp 19] I I I I I U23 Z5 I zeroValue5 I (fun b1=>AM (l_e I (BZ I I I U23 U23 IQ I I I I I (fun _ h=>AW (h.at 1 I) (AG .u8) [IntKind.u8.wrap (z/256^i)] I I) (by simp only[Sh]; simp; omega) (by simp<;>omega) (fun v2=>Ak I (Cr I (Lm I (Lq I (Ri 8 I I I (by decide)) (Las I (AB (Aw (Kt (Cr I (Lq I (Qi I (by omega)) (Lm I (AB (Bo (l':=zs++le z (i+1)) (by rw[QG,Rj,gK]) (AM (Av ?_)))))))))))))))))))))))))))
   exact AD ((i+1,v2)) (by dsimp only; omega) (by dsimp only; omega) (Sub.consE I (by dsimp only; rw[hdd]) (Si I)) (fun _ h=>h)
 · have hik:i=k:=by omega
   subst hik
   refine Ab I (AO (Ac (Ac (Ar (Kt (Cs I (Lm I (Ak I (Af (An I I ?_))))))))))
   exact fun _ h=>⟨v,rfl,trivial,h⟩
theorem Oc :Con prog 310 [] (fun _=>True) [] (fun _:Unit=>.agg (EY 256).toArray) (fun _=>True) (fun _=>[]):=by
 intro w hE hH
 refine E0 func310 I hH ?_
 refine Cs I (l_e I (Au I I I zeroValue395 (fun br=>Ce (EY 0) (by kernel_rfl) (Nk (Cs I (l_e I (Au I I I zeroValue395 (fun bl=>Ce (EY 0) (by kernel_rfl) (Ns (Cs I (Lm I (Nk (Al ?_)))))))))))))
 refine Bc (fun (i:Nat)=>[(0,.pointer (some ⟨br,0,none⟩)),(1,.pointer (some ⟨bl,0,none⟩)),(5,.int .i64 (i:Int))]) (fun (i:Nat)=>St w [] [Ad bl 395 (EY i),Ad br 395 (EY 0)]) (fun (i:Nat)=>i<=256) (fun (i:Nat)=>256-i) (0) (gb _) (Si I) Ih (fun i hi=>Cs I (Lq I (Ql I) (Ns ?_)))
 refine CB 6 I (fun h1=>?_) (fun h1=>?_)
 · refine Ai I (Ae (Ks (Al (Cs I (Lm I (Ak I (Cs I (Lm I (Lq I (GR I U3 underlying368 I) (Ak I (Ag (Cs I (Lm I (Nk (Al ?_)))))))))))))))
   refine Bc (fun (k:Nat)=>[(0,.pointer (some ⟨br,0,none⟩)),(1,.pointer (some ⟨bl,0,none⟩)),(2,.int .i64 (i:Int)),(5,.int .i64 (i:Int)),(3,.int .u32 (UU k (IntKind.u32.wrap (i:Int)))),(10,.int .i64 (k:Int))]) (fun (k:Nat)=>St w [] [Ad bl 395 (EY i),Ad br 395 (EY 0)]) (fun (k:Nat)=>k<=8) (fun (k:Nat)=>8-k) (0) (gb _) (Si I) Ih (fun k hk=>Cs I (Lq I (Ql I) (Ns ?_)))
   refine CB 11 I (fun h2=>?_) (fun h2=>?_)
   · refine Ai I (Ae (Ks (Al (Cs I (Lm I (Lq I (de I I I) (Lq I (Qe I) (Ak I (Cs I (Lm I (Lq I (Ri 1 I I I (by decide)) (Ak I (Cs I (Lm I (Nk ?_)))))))))))))))
     refine CB 17 I (fun h3=>?_) (fun h3=>?_)
     · refine Ai I (Cr I (Lm I (Lq I (UR I I I) (Las I (AB (Aw (Kt (Cr I (Lq I (Qi I (by omega)) (Lm I (AB ?_)))))))))))
       exact AD (k+1) (by omega) (by omega) (Sub.cons I (Sub.cons I (Sub.cons I (Sub.cons I (Sub.consE I (by show _=Value.int .u32 (UT _); unfold UT; rw[fO h3]) (Si I)))))) (fun _ h=>h)
     · refine Ab I (Ae (Aw (Kt (Cr I (Lq I (Qi I (by omega)) (Lm I (AB ?_)))))))
       exact AD (k+1) (by omega) (by omega) (Sub.cons I (Sub.cons I (Sub.cons I (Sub.cons I (Sub.consE I (by show _=Value.int .u32 (UT _); unfold UT; rw[fR h3]) (Si I)))))) (fun _ h=>h)
   · have hk8:k=8:=by omega
     subst hk8
     refine Ab I (AO (Ac (Ac (Ar (Kt (Cr I (Lm I (Lm I (Lq I (AZ i I underlying395 sizeOf368 I I I (by omega)) (l_e I (AF I I sizeOf368 I I I (by rw[CU (by omega)]; show 0+i*1<256; omega) (Ce (EY (i+1)) (UW (by omega)) (AB (Aw (Kt (Cr I (Lq I (Qi I (by omega)) (Lm I (AB ?_)))))))))))))))))))
     exact AD (i+1) (by omega) (by omega) (Si I) (fun _ h=>h)
 · have hi256:i=256:=by omega
   subst hi256
   refine Ab I (AO (Ac (Ac (Ar (Kt (Cs I (Lq I (Cq (EY 256) isAgg395 sizeOf395 0 I (fZ (by rw[fV,CU (ga _)]; exact ga _)) (CU (ga _))) (AM (l_e I (Ah I I sizeOf395 I I (CU (ga _)) (Ob 256) (by rw[CU (ga _),CU (gb _)]; decide) (Ce (EY 256) (Sep.e7 (by rw[CU (ga _),CU (gb _)])) (Nk (Af (CL I (AJ I isAgg395 sizeOf395 (Hat 0 I) (CU (ga _))) ?_))))))))))))))
   exact fun _ h=>⟨(),rfl,trivial,h.e8⟩
theorem PK (l:List Int) (z:Int) (hn:l.length<=60000):Con prog 299 [.int .u32 z,va] (fun w=>RdV w va (AG .u8) l) [] (fun _:Unit=>.int .u32 (ES .u32 IntKind.u32.max (l.foldl HJ (ES .u32 IntKind.u32.max z)))) (fun _=>True) (fun _=>[]):=by
 intro w hl hH
 refine E0 func299 I hH ?_
 refine Cs I (Ak I (Cs I (l_e I (E1 (Oc) I call310 Tt (fun _ _=>l_e I (Au I I I zeroValue395 (fun bt=>Ce (EY 0) (by kernel_rfl) (l_e I (Ah I I sizeOf395 I I (CU (ga _)) (Ob 256) (by rw[CU (ga _),CU (gb _)]; decide) (Ce (EY 256) (Sep.e7 (by rw[CU (ga _),CU (gb _)])) (Nk (Cs I (Lm I (Lq I (Ze I I I) (Ak I (Ag (Cs I (Lm I (Lq I (AL I U23 I (fun _ h=>hl.keep h (by simp[dom]))) (Lm I (Nk (Al ?_))))))))))))))))))))))
 refine Bc (fun (i:Nat)=>[(5,.pointer (some ⟨bt,0,none⟩)),(6,.int .u32 ((l.take i).foldl HJ (ES .u32 IntKind.u32.max z))),(12,va),(13,.int .i64 (l.length:Int)),(14,.int .i64 (i:Int))]) (fun (i:Nat)=>St w [] [Ad bt 395 (EY 256)]) (fun (i:Nat)=>i<=l.length) (fun (i:Nat)=>l.length-i) (0) (gb _) (Si I) Ih (fun i hi=>Cs I (Lq I (Ql I) (Ns ?_)))
 refine CB 15 I (fun h1=>?_) (fun h1=>?_)
 · obtain⟨c,hc⟩:∃c,l[i]?=some c:=⟨_,fD (by omega)⟩
   have hsn:(l.take (i+1)).foldl HJ (ES .u32 IntKind.u32.max z)=HJ ((l.take i).foldl HJ (ES .u32 IntKind.u32.max z)) c:=by rw[jd,hc,jZ]; rfl
   obtain⟨x,hx⟩:∃x,x=((l.take i).foldl HJ (ES .u32 IntKind.u32.max z)):=⟨_,rfl⟩
   rw[<-hx]
   rw[<-hx] at hsn
   have hj:=ZZ (IntKind.u8.wrap x) c
   obtain⟨j,hjj⟩:∃j:Nat,ES .u8 (IntKind.u8.wrap x) c=(j:Int):=⟨_,(Int.toNat_of_nonneg hj.1).symm⟩
   have hj2:j<256:=by omega
   have hbc:HJ x c=ES .u32 (Lz j) (x.fdiv (2^8)):=by unfold HJ; rw[hjj]; rfl
   refine Ai I (Ae (Ks (Al (Cs I (Lq I (As i I U23 Z5 I (fun _ h=>hl.keep h (by simp[dom])) I I (by omega)) (Lq I (AI i 0 I G5 I I (fun _ h=>hl.keep h (by simp[dom])) hc I) (Ak I (Cr I (Lm I (Lq I (GR I underlying368 U5 I) (Lm I (Lq I (UR I I I) (Lq I (AZ j I underlying395 sizeOf368 I I hjj (by omega)) (Lq I (Ao I isAgg368 I (Hat 0 I) (UX hj2)) (Lm I (Lq I (Ri 8 I I I (by decide)) (Lq I (UR I I I) (Las I (AB (Aw (Kt (Cr I (Lq I (Qi I (by omega)) ?_)))))))))))))))))))))))
   refine Lm I (AB ?_)
   exact AD (i+1) (by omega) (by omega) (Sub.cons I (Sub.consE I (by rw[hsn,hbc]) (Si I))) (fun _ h=>h)
 · have hfin:l.take i=l:=fZ (by omega)
   rw[hfin]
   refine Ab I (AO (Ac (Ac (Ar (Kt (Cs I (Lm I (Lq I (Ze I I I) (Ak I (Af (An I I ?_)))))))))))
   exact fun _ h=>⟨(),rfl,trivial,h.e8⟩
theorem SW (l:List Int) (hn:l.length<=60000):Con prog 275 [va] (fun w=>RdV w va (AG .u8) l) [] (fun _:Unit=>.int .u32 (FQ l)) (fun _=>True) (fun _=>[]):=by
 intro w hl hH
 refine E0 func275 I hH ?_
 refine Cs I (Ak I (Cs I (Lm I (l_e I (E1 (PK l 0 hn) I call299 (fun _ h=>hl.keep h (by simp)) (fun _ _=>Ak I (Af (An I I ?_))))))))
 exact fun _ h=>⟨(),rfl,trivial,h⟩
theorem IY (l:List Int) (hn:l.length<=60000):Con prog 218 [va] (fun w=>RdV w va (AG .u8) l) [] (fun v:Value=>v) (fun _=>True) (fun v=>[Az v 5 (AG .u8) (le (FQ l) 4)]):=by
 intro w hl hH
 have hcb:=Z0 l
 refine E0 func218 I hH ?_
 refine Cs I (Ak I (Cs I (Lm I (l_e I (E1 (SW l hn) I call275 (fun _ h=>hl.keep h (by simp)) (fun _ _=>Lq I (Bq (p:=FQ l) I underlying368 underlying41 I (EL (by omega))) (l_e I (AX (SV (va:=.slice none 0 0) [] (FQ l) 4 (by decide) (by decide) (gb _)) I I I call274 I (fun _ h=>T8 _) (fun v _=>Ak I (Af (An I I ?_)))))))))))
 exact fun _ h=>⟨v,rfl,trivial,h⟩
end Go.Proofs.YtloldofjddbjoaaGreat
namespace Go.Proofs.YtloldofjddbjoaaGreat
open Go.Sep Go.RowKit Tryz
variable {i:Nat} {α:Type} {va v:Value} {k:Kv 8} {m:Ms} {w0 w:World} {H:List Ent}
section
variable {α:Type} (f:α->Kv 8)
def DV (l:List α):Prop:=l.Pairwise (fun a b=>BC (f a) (f b)<0)
def FF (l:List α) (k:Kv 8):Nat:=(l.takeWhile (fun e=>decide (BC (f e) k<0))).length
def gis (l:List α) (k:Kv 8):Bool:=match l[FF f l k]? with|some e=>decide (f e=k)|none=>false
end
section
variable {α:Type} {f:α->Kv 8}
theorem XT {l:List α} (hi:i<=l.length) (h1:∀j e,j<i->l[j]?=some e->BC (f e) k<0) (h2:∀e,l[i]?=some e->¬BC (f e) k<0):FF f l k=i:=by
 unfold FF
 have hl:l.take i++l.drop i=l:=gP i l
 have ht:∀e∈l.take i,decide (BC (f e) k<0)=true:=fun e he=>by
  obtain⟨j,hj⟩:=jK.1 he
  rw[fN] at hj
  split at hj
  · rename_i hlt; exact jq (h1 j e hlt hj)
  · cases hj
 rw[<-hl,List.takeWhile_append_of_pos ht]
 have hd:(l.drop i).takeWhile (fun e=>decide (BC (f e) k<0))=[]:=by
  cases hx:l.drop i with
  |nil=>rfl
  |cons x xs =>
   have:l[i]?=some x:=by rw[<-List.head?_drop,hx]; rfl
   rw[j6,fR (by simpa using h2 x this)]
 rw[hd,jc,fJ]; omega
theorem Ka {l:List α} (hs:DV f l) {k:Kv 8} {i j:Nat} {a b:α} (hij:i<=j) (ha:l[i]?=some a) (hb:l[j]?=some b) (h:BC (f b) k<0):BC (f a) k<0:=by
 rcases fG i j with hlt|hge
 · exact G7 (Hy hs i j a b hlt ha hb) (gJ h)
 · have:i=j:=by omega
   subst this; rw[ha] at hb; cases hb; exact h
theorem Jn (l:List α) (k:Kv 8):FF f l k<=l.length:=(j8 _).length_le
theorem UY {l:List α} (h:gis f l k=true):∃e,l[FF f l k]?=some e/\f e=k:=by
 unfold gis at h
 cases h2:l[FF f l k]? with
 |none=>rw[h2] at h; cases h
 |some e=>rw[h2] at h; exact⟨e,rfl,jt h⟩
end
def ltM (a b:Ms):Bool:=decide (BC a.key b.key<0)
def bck (l:List Ms):Bool:=FE mck ltM l
def bby (l:List Ms):Int:=(l.map mby).sum
def Di (l:List Ms) (k:Kv 8):Ms×Bool:=if gis Ms.key l k=true then (l.getD (FF Ms.key l k) ms0,true) else (ms0,false)
def DW (l:List Ms) (m:Ms):List Ms:=l.take (FF Ms.key l m.key)++[if gis Ms.key l m.key=true then mco (l.getD (FF Ms.key l m.key) ms0) m else m]++l.drop (FF Ms.key l m.key+(if gis Ms.key l m.key=true then 1 else 0))
def Hd (l ms:List Ms):List Ms:=ms.foldl DW l
theorem PL (m:Ms):0<=mby m/\mby m<=35:=by
 unfold mby
 split
 · rename_i h
   have h1:=Q3 h
   split
   · rename_i hk; have h2:=Q4 h hk; omega
   · split<;>omega
 · omega
theorem UZ {l:List Ms} (h:l[i]?=some m):bby (l.take (i+1))=bby (l.take i)+mby m:=by
 unfold bby; rw[jd,h,gL,List.sum_append]; simp
theorem U0 (l:List Ms):0<=bby l/\bby l<=35*l.length:=by
 induction l with
 |nil=>simp[bby]
 |cons a l ih =>
  have:=PL a
  have e:bby (a::l)=mby a+bby l:=by simp[bby]
  rw[e,fv]; omega
theorem Od (l:List Ms) (m:Ms):(DW l m).length<=l.length+1:=by
 unfold DW
 have:=Jn (f:=Ms.key) l m.key
 simp only[fL,fJ,fK,fv,jn]
 omega
theorem SX {l ms:List Ms} (h:ms[i]?=some m):Hd l (ms.take (i+1))=DW (Hd l (ms.take i)) m:=by
 unfold Hd; rw[jd,h,jZ]; rfl
theorem Oe:∀(ms l:List Ms),(Hd l ms).length<=l.length+ms.length
 |[],l=>ga _
 |m::ms,l=>by
  have h1:=Oe ms (DW l m)
  have h2:=Od l m
  show (Hd (DW l m) ms).length<=_
  simp only[fv]; omega
theorem Mx {l:List α} {x d:α} (h:l[i]?=some x):l.getD i d=x:=by rw[ju,h]; rfl
def PM (l ms:List Ms):Prop:=∀i,i<=ms.length->DV Ms.key (Hd l (ms.take i))
theorem XU {lo hi mid:Nat} (h:mid=(lo+hi)/2) (hb:lo+hi<=1000000):IntKind.i64.wrap (((lo:Int)+(hi:Int)).fdiv (2^1))=(mid:Int):=by
 have e:((lo:Int)+(hi:Int)).fdiv (2^1)=(mid:Int):=by
  rw[kh _ (by decide)]; omega
 rw[e]; exact Cj (by omega)
theorem U1 {bl bk:Nat} {E:Enc α} {l:List α} (h:RdV w0 v E l) (s:St w0 [bl,bk] H w) (h1:blk v≠bl\/l=[]) (h2:blk v≠bk\/l=[]):RdV w v E l :=
 h.congr (fun hl=>s.keep.block _ (h.lt hl) (by
  rcases h1 with h1|h1
  · rcases h2 with h2|h2
    · simp only[fq,iH,iI,not_or]; exact⟨h1,h2⟩
    · exact absurd h2 hl
  · exact absurd h1 hl))
theorem Z1 (l:List Ms) (k:Kv 8) (bl bk:Nat) (hb1:blk va≠bl\/l=[]) (hb2:blk va≠bk\/l=[]) {i:Nat} {c:Ms} (hc:l[i]?=some c) (hn:l.length<=60000):Con prog 161 [.int .i64 (i:Int),.pointer (some ⟨bl,0,none⟩),.pointer (some ⟨bk,0,none⟩)] (fun w=>RdV w va Ms.enc l) [Ad bl 133 [va],Ad bk 77 k.c] (fun _:Unit=>.bool (decide (0<=BC c.key k))) (fun _=>True) (fun _=>[Ad bl 133 [va],Ad bk 77 k.c]):=by
 intro w hl hH
 refine enter (n:=13) (vs:=[.int .i64 (i:Int),.pointer (some ⟨bl,0,none⟩),.pointer (some ⟨bk,0,none⟩)]) (St w [bl,bk] [Ad bl 133 [va],Ad bk 77 k.c]) func161 I I I (St.init hH) ?_
 refine Ag ?_
 have hcl:=(gl.1 hc).1
 refine Cr I (Ak I (Ag (Dn (rg 9) 13851 (fun w2=>(Ad bl 133 [va]).at w2/\(Ad bk 77 k.c).at w2/\RdV w2 va Ms.enc l) I St.drawn (fun _ h=>⟨h.at 0 rfl,h.at 1 rfl,U1 hl h hb1 hb2⟩) (Dq I (Ao I I7 I (fun _ h=>h.1) I) (Dm I (Dq I (As i I BP Bi I (fun _ h=>h.2.2) I I (by omega)) (Dfa B7 I Z77 I (Dq I (BQ (c.key.c) i 2 I G77 Z77 I I (fun _ h=>h.2.2) hc (by decide) (Ms.fk _)) (Dq I (AP (k.c) I G77 Z77 I (fun _ h=>h.2.1) (AY _) (Kv.e6 _)) (d_e I (E1 (Fj c.key k) I call162 Tt (fun _ _=>Aj (fun _ h=>⟨h.at 0 rfl,h.at 1 rfl,U1 hl h hb1 hb2⟩) (Dq I (Qg I) (d_t I (e_q I I (AE I I) (AK (Kt (Af (An I I ?_)))))))))))))))))))
 exact fun _ h=>⟨(),rfl,trivial,h⟩
theorem U2 (l:List Ms) (k:Kv 8) (hs:DV Ms.key l) (bl bk:Nat) (hb1:blk va≠bl\/l=[]) (hb2:blk va≠bk\/l=[]) (hn:l.length<=60000):Con prog 160 [.int .i64 (l.length:Int),.func (.func 161) #[] #[.pointer (some ⟨bl,0,none⟩),.pointer (some ⟨bk,0,none⟩)]] (fun w=>RdV w va Ms.enc l) [Ad bl 133 [va],Ad bk 77 k.c] (fun _:Unit=>.int .i64 (FF Ms.key l k:Int)) (fun _=>True) (fun _=>[Ad bl 133 [va],Ad bk 77 k.c]):=by
 intro w hl hH
 refine enter (n:=26) (vs:=[.int .i64 (l.length:Int),.func (.func 161) #[] #[.pointer (some ⟨bl,0,none⟩),.pointer (some ⟨bk,0,none⟩)]]) (St w [bl,bk] [Ad bl 133 [va],Ad bk 77 k.c]) func160 I I I (St.init hH) ?_
 refine Cs I (Ak I (Cs I (Lm I (Las I (Ak I (Ag (Al ?_)))))))
 refine CN (fun (lo:Nat) (hi:Nat)=>[(1,.func (.func 161) #[] #[.pointer (some ⟨bl,0,none⟩),.pointer (some ⟨bk,0,none⟩)]),(5,.int .i64 (lo:Int)),(6,.int .i64 (hi:Int))]) (fun (lo:Nat) (hi:Nat)=>St w [bl,bk] [Ad bl 133 [va],Ad bk 77 k.c]) (fun (lo:Nat) (hi:Nat)=>lo<=hi/\hi<=l.length/\(∀j e,j<lo->l[j]?=some e->BC e.key k<0)/\∀j e,hi<=j->l[j]?=some e->¬BC e.key k<0) (fun (lo:Nat) (hi:Nat)=>hi-lo) (0) (l.length) ⟨gb _,ga _,fun j e h=>absurd h (jy _),fun j e h1 h2=>by have:=(gl.1 h2).1; omega⟩ (Si I) (fun _ h=>h) ?_
 intro lo hi hp
 refine Ag (Ag ?_)
 obtain⟨hlh,hhl,hp1,hp2⟩:=hp
 refine Cr I (Lm I (Lm I (Lq I (Ql I) (Nk ?_))))
 refine CB 11 I (fun hlt=>?_) (fun hlt=>?_)
 · obtain⟨mid,hmd⟩:∃mid:Nat,mid=(lo+hi)/2:=⟨_,rfl⟩
   obtain⟨c,hc⟩:∃c,l[mid]?=some c:=⟨_,fD (by omega)⟩
   refine Ai I (Ae (Kt (Al (Cs I (Lm I (Lm I (Lq I (Bf I I I (by omega)) (Lq I (Bq (p:=((lo:Int)+(hi:Int))) I U3 Ub I (EL (by omega))) (Lq I (Ri 1 I I I (by decide)) (Lq I (GR I Ub U3 I) (Ak I (Ag (Sv' 7 (.int .i64 (mid:Int)) I (by rw[XU hmd (by omega)]) (Cr I (Lm I (Lm I (l_e I (Fx (β:=Unit) (X':=fun _=>St w _ [Ad bl 133 [va],Ad bk 77 k.c]) (v:=fun _=>.bool (decide (0<=BC c.key k))) (p:=fun _=>True) I I I I call161 I (fun w2 h=>Con.frame (F:=[]) (Z1 l k bl bk hb1 hb2 hc hn) h (U1 hl h hb1 hb2)) (fun _ _=>Lq I (Qt I) (Nk ?_))))))))))))))))))))
   refine CB 21 I (fun hcm=>?_) (fun hcm=>?_)
   · refine Ai I (Cr I (Lm I (Lq I (Qi I (by omega)) (Las I (AB (Aw ?_))))))
     exact AD ((mid+1,hi)) (by dsimp only; omega) ⟨by dsimp only; omega,hhl,fun j e hj he=>Ka hs (by dsimp only at hj; omega) he hc (by omega),hp2⟩ (Si I) (fun _ h=>h)
   · refine Ab I (Cr I (Lm I (Las I (AB (Aw ?_)))))
     exact AD ((lo,mid)) (by dsimp only; omega) ⟨by dsimp only; omega,by dsimp only; omega,hp1,fun j e hj he h=>absurd (Ka hs hj hc he h) (by omega)⟩ (Si I) (fun _ h=>h)
 · have hpos:FF Ms.key l k=lo:=XT (by omega) hp1 (fun e he=>hp2 lo e (by omega) he)
   refine Ab I (AO (Ac (Ac (Ar (Kt (Cs I (Lm I (Ak I (Af (An I I ?_))))))))))
   exact fun _ h=>⟨(),by rw[hpos],trivial,h⟩
theorem U4 {E:Enc α} {l:List α} {b:Nat} (h:RdV w0 v E l) (s:St w0 [] H w) (hb:b∈dom H):blk v≠b\/l=[]:=by
 by_cases hl:l=[]
 · exact .inr hl
 · refine .inl (fun e=>?_)
   have:=h.lt hl
   rcases s.dom b hb with h2|h2
   · cases h2
   · omega
theorem IZ (l:List Ms) (k:Kv 8) (hs:DV Ms.key l) (hn:l.length<=60000):Con prog 109 [va,.agg k.c.toArray] (fun w=>RdV w va Ms.enc l) [] (fun _:Unit=>.tuple #[.int .i64 (FF Ms.key l k:Int),.bool (gis Ms.key l k)]) (fun _=>True) (fun _=>[]):=by
 intro w hl hH
 obtain⟨i,hi⟩:∃i,i=FF Ms.key l k:=⟨_,rfl⟩
 have hil:i<=l.length:=by rw[hi]; exact Jn _ _
 obtain⟨a,c,rfl⟩:=F0 hl
 refine E0 func109 I hH ?_
 refine Cs I (l_e I (AQ I I I I (fun bl=>Ce [.slice a l.length c] I (l_e I (AQ I I I I (fun bk=>Ce k.c I (Las I (Ak I (Cs I (Lo I7 1 I (Lq I (AL I BP I (fun _ h=>hl.keep h (by simp[dom]))) (Lq I (DD (fn:=.func 0) (us:=#[.pointer (some ⟨bl,0,none⟩),.pointer (some ⟨bk,0,none⟩)]) 161 I (vs:=#[]) (fun a k=>by simp) (fun a k=>by simp[k.eval (x:=.tmp 2) rfl,k.eval (x:=.tmp 3) rfl])) (AM (Pre.fact (fun _ h=>U4 hl h (b:=bl) (by simp[dom,Ad])) (fun hb1=>Pre.fact (fun _ h=>U4 hl h (b:=bk) (by simp[dom,Ad])) (fun hb2=>l_e I (Gn (U2 l k hs bl bk hb1 hb2 hn) I I I call160 I (fun _ h=>hl.keep h (by simp)) ?_)))))))))))))))))
 intro _ _
 rw[<-hi]
 refine Ak I (Ag (Dn (rg 16) 28697814 (fun w2=>(Ad bl 133 [.slice a l.length c]).at w2/\(Ad bk 77 k.c).at w2/\RdV w2 (.slice a l.length c) Ms.enc l) I St.drawn (fun _ h=>⟨h.at 0 rfl,h.at 1 rfl,hl.keep h (by simp)⟩) (Dm I (Dm I (Dq I (Ao I I7 I (fun _ h=>h.1) I) (Dq I (AL I BP I (fun _ h=>h.2.2)) (Dq I (Ql I) (Dm I ?_))))))))
 refine CB 16 I (fun hin=>?_) (fun hin=>?_)
 · obtain⟨c,hc⟩:∃c,l[i]?=some c:=⟨_,fD (by omega)⟩
   refine Dq I (Ao I I7 I (fun _ h=>h.1) I) (Dm I (Dq I (As i I BP Bi I (fun _ h=>h.2.2) I I (by omega)) (Dfa B7 I Z77 I (Dq I (BQ (c.key.c) i 2 I G77 Z77 I I (fun _ h=>h.2.2) hc (by decide) (Ms.fk _)) (Dq I (AP (k.c) I G77 Z77 I (fun _ h=>h.2.1) (AY _) (Kv.e6 _)) (Dq I (Q2 (c.key) (k) I I I) (Dq I (Qy I) (Das I (d_t I (e_q I I (AE I I) (AK (Kt (Af ?_)))))))))))))
   have hlis:gis Ms.key l k=decide (c.key=k):=by unfold gis; rw[<-hi,hc]
   refine Be (rs:=[.tmp 4,.tmp 5]) I I ?_
   exact fun _ h=>⟨(),by show _=Ending.returned (Value.tuple #[_,Value.bool (gis Ms.key l k)]); rw[hlis],trivial,h.e8⟩
 · have hlis:gis Ms.key l k=false:=by unfold gis; rw[<-hi,fI (by omega)]
   refine Dx I (Dx I (Dx I (Dx I (Dx I (Dx I (Dx I (Dq I (Qz I) (Das I (d_t I (e_q I I (AE I I) (AK (Kt (Af (Be (rs:=[.tmp 4,.tmp 5]) I I ?_))))))))))))))
   exact fun _ h=>⟨(),by show _=Ending.returned (Value.tuple #[_,Value.bool (gis Ms.key l k)]); rw[hlis],trivial,h.e8⟩
end Go.Proofs.YtloldofjddbjoaaGreat
namespace Go.Proofs.YtloldofjddbjoaaGreat
open Go.Sep Go.RowKit Tryz
variable {va vm:Value}
theorem Of (l:List Ms) (hn:l.length<=60000):Con prog 288 [va] (fun w=>RdV w va Ms.enc l) [] (fun _:Unit=>.int .i64 (bby l)) (fun _=>True) (fun _=>[]):=by
 intro w hl hH
 refine E0 func288 I hH ?_
 refine Cs I (Ak I (Cs I (Ak I (Ag (Cs I (Lm I (Lq I (AL I BP I (fun _ h=>hl.keep h (by simp[dom]))) (Lm I (Nk (Al ?_))))))))))
 refine Bc (fun (i:Nat)=>[(3,.int .i64 (bby (l.take i))),(6,va),(7,.int .i64 (l.length:Int)),(8,.int .i64 (i:Int))]) (fun (i:Nat)=>St w [] []) (fun (i:Nat)=>i<=l.length) (fun (i:Nat)=>l.length-i) (0) (gb _) (Si I) Ih (fun i hi=>Cs I (Lq I (Ql I) (Ns ?_)))
 refine CB 9 I (fun h1=>?_) (fun h1=>?_)
 · obtain⟨c,hc⟩:∃c,l[i]?=some c:=⟨_,fD (by omega)⟩
   have hsn:=UZ hc
   have hbd:=U0 (l.take i)
   have htl:=jP i l
   have hmb:=PL c
   refine Ai I (Ae (Ks (Al (Cs I (Lq I (As i I BP Bi I (fun _ h=>hl.keep h (by simp[dom])) I I (by omega)) (Lq I (AU i I Cm Bi I I (fun _ h=>hl.keep h (by simp[dom])) hc) (l_e I (Au I I I zeroValue154 (fun bm=>Ce ms0.c I (l_e I (Ah I I Bi I I (Ms.e6 _) (Ms.one _) (by show 0+(Ms.c _).length<=(Ms.c _).length; rw[Ms.e6,Ms.e6]; decide) (Ce (c).c (Sep.e7 (by show (Ms.c _).length=_; rw[Ms.e6,Ms.e6])) (Nk (Cr I (Lm I (Lq I (Cq (c.c) Cm Bi 0 I (Bm _) (Ms.e6 _)) (l_e I (E1 (ND c) I call306 Tt (fun _ _=>Lq I (Bf I I I (by omega)) (Las I (AB (Aw (Kt (Cr I (Lq I (Qi I (by omega)) (Lm I (AB (Av ?_))))))))))))))))))))))))))))
   exact AD (i+1) (by omega) (by omega) (Sub.consE I (by rw[hsn]) (Si I)) (fun _ h=>h)
 · have hfin:l.take i=l:=fZ (by omega)
   rw[hfin]
   refine Ab I (AO (Ac (Ac (Ar (Kt (Cs I (Lm I (Ak I (Af (An I I ?_))))))))))
   exact fun _ h=>⟨(),rfl,trivial,h⟩
theorem Og (l:List Ms) (hn:l.length<=60000):Con prog 345 [va] (fun w=>RdV w va Ms.enc l) [] (fun _:Unit=>.bool (bck l)) (fun _=>True) (fun _=>[]):=by
 intro w hl hH
 refine E0 func345 I hH ?_
 refine Cs I (Ak I (Ag (Cs I (Lm I (Lq I (AL I BP I (fun _ h=>hl.keep h (by simp[dom]))) (Lm I (Nk (Al ?_))))))))
 refine Bc (fun (i:Nat)=>[(0,va),(5,va),(6,.int .i64 (l.length:Int)),(7,.int .i64 (i:Int))]) (fun (i:Nat)=>St w [] []) (fun (i:Nat)=>i<=l.length/\∀j,j<i->Jb mck ltM l j=true) (fun (i:Nat)=>l.length-i) (0) ⟨gb _,fun j h=>absurd h (jy _)⟩ (Si I) Ih (fun i hp=>Ag ?_)
 obtain⟨hi,hj⟩:=hp
 refine Cr I (Lq I (Ql I) (Ns ?_))
 refine CB 8 I (fun h1=>?_) (fun h1=>?_)
 · obtain⟨c,hc⟩:∃c,l[i]?=some c:=⟨_,fD (by omega)⟩
   have hlt:=(gl.1 hc).1
   refine Ai I (Ae (Ks (Al (Cs I (Lm I (Lq I (As i I BP Bi I (fun _ h=>hl.keep h (by simp[dom])) I I (by omega)) (Lq I (AU i I Cm Bi I I (fun _ h=>hl.keep h (by simp[dom])) hc) (l_e I (Au I I I zeroValue154 (fun bm=>Ce ms0.c I (Las I (l_e I (Ah I I Bi I I (Ms.e6 _) (Ms.one _) (by show 0+(Ms.c _).length<=(Ms.c _).length; rw[Ms.e6,Ms.e6]; decide) (Ce (c).c (Sep.e7 (by show (Ms.c _).length=_; rw[Ms.e6,Ms.e6])) (Ns (Dn (rg 19) 14348910 (fun w2=>(Ad bm 154 c.c).at w2/\RdV w2 va Ms.enc l) I St.drawn (fun _ h=>⟨h.at 0 rfl,hl.keep h (by simp)⟩) (Dq I (AP (c.c) I Cm Bi I (fun _ h=>h.1) (Bm _) (Ms.e6 _)) (d_e I (E1 (IS c) I call313 Tt (fun _ _=>Aj (fun _ h=>⟨h.at 0 rfl,hl.keep h (by simp)⟩) (Dq I (Qt I) (Dm I ?_))))))))))))))))))))))
   refine CB 15 I (fun hk=>?_) (fun hk=>?_)
   · refine Dx I (Dx I (Dx I (Dx I (Dx I (Dx I (Dx I (Dx I (Dx I (Dx I (Dx I (Dx I (Dx I (Dx I (Dq I (Qy I) (AK (Kt (Ai I (Cs I (Ak I (Af (Am (Aa (Aa ?_)))))))))))))))))))))))
     refine Am (Aa (An I I ?_))
     exact fun _ h=>⟨(),congrArg (fun z=>Ending.returned (Value.bool z)) (Mw hlt (Zc hc hk)).symm,trivial,h.e8⟩
   · refine Dm I (Dq I (BS I I I) (Dm I ?_))
     refine CB 18 I (fun h0=>?_) (fun h0=>?_)
     · obtain⟨d,hd⟩:∃d,l[i-1]?=some d:=⟨_,fD (by omega)⟩
       have hat:=UQ (f:=mck) (lt:=ltM) (by omega) hc hd
       rw[hk] at hat
       refine Dm I (Dm I (Dq I (Dl I I I (by omega)) (Dq I (As (i-1) I BP Bi I (fun _ h=>h.2) I (by omega) (by omega)) (Dfa B7 I Z77 I (Dq I (BQ (d.key.c) (i-1) 2 I G77 Z77 I I (fun _ h=>h.2) hd (by decide) (Ms.fk _)) (Dfa B7 I Z77 I (Dq I (AP (c.key.c) I G77 Z77 I (fun _ h=>h.1) (Ms.fk _) (Kv.e6 _)) (d_e I (E1 (Fj d.key c.key) I call162 Tt (fun _ _=>Aj (fun _ h=>⟨h.at 0 rfl,hl.keep h (by simp)⟩) (Dq I (Qg I) (Dq I (Qy I) (Dq I (Qz I) (AK (Kt ?_)))))))))))))))
       refine CB 30 I (fun hcm=>?_) (fun hcm=>?_)
       · refine Ai I (Cs I (Ak I (Af (Am (Aa (Aa (Am (Aa (An I I ?_)))))))))
         exact fun _ h=>⟨(),congrArg (fun z=>Ending.returned (Value.bool z)) (Mw hlt (by rw[hat]; unfold ltM; rw[jo (by omega)]; rfl)).symm,trivial,h.e8⟩
       · refine Ab I (Ae (Aw (Kt (Cr I (Lq I (Qi I (by omega)) (Lm I (AB (Av ?_))))))))
         exact AD (i+1) (by omega) ⟨by omega,fun j h=>by
          rcases ke.1 h with h|rfl
          · exact hj j h
          · rw[hat]; unfold ltM; rw[jq (by omega)]; rfl⟩ (Si I) (fun _ h=>h)
     · have hi0:i=0:=by omega
       subst hi0
       refine Dx I (Dx I (Dx I (Dx I (Dx I (Dx I (Dx I (Dx I (Dx I (Dx I (Dq I (Qz I) (Dq I (Qz I) (AK (Kt (Ab I (Ae (Aw (Kt (Cr I (Lq I (Qi I (by omega)) (Lm I (AB (Av ?_))))))))))))))))))))))
       exact AD (0+1) (by omega) ⟨by omega,fun j h=>by
        rcases ke.1 h with h|rfl
        · exact hj j h
        · rw[UP hc,hk]⟩ (Si I) (fun _ h=>h)
 · refine Ab I (AO (Ac (Ac (Ar (Kt (Cs I (Ak I (Af (An I I ?_)))))))))
   exact fun _ h=>⟨(),congrArg (fun z=>Ending.returned (Value.bool z)) (Rh (fun j h=>hj j (by omega))).symm,trivial,h⟩
theorem Kb (l:List Ms) (k:Kv 8) (hs:DV Ms.key l) (hn:l.length<=60000):Con prog 179 [va,.agg k.c.toArray] (fun w=>RdV w va Ms.enc l) [] (fun _:Unit=>.tuple #[.agg (Di l k).1.c.toArray,.bool (Di l k).2]) (fun _=>True) (fun _=>[]):=by
 intro w hl hH
 obtain⟨i,hi⟩:∃i,i=FF Ms.key l k:=⟨_,rfl⟩
 have hil:i<=l.length:=by rw[hi]; exact Jn _ _
 refine E0 func179 I hH ?_
 refine Cs I (l_e I (AQ I I I I (fun bk=>Ce k.c I (l_e I (Au I I I zeroValue154 (fun br=>Ce ms0.c I (Ak I (Cs I (Lm I (Lq I (Cq (k.c) G77 Z77 1 I (AY _) (Kv.e6 _)) (l_e I (E1 (IZ l k hs hn) I call109 (fun _ h=>hl.keep h (by simp)) ?_))))))))))))
 intro _ _
 rw[<-hi]
 refine Lm I (Lq I (Qx I) (Lq I (Qx I) (Las I (Ak I (Ag (Cs I (Lm I (Lq I (Qt I) (Nk ?_)))))))))
 refine CB 15 I (fun his=>?_) (fun his=>?_)
 · refine Ai I (Cs I (Lq I (AN (ms0.c) I I (fun w=>by kernel_rfl)) (l_e I (Ah I I Bi I I (Ms.e6 _) (Ms.one _) (by first|decide|(show 0+(Ms.c _).length<=(Ms.c _).length; rw[Ms.e6,Ms.e6]; decide)) (Ce (ms0).c (Sep.e7 (by first|rfl|(show (Ms.c _).length=_; rw[Ms.e6,Ms.e6]))) (Ak I (Af (Aa (BI I (AJ I Cm Bi (Hat 0 I) (Ms.e6 _)) (show Sep.look _ _=some _ from I) ?_)))))))))
   exact fun _ h=>⟨(),by unfold Di; rw[fR (by rw[his]; decide)],trivial,h.e8⟩
 · obtain⟨c,hc,hck⟩:=UY his
   rw[<-hi] at hc
   have hlt:=(gl.1 hc).1
   refine Ab I (Ae (Kt (Cs I (Lm I (Lm I (Lq I (As i I BP Bi I (fun _ h=>hl.keep h (by simp[dom])) I I (by omega)) (Lq I (AU i I Cm Bi I I (fun _ h=>hl.keep h (by simp[dom])) hc) (l_e I (Ah I I Bi I I (Ms.e6 _) (Ms.one _) (by first|decide|(show 0+(Ms.c _).length<=(Ms.c _).length; rw[Ms.e6,Ms.e6]; decide)) (Ce (c).c (Sep.e7 (by first|rfl|(show (Ms.c _).length=_; rw[Ms.e6,Ms.e6]))) (Ak I (Af (BI I (AJ I Cm Bi (Hat 0 I) (Ms.e6 _)) (show Sep.look _ _=some _ from I) ?_)))))))))))))
   exact fun _ h=>⟨(),by unfold Di; rw[fO his,<-hi,Mx hc],trivial,h.e8⟩
theorem SY (l:List Ms) (m:Ms) (hs:DV Ms.key l) (hn:l.length<=50000):Con prog 314 [va,.agg m.c.toArray] (fun w=>RdV w va Ms.enc l) [] (fun v:Value=>v) (fun _=>True) (fun v=>[Az v 154 Ms.enc (DW l m)]):=by
 intro w hl hH
 obtain⟨i,hi⟩:∃i,i=FF Ms.key l m.key:=⟨_,rfl⟩
 have hil:i<=l.length:=by rw[hi]; exact Jn _ _
 refine E0 func314 I hH ?_
 refine Cs I (l_e I (AQ I I I I (fun bm=>Ce m.c I (Ak I (Cs I (Lm I (Lfa B7 I Z77 I (Lq I (Cq (m.key.c) G77 Z77 0 I (Ms.fk _) (Kv.e6 _)) (l_e I (E1 (IZ l m.key hs (by omega)) I call109 (fun _ h=>hl.keep h (by simp)) ?_))))))))))
 intro _ _
 rw[<-hi]
 refine Lm I (Lq I (Qx I) (Lq I (Qx I) (Las I (Ak I (Cs I (Lm I (Lm I (Lq I (D1 i I BP Bi I (fun _ h=>hl.keep h (by simp[dom])) I I (by omega)) (Ak I (Ag (Cs I (Lm I (Nk ?_)))))))))))))
 refine Pre.caseB 18 I (fun his=>?_) (fun his=>?_)
 · obtain⟨c,hc,hck⟩:=UY his
   rw[<-hi] at hc
   have hlt:=(gl.1 hc).1
   refine Ai I (Dn [0,1,2,3,6,7,8,9,4,5,10,11] 439587 (fun w2=>RdV w2 va Ms.enc l) I St.drawn (fun _ h=>hl.keep h (by simp)) (Dm I (Dm I (Dq I (As i I BP Bi I Ih I I (by omega)) (Dq I (AU i I Cm Bi I I Ih hc) (Dm I (Dm I (Dq I (Qi I (by omega)) (Dq I (D1 (i+1) I BP Bi I Ih I I (by omega)) (d_e I (e_q I I (Cq (m.c) Cm Bi 0 I (Bm _) (Ms.e6 _)) (Aj (fun _ h=>hl.keep h (by simp)) (d_e I (E1 (GI c m) I call180 Tt (fun _ _=>Aj (fun _ h=>hl.keep h (by simp)) (d_e I (Ah I I Bi I I (Ms.e6 _) (Ms.one _) (by first|decide|(show 0+(Ms.c _).length<=(Ms.c _).length; rw[Ms.e6,Ms.e6]; decide)) (Ce ((mco c m)).c (Sep.e7 (by first|rfl|(show (Ms.c _).length=_; rw[Ms.e6,Ms.e6]))) (Aj (fun _ h=>hl.keep h (by simp)) (d_t I (e_q I I (AE I I) (AK (Ks ?_)))))))))))))))))))))))
   have hbe:DW l m=l.take i++[(mco c m)]++l.drop (i+1):=by unfold DW; rw[<-hi,his]; simp only[gR]; rw[Mx hc]
   have hti:(l.take i).length<=i:=jP _ _
   refine row0 154 Ms.enc none (EZ (fun w2=>(Ad bm 154 (((mco c m)).c)).at w2/\RdV w2 va Ms.enc l) I St.drawn (Aq 0 I (fun _ h=>⟨h.at 1 rfl,hl.keep h (by simp)⟩) (A0 I I) (Aq 1 I (fun _ h=>⟨h.at 1 rfl,hl.keep h (by simp)⟩) (A0 I I) (Aq 2 I (fun _ h=>⟨h.at 1 rfl,hl.keep h (by simp)⟩) (Fg i I BP Bi I (fun _ h=>h.2) I I (by omega)) (Aq 4 I (fun _ h=>⟨h.at 1 rfl,hl.keep h (by simp)⟩) (AP ((mco c m).c) I Cm Bi I (fun _ h=>h.1) (Bm _) (Ms.e6 _)) (Aq 7 I (fun _ h=>⟨h.at 1 rfl,hl.keep h (by simp)⟩) (A0 I I) ?_))))))
   refine BK 3 5 (by kernel_rfl) I I I I ?_ ?_
   · refine BZ I I I BP BP Dr I I I I I (fun _ h=>by have:=CF (hl.keep h (by simp)) (lo:=0) (hi:=i) (gb _) hil; rwa[fV] at this) (by simp only[Es]; simp; omega) (by simp<;>omega) (fun v1=>Aj (fun _ h=>⟨h.at 1 rfl,hl.keep h (by simp)⟩) (AH 5 (by kernel_rfl) I I (Ax (sz:=29) [.tmp 33] I I I I I BP Bi I zeroValue154 (by simp[Value.cells,Ms.e6]) (fun bx=>Aj (fun _ h=>⟨h.at 2 rfl,hl.keep h (by simp)⟩) (AM (AH 6 (by kernel_rfl) I I (BZ I I I BP BP Dr I I I I I (fun _ h=>AW (h.at 1 I) Ms.enc [(mco c m)] I I) (by simp only[Es]; simp; omega) (by simp<;>omega) (fun v2=>Aj (fun _ h=>⟨h.at 2 rfl,hl.keep h (by simp)⟩) (AH 8 (by kernel_rfl) I I (BZ I I I BP BP Dr I I I I I (fun _ h=>by have:=CF (hl.keep h (by simp)) (lo:=i+1) (hi:=l.length) (by omega) (ga _); rwa[jH] at this) (by simp only[Es]; simp; omega) (by simp<;>omega) (fun v3=>Aj (fun _ h=>⟨h.at 2 rfl,hl.keep h (by simp)⟩) (Aq 9 I (fun _ h=>⟨h.at 2 rfl,hl.keep h (by simp)⟩) (AE I I) (BW (by kernel_rfl) (Kt (Af (Bo (l':=DW l m) (by rw[hbe]; simp) (An I I ?_)))))))))))))))))
     exact fun _ h=>⟨v3,rfl,trivial,h.sublist (jR.2 (iQ _))⟩
   · refine Ax (sz:=29) [.tmp 33] I I I I I BP Bi I zeroValue154 (by simp[Value.cells,Ms.e6]) (fun bx=>Aj (fun _ h=>⟨h.at 2 rfl,hl.keep h (by simp)⟩) (AM (AH 3 (by kernel_rfl) I I (BZ I I I BP BP Dr I I I I I (fun _ h=>by have:=CF (hl.keep h (by simp)) (lo:=0) (hi:=i) (gb _) hil; rwa[fV] at this) (by simp only[Es]; simp; omega) (by simp<;>omega) (fun v1=>Aj (fun _ h=>⟨h.at 2 rfl,hl.keep h (by simp)⟩) (AH 6 (by kernel_rfl) I I (BZ I I I BP BP Dr I I I I I (fun _ h=>AW (h.at 1 I) Ms.enc [(mco c m)] I I) (by simp only[Es]; simp; omega) (by simp<;>omega) (fun v2=>Aj (fun _ h=>⟨h.at 2 rfl,hl.keep h (by simp)⟩) (AH 8 (by kernel_rfl) I I (BZ I I I BP BP Dr I I I I I (fun _ h=>by have:=CF (hl.keep h (by simp)) (lo:=i+1) (hi:=l.length) (by omega) (ga _); rwa[jH] at this) (by simp only[Es]; simp; omega) (by simp<;>omega) (fun v3=>Aj (fun _ h=>⟨h.at 2 rfl,hl.keep h (by simp)⟩) (Aq 9 I (fun _ h=>⟨h.at 2 rfl,hl.keep h (by simp)⟩) (AE I I) (BW (by kernel_rfl) (Kt (Af (Bo (l':=DW l m) (by rw[hbe]; simp) (An I I ?_)))))))))))))))))
     exact fun _ h=>⟨v3,rfl,trivial,h.sublist (jR.2 (iQ _))⟩
 · refine Ab I (Ae (Ks ?_))
   have hbe:DW l m=l.take i++[m]++l.drop (i+0):=by unfold DW; rw[<-hi,his]; simp only[iK,iL]
   have hti:(l.take i).length<=i:=jP _ _
   refine row0 154 Ms.enc none (EZ (fun w2=>(Ad bm 154 ((m).c)).at w2/\RdV w2 va Ms.enc l) I St.drawn (Aq 0 I (fun _ h=>⟨h.at 1 rfl,hl.keep h (by simp)⟩) (A0 I I) (Aq 1 I (fun _ h=>⟨h.at 1 rfl,hl.keep h (by simp)⟩) (A0 I I) (Aq 2 I (fun _ h=>⟨h.at 1 rfl,hl.keep h (by simp)⟩) (Fg i I BP Bi I (fun _ h=>h.2) I I (by omega)) (Aq 4 I (fun _ h=>⟨h.at 1 rfl,hl.keep h (by simp)⟩) (AP (m.c) I Cm Bi I (fun _ h=>h.1) (Bm _) (Ms.e6 _)) (Aq 7 I (fun _ h=>⟨h.at 1 rfl,hl.keep h (by simp)⟩) (A0 I I) ?_))))))
   refine BK 3 5 (by kernel_rfl) I I I I ?_ ?_
   · refine BZ I I I BP BP Dr I I I I I (fun _ h=>by have:=CF (hl.keep h (by simp)) (lo:=0) (hi:=i) (gb _) hil; rwa[fV] at this) (by simp only[Es]; simp; omega) (by simp<;>omega) (fun v1=>Aj (fun _ h=>⟨h.at 1 rfl,hl.keep h (by simp)⟩) (AH 5 (by kernel_rfl) I I (Ax (sz:=29) [.tmp 33] I I I I I BP Bi I zeroValue154 (by simp[Value.cells,Ms.e6]) (fun bx=>Aj (fun _ h=>⟨h.at 2 rfl,hl.keep h (by simp)⟩) (AM (AH 6 (by kernel_rfl) I I (BZ I I I BP BP Dr I I I I I (fun _ h=>AW (h.at 1 I) Ms.enc [m] I I) (by simp only[Es]; simp; omega) (by simp<;>omega) (fun v2=>Aj (fun _ h=>⟨h.at 2 rfl,hl.keep h (by simp)⟩) (AH 8 (by kernel_rfl) I I (BZ I I I BP BP Dr I I I I I (fun _ h=>by have:=CF (hl.keep h (by simp)) (lo:=i) (hi:=l.length) hil (ga _); rwa[jH] at this) (by simp only[Es]; simp; omega) (by simp<;>omega) (fun v3=>Aj (fun _ h=>⟨h.at 2 rfl,hl.keep h (by simp)⟩) (Aq 9 I (fun _ h=>⟨h.at 2 rfl,hl.keep h (by simp)⟩) (AE I I) (BW (by kernel_rfl) (Kt (Af (Bo (l':=DW l m) (by rw[hbe]; simp) (An I I ?_)))))))))))))))))
     exact fun _ h=>⟨v3,rfl,trivial,h.sublist (jR.2 (iQ _))⟩
   · refine Ax (sz:=29) [.tmp 33] I I I I I BP Bi I zeroValue154 (by simp[Value.cells,Ms.e6]) (fun bx=>Aj (fun _ h=>⟨h.at 2 rfl,hl.keep h (by simp)⟩) (AM (AH 3 (by kernel_rfl) I I (BZ I I I BP BP Dr I I I I I (fun _ h=>by have:=CF (hl.keep h (by simp)) (lo:=0) (hi:=i) (gb _) hil; rwa[fV] at this) (by simp only[Es]; simp; omega) (by simp<;>omega) (fun v1=>Aj (fun _ h=>⟨h.at 2 rfl,hl.keep h (by simp)⟩) (AH 6 (by kernel_rfl) I I (BZ I I I BP BP Dr I I I I I (fun _ h=>AW (h.at 1 I) Ms.enc [m] I I) (by simp only[Es]; simp; omega) (by simp<;>omega) (fun v2=>Aj (fun _ h=>⟨h.at 2 rfl,hl.keep h (by simp)⟩) (AH 8 (by kernel_rfl) I I (BZ I I I BP BP Dr I I I I I (fun _ h=>by have:=CF (hl.keep h (by simp)) (lo:=i) (hi:=l.length) hil (ga _); rwa[jH] at this) (by simp only[Es]; simp; omega) (by simp<;>omega) (fun v3=>Aj (fun _ h=>⟨h.at 2 rfl,hl.keep h (by simp)⟩) (Aq 9 I (fun _ h=>⟨h.at 2 rfl,hl.keep h (by simp)⟩) (AE I I) (BW (by kernel_rfl) (Kt (Af (Bo (l':=DW l m) (by rw[hbe]; simp) (An I I ?_)))))))))))))))))
     exact fun _ h=>⟨v3,rfl,trivial,h.sublist (jR.2 (iQ _))⟩
def F9 (n:Nd):Bool:=decide (n.es.length=0)&&(fck n.kids n.piv&&bck n.msgs)
def GC (n:Nd):Bool:=F9 n&&decide (bby n.msgs<=205)
def My (n:Nd):Bool:=decide (205<=2*bby n.msgs)
def Fk (n:Nd):Bool:=if n.leaf=true then Cd n else GC n
def Et (n:Nd):Bool:=!n.leaf&&My n
theorem Ir (nv:NV) (hlf:nv.d.leaf=false):Con prog 258 [.agg nv.c.toArray] (fun _=>True) [] (fun _:Unit=>.iface 366 (.agg nv.c.toArray)) (fun _=>True) (fun _=>[]):=by
 intro w hE hH
 refine E0 func258 I hH ?_
 refine Cs I (l_e I (AQ I I I I (fun bn=>Ce nv.c I (Ak I (Ag (Cs I (Lfa CT I Z4 I (Lo G4 0 I (Nk (Sb 4 false I (hlf) (Ab I (Ae (Kt (Cs I (Lq I (Cq (nv.c) Bs AR 0 I (I) (I)) (Lq rfl (Hn rfl Nl (fun _ h=>by cases h) rfl) (Ak I (Af (An I I ?_)))))))))))))))))))
 exact fun _ h=>⟨(),rfl,trivial,h.e8⟩
theorem Mz (nv:NV) (hn:nv.d.Sm 50000):Con prog 343 [.agg nv.c.toArray] (fun w=>NRd w nv) [] (fun _:Unit=>.bool (F9 nv.d)) (fun _=>True) (fun _=>[]):=by
 intro w hE hH
 obtain⟨n1,n2,n3,n4⟩:=hn
 refine E0 func343 I hH ?_
 refine Cs I (l_e I (AQ I I I I (fun bn=>Ce nv.c I (Ak I (Cs I (Lfa Nl I Z49 I (Lo G49 0 I (Lq I (AL I U49 I (fun _ h=>hE.e.keep h (by simp[dom]))) (Lq I (Qe I) (Lm I ?_))))))))))
 refine CB 7 I (fun h1=>?_) (fun h1=>?_)
 · refine Lfa Nl I Z22 I (Lo G22 0 I (Lfa Nl I Ni I (Lo isAgg132 0 I (l_e I (E1 (Oa nv.d.kids nv.d.piv (gF n2 (by decide)) (gF n3 (by decide))) I call344 (fun _ h=>⟨hE.k.keep h (by simp),hE.p.keep h (by simp)⟩) (fun _ _=>Lq I (Qy I) (Lm I ?_)))))))
   refine Pre.caseB 14 I (fun h2=>?_) (fun h2=>?_)
   · refine Lfa Nl I Hp I (Lo I7 0 I (l_e I (E1 (Og nv.d.msgs (gF n4 (by decide))) I call345 (fun _ h=>hE.m.keep h (by simp)) (fun _ _=>Lq I (Qy I) (Ak I (Af (An I I ?_)))))))
     exact fun _ h=>⟨(),congrArg (fun z=>Ending.returned (Value.bool z)) (by unfold F9; rw[jq (show nv.d.es.length=0 by omega),h2]; simp),trivial,h.e8⟩
   · refine Lx I (Lx I (Lx I (Lq I (Qz I) (Ak I (Af (An I I ?_))))))
     exact fun _ h=>⟨(),congrArg (fun z=>Ending.returned (Value.bool z)) (by unfold F9; rw[h2]; simp),trivial,h.e8⟩
 · refine Lx I (Lx I (Lx I (Lx I (Lx I (Lq I (Qz I) (Lm I (Lx I (Lx I (Lx I (Lq I (Qz I) (Ak I (Af (An I I ?_)))))))))))))
   exact fun _ h=>⟨(),congrArg (fun z=>Ending.returned (Value.bool z)) (by unfold F9; rw[jo (show ¬nv.d.es.length=0 by omega)]; rfl),trivial,h.e8⟩
theorem MA (nv:NV) (hn:nv.d.Sm 50000):Con prog 342 [.agg nv.c.toArray] (fun w=>NRd w nv) [] (fun _:Unit=>.int .i64 (bby nv.d.msgs)) (fun _=>True) (fun _=>[]):=by
 intro w hE hH
 refine E0 func342 I hH ?_
 refine Cs I (l_e I (AQ I I I I (fun bn=>Ce nv.c I (Ak I (Cs I (Lfa Nl I Hp I (Lo I7 0 I (l_e I (E1 (Of nv.d.msgs (gF hn.m (by decide))) I call288 (fun _ h=>hE.m.keep h (by simp)) (fun _ _=>Ak I (Af (An I I ?_))))))))))))
 exact fun _ h=>⟨(),rfl,trivial,h.e8⟩
theorem MB (nv:NV) (hlf:nv.d.leaf=false) (hn:nv.d.Sm 50000):Con prog 272 [.agg nv.c.toArray] (fun w=>NRd w nv) [] (fun _:Unit=>.bool (F9 nv.d)) (fun _=>True) (fun _=>[]):=by
 intro w hE hH
 refine E0 func272 I hH ?_
 refine Cs I (l_e I (AQ I I I I (fun bn=>Ce nv.c I (Ak I (Cs I (Lq I (Cq (nv.c) Bs AR 0 I (I) (I)) (l_e I (E1 (Ir nv hlf) I call258 Tt (fun _ _=>l_e I (Jm (Mz nv hn) I I I I I (fun w=>by kernel_rfl) (fun _ h=>hE.keep h) (fun _ _=>Ak I (Af (An I I ?_)))))))))))))
 exact fun _ h=>⟨(),rfl,trivial,h.e8⟩
theorem Ga (nv:NV) (hlf:nv.d.leaf=false) (hn:nv.d.Sm 50000):Con prog 199 [.agg nv.c.toArray] (fun w=>NRd w nv) [] (fun _:Unit=>.int .i64 (bby nv.d.msgs)) (fun _=>True) (fun _=>[]):=by
 intro w hE hH
 refine E0 func199 I hH ?_
 refine Cs I (l_e I (AQ I I I I (fun bn=>Ce nv.c I (Ak I (Cs I (Lq I (Cq (nv.c) Bs AR 0 I (I) (I)) (l_e I (E1 (Ir nv hlf) I call258 Tt (fun _ _=>l_e I (Jm (MA nv hn) I I I I I (fun w=>by kernel_rfl) (fun _ h=>hE.keep h) (fun _ _=>Ak I (Af (An I I ?_)))))))))))))
 exact fun _ h=>⟨(),rfl,trivial,h.e8⟩
theorem I0 (nv:NV) (hlf:nv.d.leaf=false) (hn:nv.d.Sm 50000):Con prog 216 [.agg nv.c.toArray] (fun w=>NRd w nv) [] (fun _:Unit=>.bool (GC nv.d)) (fun _=>True) (fun _=>[]):=by
 intro w hE hH
 refine E0 func216 I hH ?_
 refine Cs I (l_e I (AQ I I I I (fun bn=>Ce nv.c I (Ak I (Cs I (Ak I (Ag (Cs I (Lq I (Cq (nv.c) Bs AR 0 I (I) (I)) (l_e I (E1 (Ir nv hlf) I call258 Tt (fun _ _=>Nk (Al (Cs I (Lq rfl (CO rfl Nj (fun _ h=>by cases h) rfl (by decide) zeroValue365) (Lq I (Qx I) (Lq I (Qx I) (Nk (Ab I (Cs I (Lq rfl (Cw rfl Nl (fun _ h=>by cases h) rfl) (Lq I (Qx I) (Lq I (Qx I) (Nk (Ai I (Cr I (Las I (AB (Aw (Kt (Cs I (Lq I (Cq (nv.c) Bs AR 0 I (I) (I)) (l_e I (E1 (MB nv hlf hn) I call272 (fun _ h=>hE.keep h) (fun _ _=>Lm I ?_)))))))))))))))))))))))))))))))))))
 refine Pre.caseB 14 I (fun hc=>?_) (fun hc=>?_)
 · refine Lq I (Cq (nv.c) Bs AR 0 I (I) (I)) (l_e I (E1 (Ga nv hlf hn) I call199 (fun _ h=>hE.keep h) (fun _ _=>Lm I (Lq I (Hk I I I) (Lq I (Qy I) (Ak I (Af (An I I ?_))))))))
   exact fun _ h=>⟨(),congrArg (fun z=>Ending.returned (Value.bool z)) (by unfold GC; rw[hc,kg]),trivial,h.e8⟩
 · refine Lx I (Lx I (Lx I (Lx I (Lq I (Qz I) (Ak I (Af (An I I ?_)))))))
   exact fun _ h=>⟨(),congrArg (fun z=>Ending.returned (Value.bool z)) (by unfold GC; rw[hc]; rfl),trivial,h.e8⟩
theorem Kc (nv:NV) (hn:nv.d.Sm 50000):Con prog 216 [.agg nv.c.toArray] (fun w=>NRd w nv) [] (fun _:Unit=>.bool (Fk nv.d)) (fun _=>True) (fun _=>[]):=by
 unfold Fk
 cases h:nv.d.leaf with
 |true=>exact Hc nv h ⟨gF hn.e (by decide),gF hn.k (by decide),gF hn.p (by decide),gF hn.m (by decide)⟩
 |false=>exact I0 nv h hn
theorem MC (nv:NV) (hlf:nv.d.leaf=false) (hn:nv.d.Sm 50000):Con prog 136 [.agg nv.c.toArray] (fun w=>NRd w nv) [] (fun _:Unit=>.bool (Et nv.d)) (fun _=>True) (fun _=>[]):=by
 intro w hE hH
 have hbb:=U0 nv.d.msgs
 have hnm:=hn.m
 refine E0 func136 I hH ?_
 refine Cs I (l_e I (AQ I I I I (fun bn=>Ce nv.c I (Ak I (Cs I (Lfa CT I Z4 I (Lo G4 0 I (Lq I (Qt I) (Lm I (Sb 6 true I (by rw[hlf]; rfl) (Lq I (Cq (nv.c) Bs AR 0 I (I) (I)) (l_e I (E1 (Ga nv hlf hn) I call199 (fun _ h=>hE.keep h) (fun _ _=>Lq I (Gl I I I (by omega)) (Lq I (Qg I) (Lq I (Qy I) (Ak I (Af (An I I ?_)))))))))))))))))))
 exact fun _ h=>⟨(),congrArg (fun z=>Ending.returned (Value.bool z)) (by unfold Et My; rw[hlf]; rfl),trivial,h.e8⟩
theorem Oh (nv:NV) (hn:nv.d.Sm 50000):Con prog 136 [.agg nv.c.toArray] (fun w=>NRd w nv) [] (fun _:Unit=>.bool (Et nv.d)) (fun _=>True) (fun _=>[]):=by
 cases h:nv.d.leaf with
 |true =>
  have e:Et nv.d=false:=by unfold Et; rw[h]; rfl
  rw[e]
  exact fun w _ hH=>N7 nv h w trivial hH
 |false=>exact MC nv h hn
theorem SZ (l ms:List Ms) (hr:PM l ms) (hn:l.length+ms.length<=40000):Con prog 309 [va,vm] (fun w=>RdV w va Ms.enc l/\RdV w vm Ms.enc ms) [] (fun b:Value×Bool=>b.1) (fun b=>(ms≠[]->b.2=true)/\(b.2=false->b.1=va/\ms=[])) (fun b=>[KS b.2 b.1 154 Ms.enc (Hd l ms)]):=by
 intro w hE hH
 obtain⟨hl,hm⟩:=hE
 refine E0 func309 I hH ?_
 refine Cs I (Ak I (Ag (Cs I (Lm I (Lq I (AL I BP I (fun _ h=>hm.keep h (by simp[dom]))) (Lm I (Nk (Al (Lw va 154 Ms.enc l ?_)))))))))
 refine E3 (fun (i:Nat) (own:Bool) (v:Value)=>[(0,v),(7,vm),(8,.int .i64 (ms.length:Int)),(9,.int .i64 (i:Int))]) (fun (i:Nat) (own:Bool) (v:Value)=>St w [] [KS own v 154 Ms.enc (Hd l (ms.take i))]) (fun (i:Nat) (own:Bool) (v:Value)=>i<=ms.length/\(0<i->own=true)/\(own=false->v=va/\i=0)) (fun (i:Nat) (own:Bool) (v:Value)=>ms.length-i) (0) (false) (va) ⟨gb _,fun h=>absurd h (Nat.lt_irrefl _),fun _=>⟨rfl,rfl⟩⟩ (Si I) Ih (fun i own v hp=>Ag ?_)
 obtain⟨hi,how,hno⟩:=hp
 have hlen:=Oe (ms.take i) l
 have htl:=jP i ms
 refine Cr I (Lq I (Ql I) (Ns ?_))
 refine CB 10 I (fun h1=>?_) (fun h1=>?_)
 · obtain⟨m,hmi⟩:∃m,ms[i]?=some m:=⟨_,fD (by omega)⟩
   have hsn:=SX (l:=l) hmi
   refine Ai I (Ae (Ks (Al (Cs I (Lq I (As i I BP Bi I (fun _ h=>hm.keep h (by simp[dom])) I I (by omega)) (Lq I (AU i I Cm Bi I I (fun _ h=>hm.keep h (by simp[dom])) hmi) (l_e I (Au I I I zeroValue154 (fun bm=>Ce ms0.c I (l_e I (Ah I I Bi I I (Ms.e6 _) (Ms.one _) (by show 0+(Ms.c _).length<=(Ms.c _).length; rw[Ms.e6,Ms.e6]; decide) (Ce (m).c (Sep.e7 (by show (Ms.c _).length=_; rw[Ms.e6,Ms.e6])) (Nk (Cr I (Lm I (Lq I (Cq (m.c) Cm Bi 0 I (Bm _) (Ms.e6 _)) (l_e I (AX (SY (Hd l (ms.take i)) m (hr i hi) (by omega)) rfl rfl rfl call314 rfl (fun _ h=>Jl h 1 rfl (fun e=>by obtain⟨e1,e2⟩:=hno e; subst e1; subst e2; exact hl.keep h (by simp))) (fun v2 _=>Las I (AB (Aw (Kt (Cr I (Lq I (Qi I (by omega)) (Lm I (AB (AM (Av (AM (Av ?_))))))))))))))))))))))))))))))
   exact AD ((i+1,true,v2)) (by dsimp only; omega) ⟨by dsimp only; omega,fun _=>rfl,fun e=>by cases e⟩ (Si I) (fun _ h=>by dsimp only; rw[hsn]; exact h)
 · have hfin:ms.take i=ms:=fZ (by omega)
   rw[hfin]
   refine Ab I (AO (Ac (Ac (Ar (Kt (Cs I (Lm I (Ak I (Af (An I I ?_))))))))))
   exact fun _ h=>⟨(v,own),rfl,⟨fun hne=>how (by have:=ji.2 hne; omega),fun e=>⟨(hno e).1,fS (by have:=(hno e).2; omega)⟩⟩,h⟩
theorem Fl (nv:NV) (hlf:nv.d.leaf=false):Con prog 270 [.agg nv.c.toArray] (fun _=>True) [] (fun _:Unit=>.agg #[fnV 296,fnV 265]) (fun _=>True) (fun _=>[]):=by
 intro w hE hH
 refine E0 func270 I hH ?_
 refine Cs I (l_e I (AQ I I I I (fun bn=>Ce nv.c I (l_e I (Au I I I zeroValue363 (fun br=>Nk (Cs I (Ak I (Ag (Cs I (Lfa CT I Z4 I (Lo G4 1 I (Nk (Sb 5 false I (hlf) (Ab I (Ae (Kt (Cs I (Lq I (AN [fnV 296,fnV 265] I I (fun w=>by kernel_rfl)) (Lq I (AN [fnV 297,fnV 267] I I (fun w=>by kernel_rfl)) (Lq I (AN [fnV 296,fnV 265,fnV 297,fnV 267] I I (fun w=>by kernel_rfl)) (Lm I (Lq I (DU (v:=.agg #[fnV 296,fnV 265]) I I I (fun w=>by kernel_rfl)) (l_e I (Ah rfl rfl sizeOf363 rfl rfl rfl (fun v hv=>by simp at hv; rcases hv with rfl|rfl<;>rfl) (by show 0+2<=2; decide) (Ce [fnV 296,fnV 265] I (Nk (Af (CL I (AJ I isAgg363 sizeOf363 (Hat 0 I) (I)) ?_)))))))))))))))))))))))))))))
 exact fun _ h=>⟨(),rfl,trivial,h.e8⟩
theorem CZ (nv:NV) (ms:List Ms) (hr:PM nv.d.msgs ms) (hn:nv.d.msgs.length+ms.length<=40000):Con prog 296 [.agg nv.c.toArray,vm] (fun w=>NRd w nv/\RdV w vm Ms.enc ms) [] (fun b:Sv×Bool=>.agg (⟨⟨nv.s.e,nv.s.k,nv.s.p,b.1⟩,{nv.d with msgs:=Hd nv.d.msgs ms}⟩:NV).c.toArray) (fun b=>(ms≠[]->b.2=true)/\(b.2=false->b.1.v=nv.s.m.v/\ms=[])) (fun b=>[KS b.2 b.1.v 154 Ms.enc (Hd nv.d.msgs ms)]):=by
 intro w hE hH
 obtain⟨hE,hm⟩:=hE
 refine E0 func296 I hH ?_
 refine Cs I (l_e I (AQ I I I I (fun bn=>Ce nv.c I (l_e I (Au I I I zeroValue135 (fun br=>Ce nv0.c I (Nk (Cs I (Lfa CT I Hp I (Lo I7 1 I (Lm I (l_e I (AX (SZ nv.d.msgs ms hr hn) I I I call309 I (fun _ h=>⟨hE.m.keep h (by simp),hm.keep h (by simp)⟩) ?_)))))))))))))
 intro ⟨v,own⟩ hb
 refine Lfa CT I Hp I (Pre.fact (fun _ h=>FL (Jl h 0 rfl (fun e=>by obtain⟨e1,e2⟩:=hb.2 e; dsimp only at e1; subst e1; subst e2; exact hE.m.keep h (by simp)))) ?_)
 rintro⟨s,hs⟩
 dsimp only at hs
 subst hs
 refine AV (l_e I (AF I I Hp I I I (by show 4<5; decide) (Ce (⟨⟨nv.s.e,nv.s.k,nv.s.p,s⟩,{nv.d with msgs:=Hd nv.d.msgs ms}⟩:NV).c I (Nk (Cs I (Lq I (Cq ((⟨⟨nv.s.e,nv.s.k,nv.s.p,s⟩,{nv.d with msgs:=Hd nv.d.msgs ms}⟩:NV).c) Bs AR 0 I (I) (I)) (AV (l_e I (Ah I I AR I I I (NV.one _) (by show 0+5<=5; decide) (Ay (show Sep.splice _ 0 ((⟨⟨nv.s.e,nv.s.k,nv.s.p,s⟩,{nv.d with msgs:=Hd nv.d.msgs ms}⟩:NV)).c=((⟨⟨nv.s.e,nv.s.k,nv.s.p,s⟩,{nv.d with msgs:=Hd nv.d.msgs ms}⟩:NV)).c from Sep.e7 I) (Nk (Af (AV (CL I (AJ I Bs AR (Hat 1 I) (I)) ?_))))))))))))))
 exact fun _ h=>⟨(s,own),rfl,hb,h.sublist (jR.2 (iQ _))⟩
def CJ (d:Nd) (m:Ms):Nd:={d with msgs:=DW d.msgs m}
theorem Dj {l:List Ms} {m:Ms} (h:DV Ms.key l) (h2:DV Ms.key (DW l m)):PM l [m]:=fun i hi=>by
 cases i with
 |zero=>exact h
 |succ i=>simp at hi; subst hi; exact h2
end Go.Proofs.YtloldofjddbjoaaGreat
