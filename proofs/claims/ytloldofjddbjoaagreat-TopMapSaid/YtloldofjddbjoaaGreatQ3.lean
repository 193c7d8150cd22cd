/- Part 3 of the proof: texts of my own, laid behind one another. No condition. -/
import Derived.Test.YtloldofjddbjoaaGreatQ2
set_option linter.unusedVariables false
set_option linter.unusedSimpArgs false
set_option maxHeartbeats 8000000
set_option maxRecDepth 100000
namespace Go.Proofs.YtloldofjddbjoaaGreat
open Go.Sep Go.RowKit Tryz
variable {M:Mo} {i B bc j d n off sz:Nat} {l:List En} {va v vm vp:Value} {S:CS} {b t p a q:Int} {α β:Type} {k:Kv 8} {H G:List Ent} {x y:Operand} {w0 w:World} {m:Ms} {c:En} {D:List Nat} {fl:List FC} {f:FuncId} {xs:List Operand} {ts:Array TypeId} {vs us:List Value} {u e:TypeId} {ms:List Ms} {L:Env} {F:Act->World->Prop}
theorem KJ {B:Nat} (h:M.Ok B) {i:Nat} {y y':Vw} (hy:M.fr[i]?=some y) (h1:y'.st=0\/y'.st=1\/y'.st=2\/y'.st=3) (h2:y'.st=0\/y'.st=3->y'.blk = -1) (h3:y'.st=1\/y'.st=2->0<=y'.blk/\y'.blk<256) (h4:y'.st=3->0<=y'.own/\y'.own<8) (h5:y'.st≠3->y'.own=0) (h6:0<=y'.pins/\y'.pins<=(B:Int))
 (h7:y'.st=1\/y'.st=2->∀(j:Nat) (z:Vw),j≠i->M.fr[j]?=some z->z.st=1\/z.st=2->z.blk≠y'.blk) (h8:∀q∈M.loads,y.st=1->y.blk=q.2->y'.st=1/\y'.blk=q.2) (h9:y'.nd.Sm 1000):(M.put i y').Ok B:=by
 have hlt:=(lR.1 hy).1
 have hm:∀f∈(M.put i y').fr,f∈M.fr\/f=y':=λf hf=>oV hf
 have hg:∀(j:Nat),(M.put i y').fr[j]?=if j=i then some y' else M.fr[j]?:=λj=>by
  show (M.fr.set i y')[j]?=_
  rw[oC]
  by_cases e:j=i
  .subst e; rw[lu rfl,lu hlt,lu rfl]
  .rw[lz (λe'=>e e'.symm),lz e]
 have hl:(M.put i y').fr.length=M.fr.length:=nU
 refine⟨by rw[hl]; exact h.n1,by rw[hl]; exact h.n64,λf hf=>?_,λf hf hs=>?_,λf hf hs=>?_,λf hf hs=>?_,λf hf hs=>?_,λf hf=>?_,λa b f g ha hb hf hg' e=>?_,h.ll,h.lB,h.ln,h.lb,λq hq=>?_,λf hf=>?_,h.hw,h.B9⟩
 .rcases hm f hf with hf|rfl; exact h.st f hf; exact h1
 .rcases hm f hf with hf|rfl; exact h.none' f hf hs; exact h2 hs
 .rcases hm f hf with hf|rfl; exact h.blk f hf hs; exact h3 hs
 .rcases hm f hf with hf|rfl; exact h.own f hf hs; exact h4 hs
 .rcases hm f hf with hf|rfl; exact h.own0 f hf hs; exact h5 hs
 .rcases hm f hf with hf|rfl; exact h.pins f hf; exact h6
 .rw[hg] at ha hb
  split at ha<;>split at hb
  .rename_i e1 e2; rw[e1,e2]
  .rename_i e1 e2; cases ha; exact absurd e.symm (h7 hf b g e2 hb hg')
  .rename_i e1 e2; cases hb; exact absurd e (h7 hg' a f e1 ha hf)
  .exact h.uni a b f g ha hb hf hg' e
 .obtain⟨f,hf,e1,e2⟩:=h.lo q hq
  obtain⟨j,hj⟩:=oJ.1 hf
  by_cases e:j=i
  .subst e
   rw[hy] at hj; cases hj
   obtain⟨g1,g2⟩:=h8 q hq e1 e2
   exact⟨y',mQ (by rw[hg,lu rfl]),g1,g2⟩
  .exact⟨f,mQ (by rw[hg,lz e]; exact hj),e1,e2⟩
 .rcases hm f hf with hf|rfl; exact h.es f hf; exact h9
theorem Rel.put (h:Rel S M) {i:Nat} {f':FC} {y':Vw} (hv:vw f'=y') (a':List (Int×Int)) (ha:∀b,Co b a'=Option.map (λi:Nat=>(i:Int)) ((M.put i y').find b)) (hna:(a'.map Prod.fst).Nodup):Rel {S with fl:=S.fl.set i f',at':=a'} (M.put i y') :=
 ⟨by show (S.fl.set i f').map vw=M.fr.set i y'; rw[m4,h.fr,hv],h.ln,h.hd,ha,h.ld,h.nd,hna⟩
theorem Ie {k:Nat} (h:M.takes t=some k):∃y,M.fr[k]?=some y/\y.st=0/\M.at' k=y:=by
 unfold Mo.takes at h
 split at h
 .obtain⟨y,h1,h2,_⟩:=C4 h
  exact⟨y,h1,oh h2,Kz h1⟩
 .cases h
structure NvIn (G:List Ent) (v:NV):Prop where
 e:(v.s.e=sv0/\v.d.es=[])\/Bv v.s.e v.d.es∈G
 k:(v.s.k=sv0/\v.d.kids=[])\/BY v.s.k v.d.kids∈G
 p:(v.s.p=sv0/\v.d.piv=[])\/CF v.s.p v.d.piv∈G
 m:(v.s.m=sv0/\v.d.msgs=[])\/EN v.s.m v.d.msgs∈G
theorem NvIn.zero (G:List Ent):NvIn G nv0:=⟨.inl ⟨rfl,rfl⟩,.inl ⟨rfl,rfl⟩,.inl ⟨rfl,rfl⟩,.inl ⟨rfl,rfl⟩⟩
theorem NvIn.of {v:NV} (h:∀e∈Bz v,e∈G):NvIn G v:=⟨.inr (h _ (by simp)),.inr (h _ (by simp)),.inr (h _ (by simp)),.inr (h _ (by simp))⟩
theorem NvIn.more {G':List Ent} {v:NV} (h:NvIn G v) (hs:∀e∈G,e∈G'):NvIn G' v:=⟨h.e.imp id (hs _),h.k.imp id (hs _),h.p.imp id (hs _),h.m.imp id (hs _)⟩
theorem NvIn.rd {v:NV} (h:NvIn G v) (hp:HP H w) (hs:∀e∈G,e∈H):NRd w v:=by
 refine⟨?_,?_,?_,?_⟩
 .rcases h.e with⟨h1,h2⟩|h1
  .rw[h1,h2]; exact EI _
  .exact BU (hp.holds _ (hs _ h1))
 .rcases h.k with⟨h1,h2⟩|h1
  .rw[h1,h2]; exact EI _
  .exact BU (hp.holds _ (hs _ h1))
 .rcases h.p with⟨h1,h2⟩|h1
  .rw[h1,h2]; exact EI _
  .exact BU (hp.holds _ (hs _ h1))
 .rcases h.m with⟨h1,h2⟩|h1
  .rw[h1,h2]; exact EI _
  .exact BU (hp.holds _ (hs _ h1))
def NIn (G:List Ent) (fl:List FC):Prop:=∀f∈fl,NvIn G f.nv
theorem NIn.set (h:NIn G fl) {i:Nat} {f':FC} (hf:NvIn G f'.nv):NIn G (fl.set i f'):=λg hg=>by
 rcases oV hg with hg|rfl
 .exact h g hg
 .exact hf
theorem NIn.set_same (h:NIn G fl) {i:Nat} {f f':FC} (hf:fl[i]?=some f) (e:f'.nv=f.nv):NIn G (fl.set i f'):=h.set (by rw[e]; exact h f (mQ hf))
theorem Jy {k:Nat} {f:FC} (hfk:S.fl[k]?=some f) (hn:S.fl.length<=65536):Con prog 246 [pV bc,fp S.vF k] Tr (S.H bc) (λ_:Unit=>.tuple #[]) Tr (λ_=>CS.H bc {S with at':=mput f.blk (k:Int) S.at'}):=by
 intro w hE hH
 refine enter (n:=31) (vs:=[pV bc,fp S.vF k]) (St w (dom (S.H bc)) (CS.H bc (S))) func246 I I I (St.init hH) ?_
 refine Af ?_
 have hkl:=(lR.1 hfk).1
 refine Cr I (Mv 2 I (Lfa Db I Gg I (Lo G2 0 I (Lq I (AJ I FK I (Hrd 1 I)) (Lm I (Nk (Aj ?_)))))))
 refine A0 (λ(i:Nat)=>[(0,pV bc),(1,fp S.vF k),(9,.int .i64 (S.fl.length:Int)),(10,.int .i64 (i:Int))]) (λ(i:Nat)=>St w (dom (S.H bc)) (Ad bc 257 (S).cells::AA (S).vF 259 FC.enc (S).fl::Dz S.bA kI kI (if k<i then mput f.blk (k:Int) S.at' else S.at')::Dz (S).bL kI vS (S).ld::AA (S).vL 277 Wn.enc (S).ln::(S).rows)) (λ(i:Nat)=>i<=S.fl.length) (λ(i:Nat)=>S.fl.length-i) (0) (lK _) (Si I) Ih (λi hi=>Cs I (Lq I (Ql I) (Ns ?_)))
 refine CB 11 I (λh1=>?_) (λh1=>?_)
 .refine Ah I (Ae (Ks (Aj (Cs I (Lm I (Ak I (Cs I (Mv 2 I (Lfa Db I Gg I (Lo G2 0 I (Lm I (Lq I (Ar i I FK E5 I (Hrd 1 I) I I) (Lm I (Lq I (e7 I Ht E5 (by decide) I I) (Nk (CB 20 I (λh2=>?_) (λh2=>?_)))))))))))))))))
  .simp only[show FC.enc.sz=11 from rfl] at h2
   have hik:i=k:=by omega
   rw[lz (show ¬k<i by omega)]
   refine Ah I (Do8 (rg 10) 39366 _ I St.drawn Ih (Md 2 I (Dfa Db I sizeOf89 I (Dq I (Al I isAgg89 I (Hat 0 I) I) (Md 2 I (Dfa EG I Z3 I (Dq I (AI k 1 I G3 I I (Hrd 1 I) hfk I) (Dm I (AX (d_t I (NM f.blk (i:Int) I I U89 Ky I I I (AL (Aw (Kt (Cr I (Lq I (Qi I) (Lm I (AB (Pm [0,2,2] I (Pm [3,3] I ?_))))))))))))))))))))
   exact AE (i+1) (by omega) (by omega) (Si I) (λ_ h=>by rw[lu (show k<i+1 by omega)]; subst hik; exact h)
  .simp only[show FC.enc.sz=11 from rfl] at h2
   have hkk:(k<i+1)=(k<i):=propext (by omega)
   refine Aa I (Ae (Aw (Kt (Cr I (Lq I (Qi I) (Lm I (AB ?_)))))))
   exact AE (i+1) (by omega) (by omega) (Si I) (λ_ h=>by simpa only[hkk] using h)
 .have hki:k<i:=by omega
  rw[lu hki]
  exact Aa I (AO (Ab (Ab (Am (Bp (BB I (λ_ h=>⟨(),rfl,T0,h⟩)))))))
def ndE:Nd:=⟨true,[],[],[],[]⟩
theorem UK {X m Y:List Value} {k:Nat} (h:k+us.length<=m.length):Sep.splice (X++(m++Y)) (X.length+k) us=X++(Sep.splice m k us++Y):=by
 rw[Sep.splice_eq _ _ _ (by simp<;>omega),Sep.splice_eq _ _ _ h,nL,nX (by omega),mq,nM,nY (by omega)]
 simp[mj]
section
variable {P:Program} {n:Nat} {L:Env} {X:World->Prop} {o:Oper} {Q:Exit->Act->World->Prop} {K:Act->World->Prop} {w0:World} {D:List Nat} {H:List Ent}
theorem F5 {E:Enc α} {l:List α} {t e:TypeId} (j k:Nat) (c:α) {a:α} {us:List Value} (ho:o.op=.store t x y) (hd:o.dst=none) (hs:∀w,(sizeOf t).run P w=.ok sz w) (hx:ev L x=some (.pointer (some ⟨blk v,off,none⟩))) (hoff:off=Fi v+j*E.sz+k) (hy:ev L y=some (.agg us.toArray))
 (ha:l[j]?=some a) (hus:us.length=sz) (hk:k+sz<=E.sz) (hv:∀v∈us,v.oneCell'=true) (hc:Sep.splice (E.f a) k us=E.f c) (h:Pre n L (St w0 D (AA v e E (l.set j c)::H)) K):EOp P n L (St w0 D (AA v e E l::H)) o Q K :=
 EOp.skip _ hd (λac w kn hX=>by
  have hj:=(lR.1 ha).1
  obtain⟨b,cap,pre,post,rfl,hlc,hp,h1⟩:=Gn hX (by omega)
  have hlen:=E.kB l
  have hmul:(j+1)*E.sz<=l.length*E.sz:=lW _ (by omega)
  rw[lF,lX] at hmul
  have hfit:off+0+us.length<=(pre++E.flat l++post).length:=by subst hoff; simp only[Fi,lp,hlen]; omega
  obtain⟨w',hr,h'⟩:=B6 (P:=P) (off:=off) us _ 0 h1 hfit hv
  have I8:Sep.splice (pre++E.flat l++post) (off+0) us=pre++E.flat (l.set j c)++post:=by
   subst hoff
   simp only[Fi,nB]
   have e0:l=l.take j++(a::l.drop (j+1)):=by
    have:=lR.1 ha
    rw[<-this.2]; simp
   have e1:l.set j c=l.take j++(c::l.drop (j+1)):=by
    rw[nV]; simp[hj]
   have hX:(pre++E.flat (l.take j)).length=pre.length+j*E.sz:=by
    rw[lp,E.kB,k9,mE (by omega)]
   have f0:pre++E.flat l++post=(pre++E.flat (l.take j))++(E.f a++(E.flat (l.drop (j+1))++post)):=by
    conv=>lhs; rw[e0]
    rw[E.kL,E.kM]; simp[mj]
   have f1:pre++E.flat (l.set j c)++post=(pre++E.flat (l.take j))++(E.f c++(E.flat (l.drop (j+1))++post)):=by
    rw[e1,E.kL,E.kM]; simp[mj]
   rw[f0,f1,<-hX,UK (by rw[E.len]; omega),hc]
  rw[I8] at h'
  refine⟨w',by simp[execOp,ho,kn.eval hx,kn.eval hy,Instr.storeAt,Instr.sureAddr,storeVar,hs,Value.cells,hus,blk]; simp[hr],?_⟩
  have:=CW (cap:=cap) h' (by omega) (by simpa using hlc) (by simpa using hp)
  simpa using this) h
end
theorem KK (h:M.frI b 2=none):M.unpin b=(false,M):=by unfold Mo.unpin Mo.ready; rw[h]
theorem KL (h:M.frI b 2=some i) (hp:(M.at' i).pins=0):M.unpin b=(false,M):=by unfold Mo.unpin Mo.ready; rw[h]; simp only; rw[lu hp]
theorem KM (h:M.frI b 2=some i) (hp:¬(M.at' i).pins=0):M.unpin b=(true,M.put i {M.at' i with pins:=(M.at' i).pins-1}):=by unfold Mo.unpin Mo.ready; rw[h]; simp only; rw[lz hp]
theorem Pn (nd:Nd) (h:M.frI b 2=none):M.setN b nd=(false,M):=by unfold Mo.setN Mo.ready; rw[h]
theorem Po (nd:Nd) (h:M.frI b 2=some i):M.setN b nd=(true,M.put i {M.at' i with dirty:=true,nd:=nd}):=by unfold Mo.setN Mo.ready; rw[h]
theorem MG (nd:Nd) (h:M.frI b 1=none):M.fill b nd=(([],false),M):=by unfold Mo.fill; rw[h]
theorem MH (nd:Nd) (h:M.frI b 1=some i):M.fill b nd=((M.told b,true),{M.put i {M.at' i with st:=2,nd:=nd} with loads:=M.loads.filter (λq=>!decide (q.2=b))}):=by unfold Mo.fill; rw[h]
theorem MI (f:FC) (nv:NV):Sep.splice f.c 6 nv.c=({f with nv:=nv}:FC).c:=rfl
theorem Rel.put_same (h:Rel S M) {i:Nat} {f f':FC} {y':Vw} (hf:S.fl[i]?=some f) (hv:vw f'=y') (hb:f'.blk=f.blk) (hs:(f'.st=1\/f'.st=2)↔(f.st=1\/f.st=2)):Rel {S with fl:=S.fl.set i f'} (M.put i y') :=
 h.put hv S.at' (λb=>by rw[UJ (h.vw_at hf) (by rw[<-hv]; exact hb) (by rw[<-hv]; exact hs)]; exact h.at' b) h.na
theorem Pp (b c:Int):(((M.loads.filter (λq=>!decide (q.2=b))).filter (λq=>decide (q.2=c))).map Prod.fst)=if c=b then [] else M.told c:=by
 unfold Mo.told
 rw[List.filter_filter]
 split
 .rename_i e; subst e
  have:(λq:Int×Int=>decide (q.2=c)&&!decide (q.2=c))=λ_=>false:=by funext q; cases decide (q.2=c)<;>rfl
  rw[this]; simp
 .rename_i e
  congr 1
  refine List.filter_congr (λq _=>?_)
  by_cases h:q.2=c
  .rw[od h,oc (λe'=>e (by rw[<-h,e']))]; rfl
  .rw[oc h]; rfl
theorem MJ (a:Int):∀l:List (Int×β),((BP a l).map Prod.fst).Sublist (l.map Prod.fst)
 |[]=>oW _
 |(x,y)::l=>by
  simp only[BP]
  split
  .exact (nE _ _)
  .exact (MJ a l).cons_cons x
theorem Hf:∀{l:List (Int×β)},(l.map Prod.fst).Nodup->Co a (BP a l)=none
 |[],_=>rfl
 |(x,y)::l,hn=>by
  obtain⟨h1,h2⟩:=nH.1 hn
  simp only[BP]
  by_cases e:a=x
  .subst e
   rw[lu rfl]
   cases hm:Co a l with
   |none=>rfl
   |some z=>exact absurd (lP.2 ⟨_,KB hm,rfl⟩) h1
  .rw[lz e]; simp only[Co,lz e]; exact Hf h2
theorem I1 {y:β}:∀{l:List (Int×β)},Co a l=some y->∃j,l[j]?=some (a,y)/\BP a l=l.eraseIdx j/\∀z,mput a z l=l.set j (a,z)
 |[],h=>by cases h
 |(x,z)::l,h=>by
  simp only[Co] at h
  split at h
  .rename_i e; cases h; subst e; exact⟨0,rfl,by simp[BP],λz=>by simp[mput]⟩
  .rename_i e
   obtain⟨j,h1,h2,h3⟩:=I1 h
   exact⟨j+1,by simpa using h1,by simp[BP,e,h2],λz=>by simp[mput,e,h3]⟩
theorem NT:∀{l:List (Int×β)},Co a l=none->BP a l=l/\∀z,mput a z l=l++[(a,z)]
 |[],_=>⟨rfl,λ_=>rfl⟩
 |(x,y)::l,h=>by
  simp only[Co] at h
  split at h
  .cases h
  .rename_i e
   obtain⟨h1,h2⟩:=NT h
   exact⟨by simp[BP,e,h1],λz=>by simp[mput,e,h2]⟩
abbrev Ro (q:Int×(Sv×List Int)):Ent:=AA q.2.1.v 3 (AH .i64) q.2.2
theorem Rel.fill (h:Rel S M) {i:Nat} {f f':FC} {y':Vw} (b:Int) (hf:S.fl[i]?=some f) (hv:vw f'=y') (hb:f'.blk=f.blk) (hs:(f'.st=1\/f'.st=2)↔(f.st=1\/f.st=2)):Rel {S with fl:=S.fl.set i f',ld:=BP b S.ld} {M.put i y' with loads:=M.loads.filter (λq=>!decide (q.2=b))}:=by
 have h1:=h.put_same hf hv hb hs
 refine⟨h1.fr,h1.ln,h1.hd,h1.at',λc=>?_,h.nd.sublist (MJ b S.ld),h.na⟩
 show ((M.loads.filter (λq=>!decide (q.2=b))).filter (λq=>decide (q.2=c))).map Prod.fst=_
 rw[Pp]
 by_cases e:c=b
 .subst e; rw[lu rfl]; show []=match Co c (BP c S.ld) with|some q=>q.2|none=>[]
  rw[Hf h.nd]
 .rw[lz e]; show _=match Co c (BP b S.ld) with|some q=>q.2|none=>[]
  rw[Mu (λe'=>e e'.symm)]; exact h.ld c
theorem S5 {q:Int×(Sv×List Int)} (h:S.ld[j]?=some q):S.rows[j]?=some (Ro q):=by unfold CS.rows; rw[lS,h]; rfl
theorem Rp (S:CS) (j:Nat):S.rows.eraseIdx j=(S.ld.eraseIdx j).map Ro:=(DG _ _ _).symm
theorem WK (S:CS) (j:Nat) (q:Int×(Sv×List Int)):S.rows.set j (Ro q)=(S.ld.set j q).map Ro:=m4.symm
theorem WL (S:CS):S.rows.length=S.ld.length:=mB ..
theorem S6 {f:FC} (h:f.st=1) {nv:NV}:vw {f with st:=2,nv:=nv}={vw f with st:=2,nd:=nv.d}:=by unfold vw; simp[h]
theorem Rq (hR:Rel S M) (hO:M.Ok B) (b:Int):Con prog 177 [pV bc,.int .i64 b] Tr (S.H bc) (λS':CS=>.bool (M.unpin b).1) (λS'=>Rel S' (M.unpin b).2/\∀G,NIn G S.fl->NIn G S'.fl) (λS'=>S'.H bc):=by
 intro w hE hH
 refine enter (n:=25) (vs:=[pV bc,.int .i64 b]) (St w (dom (S.H bc)) (CS.H bc (S))) func177 I I I (St.init hH) ?_
 refine Cs I (Ak I (Cs I (Mv 2 I (l_e I (E1 (E8 hR hO b 2) I call165 (λ_ h=>CR.ofm (S:=S) h (λe he=>he)) (λ_ _=>Ak I (Af (Af (B5 (M.frI b 2) (λhf=>?_) (λi hf=>?_))))))))))
 .have hu:=KK hf
  exact Sv' 5 (.pointer none) I (by rw[hf]; rfl) (Cr I (Lm I (Lq I (DS I Ht I I) (Lm I (Sb 11 true I (I) (Mv 6 I (Nk (Ah I (Cs I (Ak I (Ag (Ac (Ao I I (λ_ h=>⟨S,by rw[hu],⟨by rw[hu]; exact hR,λ_ h=>h⟩,h⟩))))))))))))))
 .obtain⟨hf1,hst⟩:=HJ hf
  obtain⟨y,hy,hyb,hys,hya⟩:=Et hf1
  obtain⟨f,hfi,hfy⟩:=hR.get hy
  have hlt:=(lR.1 hfi).1
  rw[hya,<-hfy] at hst
  rw[<-hfy] at hya hys hyb hy
  refine Sv' 5 (fp S.vF i) I (by rw[hf]; rfl) (Cr I (Lm I (Lq I (DS I Ht I I) (Lm I (Sb 11 false I (I) (Mv 2 I (Lfa EG I Z3 I (Lq I (AI i 3 I G3 I I (Hrd 1 I) hfi I) (Mv 2 I (Nk (CB 17 I (λhp=>?_) (λhp=>?_))))))))))))
  .have hu:=KL hf (by rw[hya]; exact hp)
   exact Ah I (Cs I (Ak I (Ag (Ac (Ao I I (λ_ h=>⟨S,by rw[hu],⟨by rw[hu]; exact hR,λ_ h=>h⟩,h⟩))))))
  .have hu:=KM hf (by rw[hya]; exact hp)
   rw[hya] at hu
   have hpb:=hO.pins _ (mQ hy)
   have hpb1:0<=f.pins:=hpb.1
   have hpb2:f.pins<=(B:Int):=hpb.2
   have hB9:=hO.B9
   exact Aa I (Ae (Kt (Cs I (Mv 2 I (Lfa EG I Z3 I (Lq I (AI i 3 I G3 I I (Hrd 1 I) hfi I) (Lq I (CM I I I) (Lc I (Lfa EG I Z3 I (AM (l_e I (Ct i 3 (({f with pins:=f.pins-1}:FC)) I I Z3 I I I hfi (by decide) I (Nk (Cs I (Ak I (Ag (Pm [1] I (Ao I I (λ_ h=>⟨{S with fl:=S.fl.set i {f with pins:=f.pins-1}},by rw[hu],⟨by rw[hu]; exact hR.put_same hfi I I Iff.rfl,λ_ hG=>hG.set_same hfi rfl⟩,h⟩)))))))))))))))))))
theorem WM (hR:Rel S M) (hO:M.Ok B) (b:Int) (nv:NV) (hn:nv.d.Sm 65536):Con prog 261 [pV bc,.int .i64 b,.agg nv.c.toArray] Tr (Bz nv++S.H bc) (λr:CS×NV=>.bool (M.setN b nv.d).1) (λr=>Rel r.1 (M.setN b nv.d).2/\∀G,(∀e∈Bz r.2,e∈G)->NIn G S.fl->NIn G r.1.fl) (λr=>Bz r.2++Bz nv++r.1.H bc):=by
 intro w hE hH
 refine enter (n:=21) (vs:=[pV bc,.int .i64 b,.agg nv.c.toArray]) (St w (dom (Bv nv.s.e nv.d.es::BY nv.s.k nv.d.kids::CF nv.s.p nv.d.piv::EN nv.s.m nv.d.msgs::S.H bc)) (Bv nv.s.e nv.d.es::BY nv.s.k nv.d.kids::CF nv.s.p nv.d.piv::EN nv.s.m nv.d.msgs::CS.H bc (S))) func261 I I I (St.init hH) ?_
 refine Cs I (l_e I (AT I I I I (λbn=>Ce nv.c I (Ak I (Cs I (Mv 2 I (l_e I (E1 (E8 hR hO b 2) I call165 (λ_ h=>CR.ofm (S:=S) h (λe he=>nG _ (nG _ (nG _ (nG _ (nG _ (he))))))) (λ_ _=>Ak I (Af (Af (B5 (M.frI b 2) (λhf=>?_) (λi hf=>?_)))))))))))))
 .have hu:=Pn nv.d hf
  exact Sv' 7 (.pointer none) I (by rw[hf]; rfl) (Cr I (Lm I (Lq I (DS I Ht I I) (Nk (Sb 12 true I (I) (Ah I (Cs I (Ak I (Ag (Ac (Av (row0 154 Ms.enc none (row0 77 (Kv.enc 8) none (row0 3 (AH .i64) none (row0 79 En.enc none (Ao I I (λ_ h=>⟨(S,⟨n40,ndE⟩),by rw[hu],⟨by rw[hu]; exact hR,λ_ _ h=>h⟩,h⟩)))))))))))))))))
 .obtain⟨hf1,hst⟩:=HJ hf
  obtain⟨y,hy,hyb,hys,hya⟩:=Et hf1
  obtain⟨f,hfi,hfy⟩:=hR.get hy
  have hlt:=(lR.1 hfi).1
  rw[hya,<-hfy] at hst
  rw[<-hfy] at hya hys hyb hy
  refine Sv' 7 (fp S.vF i) I (by rw[hf]; rfl) (Cr I (Lm I (Lq I (DS I Ht I I) (Nk (Sb 12 false I (I) (Aa I (Ae (Kt (Cs I (Mv 2 I (Lq I (Cq (nv.c) Bx AU 0 I (I) (I)) ?_)))))))))))
  have hu:=Po nv.d hf
  rw[hya] at hu
  refine l_e I (EW (Gz nv hn) I I I call155 I (λ_ h=>⟨h.rd 1 rfl,h.rd 2 rfl,h.rd 3 rfl,h.rd 4 rfl⟩) (λs _=>Lc I (Lfa EG I AU I (HH (l_e I (F5 i 6 ({f with nv:=(⟨s,nv.d⟩:NV)}:FC) I I AU I I I hfi I (by decide) (NV.one _) (MI _ _) (Lc I (Lfa EG I Z4 I ?_))))))))
  have hf2:(S.fl.set i ({f with nv:=(⟨s,nv.d⟩:NV)}:FC))[i]?=some ({f with nv:=(⟨s,nv.d⟩:NV)}:FC):=oU hlt
  exact l_e I (Ct i 5 (({f with nv:=(⟨s,nv.d⟩:NV),dirty:=true}:FC)) I I Z4 I I I hf2 (by decide) I (Nk (Cs I (Ak I (Ag (Bt (List.set_set ..) (EM (Av (Pm [1,1,1,1,1,1,1,1,1] I (Ao I I (λ_ h=>⟨({S with fl:=S.fl.set i ({f with nv:=(⟨s,nv.d⟩:NV),dirty:=true}:FC)},(⟨s,nv.d⟩:NV)),by rw[hu],⟨by rw[hu]; exact hR.put_same hfi I I Iff.rfl,λG hG1 hG=>hG.set (.of hG1)⟩,h⟩)))))))))))
theorem UL (hR:Rel S M) (hO:M.Ok B) (b:Int) (nv:NV) (hn:nv.d.Sm 65536):Con prog 133 [pV bc,.int .i64 b,.agg nv.c.toArray] Tr (Bz nv++S.H bc) (λr:CS×NV×Value=>.tuple #[r.2.2,.bool (M.fill b nv.d).1.2]) (λr=>Rel r.1 (M.fill b nv.d).2/\∀G,(∀e∈Bz r.2.1,e∈G)->NIn G S.fl->NIn G r.1.fl) (λr=>AA r.2.2 3 (AH .i64) (M.fill b nv.d).1.1::(Bz r.2.1++Bz nv++r.1.H bc)):=by
 intro w hE hH
 refine enter (n:=35) (vs:=[pV bc,.int .i64 b,.agg nv.c.toArray]) (St w (dom (Bv nv.s.e nv.d.es::BY nv.s.k nv.d.kids::CF nv.s.p nv.d.piv::EN nv.s.m nv.d.msgs::S.H bc)) (Bv nv.s.e nv.d.es::BY nv.s.k nv.d.kids::CF nv.s.p nv.d.piv::EN nv.s.m nv.d.msgs::CS.H bc (S))) func133 I I I (St.init hH) ?_
 refine Cs I (l_e I (AT I I I I (λbn=>Ce nv.c I (Las I (Ak I (Cs I (Mv 2 I (l_e I (E1 (E8 hR hO b 1) I call165 (λ_ h=>CR.ofm (S:=S) h (λe he=>nG _ (nG _ (nG _ (nG _ (nG _ (he))))))) (λ_ _=>Ak I (Af (Af (B5 (M.frI b 1) (λhf=>?_) (λi hf=>?_))))))))))))))
 .have hu:=MG nv.d hf
  exact Sv' 8 (.pointer none) I (by rw[hf]; rfl) (Cr I (Lm I (Lq I (DS I Ht I I) (Nk (Sb 14 true I (I) (Ah I (Cs I (Las I (Ak I (Ag (Ac (Av (row0 154 Ms.enc none (row0 77 (Kv.enc 8) none (row0 3 (AH .i64) none (row0 79 En.enc none (row0 3 (AH .i64) none (Bg (rs:=[.tmp 6,.tmp 7]) I I (λ_ h=>⟨(S,⟨n40,ndE⟩,Cb),by rw[hu],⟨by rw[hu]; exact hR,λ_ _ h=>h⟩,by rw[hu]; exact h⟩)))))))))))))))))))
 .obtain⟨hf1,hst⟩:=HJ hf
  obtain⟨y,hy,hyb,hys,hya⟩:=Et hf1
  obtain⟨f,hfi,hfy⟩:=hR.get hy
  have hlt:=(lR.1 hfi).1
  rw[hya,<-hfy] at hst
  rw[<-hfy] at hya hys hyb hy
  refine Sv' 8 (fp S.vF i) I (by rw[hf]; rfl) (Cr I (Lm I (Lq I (DS I Ht I I) (Nk (Sb 14 false I (I) (Aa I (Ae (Kt (Cs I (Mv 2 I (Lq I (Cq (nv.c) Bx AU 0 I (I) (I)) ?_)))))))))))
  have hu:=MH nv.d hf
  rw[hya] at hu
  refine l_e I (EW (Gz nv hn) I I I call155 I (λ_ h=>⟨h.rd 1 rfl,h.rd 2 rfl,h.rd 3 rfl,h.rd 4 rfl⟩) (λs _=>Lc I (Lfa EG I Z3 I (HH (l_e I (Ct i 0 (({f with st:=2}:FC)) I I Z3 I I I hfi (by decide) I (Lc I (Lfa EG I AU I ?_))))))))
  have hf2:(S.fl.set i ({f with st:=2}:FC))[i]?=some ({f with st:=2}:FC):=oU hlt
  refine l_e I (F5 i 6 ({f with st:=2,nv:=(⟨s,nv.d⟩:NV)}:FC) I I AU I I I hf2 I (by decide) (NV.one _) (MI _ _) (Nk (Cs I (Mv 2 I (Lfa Db I Ul I (Lo isAgg254 10 I (Lm I (Lq I (Mw (kf:=kI) (vf:=vS) b I Q9 Ky zeroValue22 I I (Hat 12 I)) (Ak I (Af (Bt (List.set_set ..) (B5 (Co b S.ld) (λhm=>?_) (λq hm=>?_)))))))))))))
  .obtain⟨hde,_⟩:=NT hm
   have ht:M.told b=[]:=by have:=hR.ld b; rw[hm] at this; exact this
   refine Sv' 9 (Cb) I (by rw[hm]) (Cr I (Mv 2 I (Lfa Db I Ul I (Lo isAgg254 10 I (Lm I (IV (l_e I (IS b I I Q9 Ky I I (Nk (Cs I (Mv 2 I (Ak I (Ag (Ed (Av (Pm [9,9,1,8,0,7] I (Pm [6,6,6,6,6,6,6] I ?_)))))))))))))))))
   have e1:(M.fill b nv.d).1.1=[]:=by rw[hu]; exact ht
   have e2:({S with fl:=S.fl.set i ({f with st:=2,nv:=(⟨s,nv.d⟩:NV)}:FC),ld:=BP b S.ld}:CS).rows=S.rows:=by unfold CS.rows; show List.map _ (BP b S.ld)=_; rw[hde]
   refine row0 3 (AH .i64) none (Bg (rs:=[.tmp 6,.tmp 7]) I I ?_)
   exact λ_ h=>⟨(({S with fl:=S.fl.set i ({f with st:=2,nv:=(⟨s,nv.d⟩:NV)}:FC),ld:=BP b S.ld}:CS),(⟨s,nv.d⟩:NV),Cb),by rw[hu],⟨by rw[hu]; exact hR.fill b hfi (S6 hst) I ⟨λ_=>.inl hst,λ_=>.inr rfl⟩,λG hG1 hG=>hG.set (.of hG1)⟩,by
    rw[e1]
    have h2:=h
    rw[<-e2] at h2; exact h2⟩
  .obtain⟨j,hj,hde,_⟩:=I1 hm
   have ht:M.told b=q.2:=by have:=hR.ld b; rw[hm] at this; exact this
   have hrj:=S5 hj
   refine Sv' 9 (q.1.v) I (by rw[hm]) (Cr I (Mv 2 I (Lfa Db I Ul I (Lo isAgg254 10 I (Lm I (IV (l_e I (IS b I I Q9 Ky I I (Nk (Cs I (Mv 2 I (Ak I (Ag (Ed (Av (Pm [9,9,1,8,0,7] I (Pm [6,6,6,6,6,6,6] I ?_)))))))))))))))))
   have e1:(M.fill b nv.d).1.1=q.2:=by rw[hu]; exact ht
   have e2:({S with fl:=S.fl.set i ({f with st:=2,nv:=(⟨s,nv.d⟩:NV)}:FC),ld:=BP b S.ld}:CS).rows=S.rows.eraseIdx j:=by rw[Rp,<-hde]; rfl
   refine Bg (rs:=[.tmp 6,.tmp 7]) I I ?_
   exact λ_ h=>⟨(({S with fl:=S.fl.set i ({f with st:=2,nv:=(⟨s,nv.d⟩:NV)}:FC),ld:=BP b S.ld}:CS),(⟨s,nv.d⟩:NV),q.1.v),by rw[hu],⟨by rw[hu]; exact hR.fill b hfi (S6 hst) I ⟨λ_=>.inl hst,λ_=>.inr rfl⟩,λG hG1 hG=>hG.set (.of hG1)⟩,by
    rw[e1]
    have h2:=St.pullT (pre:=[_,_,_,_,_,_,_,_,_,_,_,_,_]) (T:=S.rows) hrj h
    rw[<-e2] at h2; exact h2⟩
section
variable {P:Program} {n:Nat} {L:Env} {o:Oper} {Q:Exit->Act->World->Prop} {K:Act->World->Prop} {w0:World} {D:List Nat}
theorem Ig {v:β->Value} {p:β->Prop} {E:World->Prop} {HA:List Ent} {HB:β->List Ent} (pre:List Ent) (s:Con P f vs E HA v p HB) (ho:o.op=.call ⟨.value (.func f),xs.toArray,ts⟩) (hd:o.dst=some d) (hn:d.blt n)
 (hc:∀us w,(callFunc f us).run P w=.ok (.enter f us) w) (hv:evs L xs=some vs) (hE:∀w,St w0 D (pre++HA) w->E w) (h:∀b,p b->Pre n ((d,v b)::L) (St w0 D (pre++HB b)) K):EOp P n L (St w0 D (pre++HA)) o Q K :=
 DO ho hd hn hc hv (λw x=>(s.frame (F:=pre) (x.perm og) (hE w x)).mono (λe w' ⟨b,he,hp,h'⟩=>⟨b,he,hp,h'.perm og⟩)) h
end
theorem Fu {B:Nat} (h:M.Ok B) {i:Nat} {y y':Vw} (hy:M.fr[i]?=some y) (hs:y'.st=y.st) (hb:y'.blk=y.blk) (ho:y'.own=y.own) (hp:0<=y'.pins/\y'.pins<=(B:Int)) (he:y'.nd.Sm 1000):(M.put i y').Ok B:=by
 have hm:=mQ hy
 refine KJ h hy (by rw[hs]; exact h.st y hm) (by rw[hs,hb]; exact h.none' y hm) (by rw[hs,hb]; exact h.blk y hm) (by rw[hs,ho]; exact h.own y hm) (by rw[hs,ho]; exact h.own0 y hm) hp (λh1 j z hj hz h2 e=>?_) (λq _ h1 h2=>⟨by rw[hs]; exact h1,by rw[hb]; exact h2⟩) he
 rw[hs] at h1
 exact hj (h.uni j i z y hz hy h2 h1 (by rw[e,hb]))
theorem Rel.new (h:Rel S M) {k:Nat} {y y':Vw} {f':FC} {b:Int} (hy:M.fr[k]?=some y) (hf:¬(y.st=1\/y.st=2)) (hn:M.find b=none) (hv:vw f'=y') (hb:f'.blk=b) (hs:f'.st=1\/f'.st=2):Rel {S with fl:=S.fl.set k f',at':=mput b (k:Int) S.at'} (M.put k y') :=
 h.put hv _ (λc=>by
  rw[an hy hf hn (by rw[<-hv]; exact hb) (by rw[<-hv]; exact hs)]
  by_cases e:c=b
  .subst e; rw[lu rfl,Km]; rfl
  .rw[lz e,IQ (λe'=>e e'.symm)]; exact h.at' c) (GX b _ h.na)
theorem Rr (h:(bkB b&&M.mayW t b)=false):M.pin t b=(0,M):=by unfold Mo.pin; rw[lu h]
theorem WN {y:Vw} (h:(bkB b&&M.mayW t b)) (hf:M.find b=some i) (hy:M.at' i=y):M.pin t b=if y.st=2 then (1,(M.put i {y with pins:=y.pins+1,ref:=true}).leave t) else (2,{(M.put i {y with pins:=y.pins+1,ref:=true}).leave t with loads:=M.loads++[(t,b)]}):=by
 subst hy
 unfold Mo.pin; rw[lz (by rw[h]; decide),hf]; rfl
theorem MK (h:(bkB b&&M.mayW t b)) (hf:M.find b=none) (hk:M.takes t=none):M.pin t b=(4,M.ask t b):=by unfold Mo.pin; rw[lz (by rw[h]; decide),hf]; simp only; rw[hk]
theorem Pq {k:Nat} (h:(bkB b&&M.mayW t b)) (hf:M.find b=none) (hk:M.takes t=some k):M.pin t b=(3,(M.leave t).put k ⟨1,b,0,1,true,false,nd0⟩):=by unfold Mo.pin; rw[lz (by rw[h]; decide),hf]; simp only; rw[hk]
theorem Pr (h:M.mayW t (-1)=false):M.claim t=(false,M):=by unfold Mo.claim; rw[lu h]
theorem Jz (h:M.mayW t (-1)) (hk:M.takes t=none):M.claim t=(false,M.ask t (-1)):=by unfold Mo.claim; rw[lz (by rw[h]; decide),hk]
theorem KN {k:Nat} (h:M.mayW t (-1)) (hk:M.takes t=some k):M.claim t=(true,(M.leave t).put k ⟨3,-1,t,1,false,false,nd0⟩):=by unfold Mo.claim; rw[lz (by rw[h]; decide),hk]
theorem WO (c:Int):((M.loads++[(t,b)]).filter (λq=>decide (q.2=c))).map Prod.fst=if c=b then M.told c++[t] else M.told c:=by
 rw[oM,mn]
 unfold Mo.told
 by_cases e:c=b
 .subst e; rw[lu rfl]; simp
 .rw[lz e]; simp[oX,nj e]
theorem Rel.wait (h:Rel S M) (t b:Int) (sv:Sv) (l:List Int) (hl:l=M.told b++[t]):Rel {S with ld:=mput b (sv,l) S.ld} {M with loads:=M.loads++[(t,b)]}:=by
 refine⟨h.fr,h.ln,h.hd,h.at',λc=>?_,GX b _ h.nd,h.na⟩
 .show ((M.loads++[(t,b)]).filter (λq=>decide (q.2=c))).map Prod.fst=match Co c (mput b (sv,l) S.ld) with|some q=>q.2|none=>[]
  rw[WO]
  by_cases e:c=b
  .subst e; rw[lu rfl,Km]; exact hl.symm
  .rw[lz e,IQ (λe'=>e e'.symm)]; exact h.ld c
theorem WQ (h:bkB b) (t:Int):wn (t,b)=⟨t,b,false⟩:=by
 unfold bkB at h
 simp only[mz,mS] at h
 unfold wn
 simp only[Wn.mk.injEq,true_and]
 exact oc (by omega)
theorem WR (hR:Rel S M) (hO:M.Ok B) (hB:B+1<=60000) (t b:Int) (hb64:i64 b):Con prog 174 [pV bc,.int .i64 t,.int .i64 b] Tr (S.H bc) (λS':CS=>.int .i64 (M.pin t b).1) (λS'=>Rel S' (M.pin t b).2/\∀G,NIn G S.fl->NIn G S'.fl) (λS'=>S'.H bc):=by
 intro w hE hH
 refine enter (n:=84) (vs:=[pV bc,.int .i64 t,.int .i64 b]) (St w (dom (S.H bc)) (CS.H bc (S))) func174 I I I (St.init hH) ?_
 refine Cs I (Ak I (Cs I (Mv 2 I (Lq I (AP ((⟨t,b,false⟩:Wn).c) I I (λw=>by kernel_rfl)) (l_e I (Au I I I zeroValue277 (λbw=>Ce (⟨0,0,false⟩:Wn).c I (l_e I (SW ER I (Wn.one _) (Ns (Cs I (Lm I (l_e I (E1 (block_spec b) I call241 Tt (λ_ _=>Lq I (Qt I) (Lm I (CB 17 I (λhb=>?_) (λhb=>?_))))))))))))))))))
 .have hu:=Rr (M:=M) (t:=t) (b:=b) (by rw[hb]; rfl)
  exact Mv 5 I (Nk (Ah I (Cs I (Ak I (Ag (Ac (Av (Ao I I (λ_ h=>⟨S,by rw[hu],⟨by rw[hu]; exact hR,λ_ h=>h⟩,h⟩)))))))))
 .have hwn:=WQ hb t
  refine Lm I (Lq I (Cq ((⟨t,b,false⟩:Wn).c) Ny ER 0 I (I) (I)) (Sv' 19 (.agg (wn (t,b)).c.toArray) I (by rw[hwn]) (l_e I (E1 (may_spec hR hO t b hb64) I call242 (λ_ h=>CR.ofm (S:=S) h (λe he=>nG _ (he))) (λ_ _=>Lq I (Qt I) (Lq I (Qz I) (Nk (CB 22 I (λhm=>?_) (λhm=>?_)))))))))
  .have hu:=Rr (M:=M) (t:=t) (b:=b) (by rw[hb,hm]; rfl)
   exact Ah I (Cs I (Ak I (Ag (Ac (Av (Ao I I (λ_ h=>⟨S,by rw[hu],⟨by rw[hu]; exact hR,λ_ h=>h⟩,h⟩)))))))
  .have hbm:(bkB b&&M.mayW t b)=true:=by rw[hb,hm]; rfl
   refine Aa I (Ae (Ks (Cs I (Mv 2 I (l_e I (E1 (Ej hR hO b) I call194 (λ_ h=>CR.ofm (S:=S) h (λe he=>nG _ (he))) (λ_ _=>Ak I (Af (B5 (M.find b) (λhf=>?_) (λi hf=>?_))))))))))
   .refine Sv' 8 (.int .i64 (-1)) I (by rw[hf]; rfl) (Cr I (Mv 2 I (Nk (Sb 27 false I (I) (Aa I (Ae (Kt (Cs I (Mv 2 I (l_e I (E1 (free_spec hR hO t) I call244 (λ_ h=>CR.ofm (S:=S) h (λe he=>nG _ (he))) (λ_ _=>Ak I (Af (Af (B5 (M.takes t) (λhk=>?_) (λk hk=>?_))))))))))))))))
    .have hu:=MK hbm hf hk
     refine Sv' 10 (.pointer none) I (by rw[hk]; rfl) (Cr I (Lm I (Lq I (DS I Ht I I) (Nk (Sb 70 true I (I) (Ah I (Cs I (Lm I (Lq I (Cq ((⟨t,b,false⟩:Wn).c) Ny ER 0 I (I) (I)) (Sv' 72 (.agg (wn (t,b)).c.toArray) I (by rw[hwn]) (l_e I (Ee [_] (Pk hR hO t b) I call245 Tt (λv _=>Pw (St _ _ (_::CS.H bc (({S with vL:=v,ln:=(M.ask t b).line.map wn}:CS)))) ?_)))))))))))))
     exact Nk (Cs I (Ak I (Ag (Ac (Av (Ao I I (λ_ h=>⟨({S with vL:=v,ln:=(M.ask t b).line.map wn}:CS),by rw[hu],⟨by rw[hu]; exact hR.line v _,λ_ h=>h⟩,h⟩)))))))
    .have hu:=Pq hbm hf hk
     obtain⟨y0,hy0,hys,hya⟩:=Ie hk
     obtain⟨f0,hfk,hfy⟩:=hR.get hy0
     have hkl:=(lR.1 hfk).1
     refine Sv' 10 (fp S.vF k) I (by rw[hk]; rfl) (Cr I (Lm I (Lq I (DS I Ht I I) (Nk (Sb 70 false I (I) (Aa I (Ae (Kt (Cs I (Mv 2 I (l_e I (Ee [_] (HK hR hO t) I call243 Tt (λv _=>Pw (St _ _ (_::CS.H bc (({S with vL:=v,ln:=(M.leave t).line.map wn}:CS)))) (Nk (Cs I (Mv 2 I (Lq I (AP ((⟨1,b,-1,1,true,false,nv0⟩:FC).c) I I (λw=>by kernel_rfl)) (Lc I (AX (l_e I (Ex k ((⟨1,b,-1,1,true,false,nv0⟩:FC)) I I E5 I I I I (by omega) (Nk (Cs I (Mv 2 I (Pm [1,1] I ?_)))))))))))))))))))))))))
     have hfk2:({S with vL:=v,ln:=(M.leave t).line.map wn,fl:=S.fl.set k (⟨1,b,-1,1,true,false,nv0⟩:FC)}:CS).fl[k]?=some (⟨1,b,-1,1,true,false,nv0⟩:FC):=oU hkl
     have hf64:({S with vL:=v,ln:=(M.leave t).line.map wn,fl:=S.fl.set k (⟨1,b,-1,1,true,false,nv0⟩:FC)}:CS).fl.length<=65536:=by
      show (S.fl.set k _).length<=_
      rw[nU,hR.len]; have:=hO.n64; omega
     refine Pw (St _ _ (_::CS.H bc ({S with vL:=v,ln:=(M.leave t).line.map wn,fl:=S.fl.set k (⟨1,b,-1,1,true,false,nv0⟩:FC)}:CS))) ?_
     refine l_e I (Ee [_] (Jy (S:=({S with vL:=v,ln:=(M.leave t).line.map wn,fl:=S.fl.set k (⟨1,b,-1,1,true,false,nv0⟩:FC)}:CS)) hfk2 hf64) I call246 Tt (λ_ _=>Pw (St _ _ (_::CS.H bc (({S with vL:=v,ln:=(M.leave t).line.map wn,fl:=S.fl.set k (⟨1,b,-1,1,true,false,nv0⟩:FC),at':=mput b (k:Int) S.at'}:CS)))) ?_))
     exact Nk (Cs I (Ak I (Ag (Av (Ao I I (λ_ h=>⟨({S with vL:=v,ln:=(M.leave t).line.map wn,fl:=S.fl.set k (⟨1,b,-1,1,true,false,nv0⟩:FC),at':=mput b (k:Int) S.at'}:CS),by rw[hu],⟨by rw[hu]; exact (hR.line v (M.leave t).line).new (M:=M.leave t) hy0 (by rw[hys]; decide) hf I I (.inl I),λ_ hG=>hG.set (.zero _)⟩,h⟩))))))
   .obtain⟨y,hy,hyb,hys,hya⟩:=Et hf
    obtain⟨f,hfi,hfy⟩:=hR.get hy
    have hlt:=(lR.1 hfi).1
    rw[<-hfy] at hya hys hyb hy
    have hu:=WN hbm hf hya
    have hB9:=hO.B9
    have hpb:=hO.pins _ (mQ hy)
    have hpb1:0<=f.pins:=hpb.1
    have hpb2:f.pins<=(B:Int):=hpb.2
    refine Sv' 8 (.int .i64 (i:Int)) I (by rw[hf]; rfl) (Cr I (Mv 2 I (Nk (St' 27 I (by omega) (Ah I (Cs I (Mv 2 I (Lfa Db I Gg I (Lo G2 1 I (Lm I (Lq I (Ar i I FK E5 I (Hrd 2 I) I I) (Ak I (Cs I (Mv 2 I (Lfa EG I Z3 I (Lq I (AI i 3 I G3 I I (Hrd 2 I) hfi I) (Lq I (Bh I I I) (Lc I (Lfa EG I Z3 I (AX (l_e I (Ct i 3 (({f with pins:=f.pins+1}:FC)) I I Z3 I I I hfi (by decide) I (Nk (Cs I (Mv 2 I (Lfa EG I Z4 I ?_))))))))))))))))))))))))))
    have hf2:(S.fl.set i ({f with pins:=f.pins+1}:FC))[i]?=some ({f with pins:=f.pins+1}:FC):=oU hlt
    refine l_e I (Ct i 4 (({f with pins:=f.pins+1,ref:=true}:FC)) I I Z4 I I I hf2 (by decide) I (Ns (Bt (List.set_set ..) (Pm [1,1] I (Cr I (Mv 2 I ?_))))))
    have hR1:Rel ({S with fl:=S.fl.set i ({f with pins:=f.pins+1,ref:=true}:FC)}:CS) (M.put i {vw f with pins:=(vw f).pins+1,ref:=true}):=hR.put_same hfi rfl rfl Iff.rfl
    have hO1:Mo.Ok (M.put i {vw f with pins:=(vw f).pins+1,ref:=true}) (B+1):=Fu (y:=vw f) (y':={vw f with pins:=(vw f).pins+1,ref:=true}) (hO.mono (oS B) hB) hy rfl rfl rfl ⟨by show 0<=f.pins+1; omega,by show f.pins+1<=_; omega⟩ (hO.es (vw f) (mQ hy))
    refine Pw (St _ _ (_::CS.H bc ({S with fl:=S.fl.set i ({f with pins:=f.pins+1,ref:=true}:FC)}:CS))) ?_
    refine l_e I (Ee [_] (HK hR1 hO1 t) I call243 Tt (λv _=>Pw (St _ _ (_::CS.H bc (({S with vL:=v,ln:=(Mo.leave (M.put i {vw f with pins:=(vw f).pins+1,ref:=true}) t).line.map wn,fl:=S.fl.set i ({f with pins:=f.pins+1,ref:=true}:FC)}:CS)))) (Ns (Af ?_))))
    have hf3:(S.fl.set i ({f with pins:=f.pins+1,ref:=true}:FC))[i]?=some ({f with pins:=f.pins+1,ref:=true}:FC):=oU hlt
    refine Cr I (Mv 2 I (Lfa EG I Z3 I (Lq I (AI i 0 I G3 I I (Hrd 2 I) hf3 I) (Lq I (Qe I) (Nk (CB 51 I (λhs=>?_) (λhs=>?_)))))))
    .rw[lu (show (vw f).st=2 from hs)] at hu
     exact Ah I (Cs I (Ak I (Ag (Ac (Ac (Av (Ao I I (λ_ h=>⟨({S with vL:=v,ln:=(Mo.leave (M.put i {vw f with pins:=(vw f).pins+1,ref:=true}) t).line.map wn,fl:=S.fl.set i ({f with pins:=f.pins+1,ref:=true}:FC)}:CS),by rw[hu],⟨by rw[hu]; exact hR1.line v _,λ_ hG=>hG.set_same hfi rfl⟩,h⟩))))))))
    .rw[lz (show ¬(vw f).st=2 from hs)] at hu
     have hll:=hO.ll
     have hR2:Rel ({S with vL:=v,ln:=(Mo.leave (M.put i {vw f with pins:=(vw f).pins+1,ref:=true}) t).line.map wn,fl:=S.fl.set i ({f with pins:=f.pins+1,ref:=true}:FC)}:CS) (Mo.leave (M.put i {vw f with pins:=(vw f).pins+1,ref:=true}) t):=hR1.line v _
     refine Aa I (Ae (Ks (Do8 (rg 15) 11691702 (λw2=>(Ad bc 257 ({S with vL:=v,ln:=(Mo.leave (M.put i {vw f with pins:=(vw f).pins+1,ref:=true}) t).line.map wn,fl:=S.fl.set i ({f with pins:=f.pins+1,ref:=true}:FC)}:CS).cells).at w2/\(Dz S.bL kI vS S.ld).at w2) I St.drawn (H2 1 4 I) (Md 2 I (Dfa Db I Ul I (Dq I (Al I isAgg254 I (λ_ h=>h.1) I) (Md 3 I (Dfa Db I Ul I (Dq I (Al I isAgg254 I (λ_ h=>h.1) I) (Dm I (Dq I (Mw (kf:=kI) (vf:=vS) b I Q9 Ky zeroValue22 I I (λ_ h=>h.2)) (Dm I (B5 (Co b S.ld) (λhm2=>?_) (λq hm2=>?_))))))))))))))
     .obtain⟨_,hpu⟩:=NT hm2
      have ht:M.told b=[]:=by have:=hR.ld b; rw[hm2] at this; exact this
      refine Sv' 62 (Cb) I (by rw[hm2]) ?_
      have htl:(([]:List Int)).length<=B:=by
       rw[<-ht]; unfold Mo.told; rw[mB]; exact mf (oK _ _) hll
      refine row0 3 (AH .i64) none (d_e I (Ax (sz:=1) [.tmp 63] I I I I I U22 Z3 I zeroValue3 I (λb2=>Ai (H2 3 6 I) (AM (d_e I (Ap U22 U22 EA I (λ_ h=>AY (h.at 1 I) (AH .i64) [t] I I) (by simp<;>omega) (λv2=>AM (Av (Ai (H2 2 5 I) (Pre.fact (λ_ h=>Gf (h.rd 0 I)) ?_))))))))))
      rintro⟨sv,rfl⟩
      refine EM (d_t I (NM (kf:=kI) (vf:=vS) b (sv,(([]:List Int)++[t])) I I Q9 Ky I I I (AL (Kt (Cs I (Ak I (Ag (Ac (AX (Av (Pm [1,1,1,1] I ?_)))))))))))
      have e2:({S with vL:=v,ln:=(Mo.leave (M.put i {vw f with pins:=(vw f).pins+1,ref:=true}) t).line.map wn,fl:=S.fl.set i ({f with pins:=f.pins+1,ref:=true}:FC),ld:=mput b (sv,(([]:List Int)++[t])) S.ld}:CS).rows=S.rows++[Ro (b,(sv,(([]:List Int)++[t])))]:=by unfold CS.rows; show List.map _ (mput b (sv,(([]:List Int)++[t])) S.ld)=_; rw[hpu,mn]; rfl
      refine Ao I I ?_
      exact λ_ h=>⟨({S with vL:=v,ln:=(Mo.leave (M.put i {vw f with pins:=(vw f).pins+1,ref:=true}) t).line.map wn,fl:=S.fl.set i ({f with pins:=f.pins+1,ref:=true}:FC),ld:=mput b (sv,(([]:List Int)++[t])) S.ld}:CS),by rw[hu],⟨by rw[hu]; exact hR2.wait t b sv _ (by rw[show Mo.told (Mo.leave (M.put i {vw f with pins:=(vw f).pins+1,ref:=true}) t) b=M.told b from rfl,ht]),λ_ hG=>hG.set_same hfi rfl⟩,by
       have h2:=St.addT (pre:=[_,_,_,_,_]) (T:=S.rows) h
       rw[<-e2] at h2; exact h2⟩
     .obtain⟨j,hj,_,hpu⟩:=I1 hm2
      have ht:M.told b=q.2:=by have:=hR.ld b; rw[hm2] at this; exact this
      have hrj:=S5 hj
      refine Sv' 62 (q.1.v) I (by rw[hm2]) ?_
      have htl:(q.2).length<=B:=by
       rw[<-ht]; unfold Mo.told; rw[mB]; exact mf (oK _ _) hll
      refine Pre.world (St _ _ (Ro (b,q)::(_::_::_::_::_::_::S.rows.eraseIdx j))) (λ_ h=>St.pullT (pre:=[_,_,_,_,_,_]) (T:=S.rows) hrj h) ?_
      refine d_e I (Ax (sz:=1) [.tmp 63] I I I I I U22 Z3 I zeroValue3 I (λb3=>Ai (H2 3 6 I) (AM (d_e I (Ap U22 U22 EA I (λ_ h=>AY (h.at 1 I) (AH .i64) [t] I I) (by simp<;>omega) (λv2=>AM (Av (Ai (H2 2 5 I) (Pre.fact (λ_ h=>Gf (h.rd 0 I)) ?_)))))))))
      rintro⟨sv,rfl⟩
      refine EM (d_t I (NM (kf:=kI) (vf:=vS) b (sv,(q.2++[t])) I I Q9 Ky I I I (AL (Kt (Cs I (Ak I (Ag (Ac (AX (Av (Pm [1,1,1,1] I ?_)))))))))))
      have e2:({S with vL:=v,ln:=(Mo.leave (M.put i {vw f with pins:=(vw f).pins+1,ref:=true}) t).line.map wn,fl:=S.fl.set i ({f with pins:=f.pins+1,ref:=true}:FC),ld:=mput b (sv,(q.2++[t])) S.ld}:CS).rows=S.rows.set j (Ro (b,(sv,(q.2++[t])))):=by rw[WK,<-hpu]; rfl
      refine Ao I I ?_
      exact λ_ h=>⟨({S with vL:=v,ln:=(Mo.leave (M.put i {vw f with pins:=(vw f).pins+1,ref:=true}) t).line.map wn,fl:=S.fl.set i ({f with pins:=f.pins+1,ref:=true}:FC),ld:=mput b (sv,(q.2++[t])) S.ld}:CS),by rw[hu],⟨by rw[hu]; exact hR2.wait t b sv _ (by rw[show Mo.told (Mo.leave (M.put i {vw f with pins:=(vw f).pins+1,ref:=true}) t) b=M.told b from rfl,ht]),λ_ hG=>hG.set_same hfi rfl⟩,by
       have h2:=St.pushT (pre:=[_,_,_,_,_]) (T:=S.rows) (by rw[WL]; exact (lR.1 hj).1) h
       rw[<-e2] at h2; exact h2⟩
def fE:FC:=⟨0,-1,-1,0,false,false,nv0⟩
theorem iI:vw fE=BL:=rfl
theorem UM {α:Type} {p:α->Bool} {l:List α} {i:Nat} {x:α} (h:l[i]?=some x):B7 p (l.take (i+1))=match B7 p (l.take i) with|some k=>some k|none=>if p x=true then some i else none:=by
 have hlt:=(lR.1 h).1
 have hl:(l.take i).length=i:=by rw[k9]; omega
 unfold B7
 rw[nT,h,List.findIdx?_append]
 cases hf:(l.take i).findIdx? p with
 |some k=>rfl
 |none =>
  simp only[Option.none_or,Option.toList,oT,List.findIdx?_nil,hl]
  cases p x<;>simp
theorem Ps (M:Mo) (t:Int):∀i,i<=M.fr.length->(cls M t i).head?=B7 (isC t) (M.fr.take i)
 |0,_=>rfl
 |i+1,h=>by
  obtain⟨y,hy⟩:=gE M.fr i
  rw[UM hy,KG,Kz hy,<-Ps M t i (by omega)]
  cases hc:cls M t i with
  |nil=>cases isC t y<;>simp
  |cons a l=>cases isC t y<;>simp
theorem UN (M:Mo) (t:Int):B7 (isC t) M.fr=(cls M t M.fr.length).head?:=by rw[Ps M t _ (lJ _),oG]
theorem NU:i∈cls M t n↔i<n/\isC t (M.at' i)=true:=by
 unfold cls; rw[oD,lQ]
def giveL (fl:List FC) (l:List Nat):List FC:=l.foldl (λa k=>a.set k fE) fl
theorem ML:∀(l:List Nat) (fl:List FC) (i:Nat),(giveL fl l)[i]?=if i∈l then (fl[i]?).map (λ_=>fE) else fl[i]?
 |[],fl,i=>by simp[giveL]
 |k::l,fl,i=>by
  show (giveL (fl.set k fE) l)[i]?=_
  rw[ML l (fl.set k fE) i,oC]
  by_cases e:k=i
  .subst e
   by_cases hlt:k<fl.length
   .simp[hlt]
   .simp[hlt]
  .simp[e,nj e]
theorem UO (l:List Nat) (fl:List FC):(giveL fl l).length=fl.length:=by
 induction l generalizing fl with
 |nil=>rfl
 |cons k l ih=>show (giveL (fl.set k fE) l).length=_; rw[ih,nU]
theorem WT (h:Rel S M) (t:Int):(giveL S.fl (cls M t M.fr.length)).map vw=(M.give t).fr:=by
 refine lY (λi=>?_)
 show _=(M.fr.map (λf=>if isC t f=true then BL else f))[i]?
 rw[lS,ML,lS,<-h.fr,lS]
 cases hf:S.fl[i]? with
 |none=>split<;>rfl
 |some f =>
  have hv:=h.vw_at hf
  have hlt:=(lR.1 hv).1
  have hm:i∈cls M t (S.fl.map vw).length↔isC t (vw f)=true:=by rw[h.fr,NU,Kz hv]; exact⟨λe=>e.2,λe=>⟨hlt,e⟩⟩
  by_cases hc:isC t (vw f)=true
  .rw[lu (hm.2 hc)]; simp[hc,iI]
  .rw[lz (λe=>hc (hm.1 e))]; simp[hc]
theorem UP (h:M.Ok B) (t b:Int):(M.give t).find b=M.find b:=by
 show B7 (isB b) (M.fr.map (λf=>if isC t f=true then BL else f))=_
 rw[O9]
 unfold Mo.find
 congr 1
 funext f
 split
 .rename_i hc
  unfold isC at hc
  simp only[mz,mS] at hc
  unfold isB BL
  simp only[hc.1]
  simp
 .rfl
theorem Rel.give (h:Rel S M) (hO:M.Ok B) (t:Int):Rel {S with fl:=giveL S.fl (cls M t M.fr.length)} (M.give t) :=
 ⟨WT h t,h.ln,h.hd,λb=>by rw[UP hO]; exact h.at' b,h.ld,h.nd,h.na⟩
theorem KO (nd:Nd) (h:(bkB b&&(M.find b).isNone)=false):M.name t b nd=(false,M):=by unfold Mo.name; rw[h]
theorem Pt (nd:Nd) (h:B7 (isC t) M.fr=none):M.name t b nd=(false,M):=by unfold Mo.name; rw[h]; cases (bkB b&&(M.find b).isNone)<;>rfl
theorem Pu {k:Nat} (nd:Nd) (h:(bkB b&&(M.find b).isNone)) (hk:B7 (isC t) M.fr=some k):M.name t b nd=(true,M.put k ⟨2,b,0,0,true,true,nd⟩):=by unfold Mo.name; rw[h,hk]
def mo0 (n:Nat):Mo:=⟨List.replicate n BL,[],[],0⟩
theorem NIn.give (h:NIn G fl) (l:List Nat):NIn G (giveL fl l):=by
 induction l generalizing fl with
 |nil=>exact h
 |cons k l ih=>exact ih (h.set (NvIn.zero _))
theorem e8 {s s':Int} (h1:¬(s=1\/s=2)) (h2:¬(s'=1\/s'=2)):(s=1\/s=2)↔(s'=1\/s'=2):=⟨λe=>absurd e h1,λe=>absurd e h2⟩
theorem Rs (hR:Rel S M) (hO:M.Ok B) (t:Int):Con prog 207 [pV bc,.int .i64 t] Tr (S.H bc) (λS':CS=>.bool (M.claim t).1) (λS'=>Rel S' (M.claim t).2/\∀G,NIn G S.fl->NIn G S'.fl) (λS'=>S'.H bc):=by
 intro w hE hH
 refine enter (n:=28) (vs:=[pV bc,.int .i64 t]) (St w (dom (S.H bc)) (CS.H bc (S))) func207 I I I (St.init hH) ?_
 refine Cs I (Ak I (Cs I (Lm I (Lq I (AP ((wn (t,-1)).c) I I (λw=>by kernel_rfl)) (l_e I (Au I I I zeroValue277 (λbw=>Ce (⟨0,0,false⟩:Wn).c I (l_e I (SW ER I (Wn.one _) (Ns (Cs I (Lm I (Lq I (Cq ((wn (t,-1)).c) Ny ER 0 I (I) (I)) (l_e I (E1 (may_spec hR hO t (-1) (KD (by decide) (by decide))) I call242 (λ_ h=>CR.ofm (S:=S) h (λe he=>nG _ (he))) (λ_ _=>Lq I (Qt I) (Nk (CB 12 I (λhm=>?_) (λhm=>?_)))))))))))))))))))
 .have hu:=Pr (M:=M) (t:=t) hm
  exact Ah I (Cs I (Ak I (Ag (Ac (Av (Ao I I (λ_ h=>⟨S,by rw[hu],⟨by rw[hu]; exact hR,λ_ h=>h⟩,h⟩)))))))
 .refine Aa I (Ae (Kt (Cs I (Mv 2 I (l_e I (E1 (free_spec hR hO t) I call244 (λ_ h=>CR.ofm (S:=S) h (λe he=>nG _ (he))) (λ_ _=>Ak I (Af (Af (B5 (M.takes t) (λhk=>?_) (λk hk=>?_)))))))))))
  .have hu:=Jz hm hk
   refine Sv' 6 (.pointer none) I (by rw[hk]; rfl) (Cr I (Lm I (Lq I (DS I Ht I I) (Nk (Sb 17 true I (I) (Ah I (Cs I (Lm I (Lq I (Cq ((wn (t,-1)).c) Ny ER 0 I (I) (I)) (l_e I (Ee [_] (Pk hR hO t (-1)) I call245 Tt (λv _=>Pw (St _ _ (_::CS.H bc (({S with vL:=v,ln:=(M.ask t (-1)).line.map wn}:CS)))) ?_))))))))))))
   exact Nk (Cs I (Ak I (Ag (Ac (Av (Ao I I (λ_ h=>⟨({S with vL:=v,ln:=(M.ask t (-1)).line.map wn}:CS),by rw[hu],⟨by rw[hu]; exact hR.line v _,λ_ h=>h⟩,h⟩)))))))
  .have hu:=KN hm hk
   obtain⟨y0,hy0,hys,hya⟩:=Ie hk
   obtain⟨f0,hfk,hfy⟩:=hR.get hy0
   have hkl:=(lR.1 hfk).1
   have hfb:f0.blk = -1:=by have:=hO.none' y0 (mQ hy0) (.inl hys); rw[<-hfy] at this; exact this
   have hfs:f0.st=0:=by rw[<-hfy] at hys; exact hys
   refine Sv' 6 (fp S.vF k) I (by rw[hk]; rfl) (Cr I (Lm I (Lq I (DS I Ht I I) (Nk (Sb 17 false I (I) (Aa I (Ae (Kt (Cs I (Mv 2 I (l_e I (Ee [_] (HK hR hO t) I call243 Tt (λv _=>Pw (St _ _ (_::CS.H bc (({S with vL:=v,ln:=(M.leave t).line.map wn}:CS)))) ?_)))))))))))))
   exact Nk (Cs I (Mv 2 I (Lq I (AP ((⟨3,-1,t,1,false,false,nv0⟩:FC).c) I I (λw=>by kernel_rfl)) (Lc I (AX (l_e I (Ex k ((⟨3,-1,t,1,false,false,nv0⟩:FC)) I I E5 I I I I (by omega) (Nk (Cs I (Ak I (Ag (AM (Av (Pm [1] I (Ao I I (λ_ h=>⟨({S with vL:=v,ln:=(M.leave t).line.map wn,fl:=S.fl.set k (⟨3,-1,t,1,false,false,nv0⟩:FC)}:CS),by rw[hu],⟨by rw[hu]; exact (hR.line v (M.leave t).line).put_same (M:=M.leave t) (f':=(⟨3,-1,t,1,false,false,nv0⟩:FC)) hfk I hfb.symm (e8 (show ¬((3:Int)=1\/(3:Int)=2) by decide) (by rw[hfs]; decide)),λ_ hG=>hG.set (.zero _)⟩,h⟩))))))))))))))))
theorem KP :Con prog 144 [] Tr [] (λ_:Unit=>.agg fE.c.toArray) Tr (λ_=>[]):=by
 intro w hE hH
 refine E0 func144 I hH ?_
 exact Cs I (l_e I (Au I I I zeroValue259 (λbe=>Ce (⟨0,0,0,0,false,false,nv0⟩:FC).c I (Nk (Cs I (Lq I (AP (fE.c) I I (λw=>by kernel_rfl)) (l_e I (SW E5 I (FC.one _) (Nk (Ag (CJ I (AK I isAgg259 E5 (Hat 0 I) (I)) (λ_ h=>⟨(),rfl,T0,h.kv⟩))))))))))))
theorem give_spec (hR:Rel S M) (hO:M.Ok B) (t:Int):Con prog 263 [pV bc,.int .i64 t] Tr (S.H bc) (λS':CS=>.int .i64 (M.claims t:Int)) (λS'=>Rel S' (M.give t)/\∀G,NIn G S.fl->NIn G S'.fl) (λS'=>S'.H bc):=by
 intro w hE hH
 refine enter (n:=23) (vs:=[pV bc,.int .i64 t]) (St w (dom (S.H bc)) (CS.H bc (S))) func263 I I I (St.init hH) ?_
 refine Cs I (Ak I (Cs I (Mv 2 I ?_)))
 obtain⟨ks,hks⟩:∃ks,ks=cls M t M.fr.length:=⟨_,rfl⟩
 have hkl:ks.length<=M.fr.length:=by rw[hks]; exact NS M t _
 have h64:=hO.n64
 have hfl:=hR.len
 refine l_e I (AZ (F4 hR hO t) I I I call291 I (λ_ h=>CR.ofm (S:=S) h (λe he=>he)) ?_)
 intro vk _
 rw[<-hks]
 refine Ak I (Af (Cs I (Lm I (Lq I (AJ I L0 I (Hrd 0 I)) (Lm I (Nk (Aj ?_)))))))
 refine A0 (λ(j:Nat)=>[(0,pV bc),(5,vk),(11,vk),(12,.int .i64 (ks.length:Int)),(13,.int .i64 (j:Int))]) (λ(j:Nat)=>St w (dom (S.H bc)) (AA vk 284 (ME S.vF) ks::Ad bc 257 (S).cells::AA (S).vF 259 FC.enc (giveL S.fl (ks.take j))::Dz (S).bA kI kI (S).at'::Dz (S).bL kI vS (S).ld::AA (S).vL 277 Wn.enc (S).ln::(S).rows)) (λ(j:Nat)=>j<=ks.length) (λ(j:Nat)=>ks.length-j) (0) (lK _) (Si I) Ih (λj hj0=>Cs I (Lq I (Ql I) (Ns ?_)))
 refine CB 14 I (λh1=>?_) (λh1=>?_)
 .obtain⟨i,hj⟩:=gE ks j
  have hil:i<M.fr.length:=by have:=mQ hj; rw[hks] at this; exact (NU.1 this).1
  have hgl:=UO (ks.take j) S.fl
  have hgs:giveL S.fl (ks.take (j+1))=(giveL S.fl (ks.take j)).set i fE:=by unfold giveL; rw[nT,hj,oY]; rfl
  refine Ah I (Ae (Ks (Aj (Cs I (Lq I (Ar j I L0 sizeOf284 I (Hrd 0 I) I I) (Lq I (AI j 0 I isAgg284 I I (Hrd 0 I) hj I) (Ak I (Cr I (Lm I (l_e I (E1 (KP) I call144 Tt (λ_ _=>Lc I (AX (l_e I (Ex i fE I I E5 I I I I (by omega) (AB (Aw (Kt (Cr I (Lq I (Qi I) (Lm I (AB (Pm [1,1] I ?_)))))))))))))))))))))))
  exact AE (j+1) (by omega) (by omega) (Si I) (λ_ h=>by rw[hgs]; exact h)
 .rw[lI (show ks.length<=j by omega)]
  exact Aa I (AO (Ab (Ab (Am (Kt (Cs I (Lm I (Lq I (AJ I L0 I (Hrd 0 I)) (Ak I (Ag (Av (Ao I I (λ_ h=>⟨{S with fl:=giveL S.fl ks},congrArg Ei (by rw[hks,S4]),⟨by rw[hks]; exact hR.give hO t,λ_ hG=>hG.give _⟩,h⟩)))))))))))))
theorem Rel.zero (vF vL:Value) (bA bL n:Nat):Rel ⟨vF,List.replicate n fE,bA,[],bL,[],vL,[],0⟩ (mo0 n) :=
 ⟨by show (List.replicate n fE).map vw=List.replicate n BL; rw[mC]; rfl,rfl,rfl,λb=>by
  show none=Option.map _ (B7 (isB b) (List.replicate n BL))
  rw[C8 (λz hz=>by rw[(mU.1 hz).2]; unfold isB BL; simp)]; rfl,λb=>rfl,nD,nD⟩
theorem NIn.zero (G:List Ent) (n:Nat):NIn G (List.replicate n fE):=λf hf=>by rw[(mU.1 hf).2]; exact NvIn.zero _
theorem WU (n:Nat) (x:α):List.replicate n x++[x]=List.replicate (n+1) x:=(List.replicate_succ' ..).symm
def c0 (v:Value) (bA bL:Nat):List Value:=[v,.map (some bA),.map (some bL),Cb,.int .i64 0]
theorem new_spec (n:Nat) (h1n:1<=n) (hn:n<=64):Con prog 101 [.int .i64 (n:Int)] Tr [] (λr:Nat×CS=>.tuple #[.pointer (some ⟨r.1,0,none⟩),.int .i64 0]) (λr=>Rel r.2 (mo0 n)/\∀G,NIn G r.2.fl) (λr=>r.2.H r.1):=by
 intro w hE hH
 refine E0 func101 I hH (Cs I (Las I (Ak I (Af (Cs I (Mv 3 I (Sf 7 I (by omega) (Lm I (Lq I (BQ I I I) (Lq I (Qz I) (Nk (Sf 10 I (by omega) (Aa I (Ae (Kt (Cs I (l_e I (HE kI kI I I I (λbA=>l_e I (HE kI vS I I I (λbM=>Lq I (AP (c0 Cb bA bM) I I (λw=>by kernel_rfl)) (l_e I (AT I I I I (λbc=>Ce (c0 Cb bA bM) I (Ak I (Af (Cs I (Mv 2 I (Nk (Aj (row0 277 Wn.enc none (row0 259 FC.enc none (Pm [2,0,2,1] I ?_)))))))))))))))))))))))))))))))))
 refine Cy (λ(i:Nat) (v:Value)=>[(4,pV bc),(15,.int .i64 (n:Int)),(16,.int .i64 (i:Int))]) (λ(i:Nat) (v:Value)=>St w [] [Ad bc 257 (c0 v bA bM),AA v 259 FC.enc (List.replicate i fE),Dz bA kI kI [],Dz bM kI vS [],AA Cb 277 Wn.enc []]) (λ(i:Nat) (v:Value)=>i<=n) (λ(i:Nat) (v:Value)=>n-i) (0) (.slice none 0 0) (lK _) (Si I) Ih (λi v hi=>Af ?_)
 have hrl:(List.replicate i fE).length=i:=oy ..
 refine Cr I (Lq I (Ql I) (Ns (CB 17 I (λh1=>?_) (λh1=>?_))))
 .refine Ah I (Ae (Ks (Aj (Do8 (rg 11) 173745 (λw2=>(Ad bc 257 (c0 v bA bM)).at w2) I St.drawn (Hat 0 I) (Md 3 I (Dfa Db I Gg I (Dq I (Al I G2 I Ih I) (d_e I (E1 (KP) I call144 Tt (λ_ _=>Ai (Hat 0 I) (d_e I (Ax (sz:=11) [.tmp 23] I I I I I FK E5 I zeroValue259 I (λb2=>Ai (Hat 1 I) (AX (d_e I (Ap FK FK ZX I (λ_ h=>AY (h.at 1 I) FC.enc [fE] I I) (by simp<;>omega) (λv2=>Bt (WU i fE) (AM (Av (Ai (Hat 1 I) (d_t I (e_q I I (Bw I I) (d_t I (e_q I I (Ba I Db I Gg I I) (Pre.fact (λ_ h=>Gf (h.rd 0 I)) ?_)))))))))))))))))))))))))
  rintro⟨sv,rfl⟩
  refine AM (d_t I (AG I I Gg I I I (ng I) (Ce (c0 sv.v bA bM) I (AL (Aw (Kt (Cr I (Lq I (Qi I) (Lm I (AB ?_))))))))))
  exact AE ((i+1,sv.v)) (by dsimp only; omega) (by dsimp only; omega) (Si I) (λ_ h=>h)
 .have hin:i=n:=by omega
  subst hin
  exact Aa I (AO (Ab (Ab (Am (Kt (Cs I (Mv 2 I (Ak I (Ag (Bg (rs:=[.tmp 2,.tmp 3]) I I (λ_ h=>⟨(bc,⟨v,List.replicate i fE,bA,[],bM,[],Cb,[],0⟩),rfl,⟨Rel.zero _ _ _ _ _,λG=>NIn.zero G i⟩,h⟩)))))))))))
theorem UQ (hR:Rel S M) (hO:M.Ok B) (t b:Int) (nv:NV) (hn:nv.d.Sm 65536):Con prog 268 [pV bc,.int .i64 t,.int .i64 b,.agg nv.c.toArray] Tr (Bz nv++S.H bc) (λr:CS×NV=>.bool (M.name t b nv.d).1) (λr=>Rel r.1 (M.name t b nv.d).2/\∀G,(∀e∈Bz r.2,e∈G)->NIn G S.fl->NIn G r.1.fl) (λr=>Bz r.2++Bz nv++r.1.H bc):=by
 intro w hE hH
 refine enter (n:=40) (vs:=[pV bc,.int .i64 t,.int .i64 b,.agg nv.c.toArray]) (St w (dom (Bv nv.s.e nv.d.es::BY nv.s.k nv.d.kids::CF nv.s.p nv.d.piv::EN nv.s.m nv.d.msgs::S.H bc)) (Bv nv.s.e nv.d.es::BY nv.s.k nv.d.kids::CF nv.s.p nv.d.piv::EN nv.s.m nv.d.msgs::CS.H bc (S))) func268 I I I (St.init hH) ?_
 refine Cs I (l_e I (AT I I I I (λbn=>Ce nv.c I (Ak I (Cs I (Mv 2 I ?_))))))
 obtain⟨ks,hks⟩:∃ks,ks=cls M t M.fr.length:=⟨_,rfl⟩
 have hcf:=UN M t
 rw[<-hks] at hcf
 refine l_e I (AZ (F4 hR hO t) I I I call291 I (λ_ h=>CR.ofm (S:=S) h (λe he=>nG _ (nG _ (nG _ (nG _ (nG _ (he))))))) ?_)
 intro vk _
 rw[<-hks]
 refine Ak I (Af (Cs I (Lm I (l_e I (E1 (block_spec b) I call241 Tt (λ_ _=>Lq I (Qt I) (Lm I (CB 16 I (λhb=>?_) (λhb=>?_)))))))))
 .have hu:=KO (M:=M) (t:=t) (b:=b) nv.d (by rw[hb]; rfl)
  exact Mv 10 I (Nk (Ah I (Cs I (Ak I (Ag (Ac (Av (Av (row0 154 Ms.enc none (row0 77 (Kv.enc 8) none (row0 3 (AH .i64) none (row0 79 En.enc none (Ao I I (λ_ h=>⟨(S,⟨n40,ndE⟩),by rw[hu],⟨by rw[hu]; exact hR,λ_ _ h=>h⟩,h⟩))))))))))))))
 .refine Lm I (Lq I (AJ I L0 I (Hrd 0 I)) (Mv 3 I (KF ks (λhk=>?_) (λk r hk=>?_))))
  .have hk0:ks.length=0:=by rw[hk]; rfl
   refine St' 21 I (by omega) (Mv 5 I (Nk (Ah I (Cs I (Ak I (Ag (Ac ?_)))))))
   have hu:=Pt (M:=M) (t:=t) (b:=b) nv.d (by rw[hcf,hk]; rfl)
   exact Av (Av (row0 154 Ms.enc none (row0 77 (Kv.enc 8) none (row0 3 (AH .i64) none (row0 79 En.enc none (Ao I I (λ_ h=>⟨(S,⟨n40,ndE⟩),by rw[hu],⟨by rw[hu]; exact hR,λ_ _ h=>h⟩,h⟩)))))))
  .have hk0:0<ks.length:=by rw[hk]; simp
   have hj:ks[0]?=some k:=by rw[hk]; rfl
   refine Sf 21 I (by omega) (Mv 2 I (l_e I (E1 (Ej hR hO b) I call194 (λ_ h=>CR.ofm (S:=S) h (λe he=>nG _ (nG _ (nG _ (nG _ (nG _ (nG _ (he)))))))) (λ_ _=>Lq I (Qg I) (Lq I (Qz I) (Nk (Pre.caseB 26 I (λhp=>?_) (λhp=>?_))))))))
   .rw[Pa] at hp
    have hu:=KO (M:=M) (t:=t) (b:=b) nv.d (by rw[<-Option.not_isSome,hp,Bool.not_true,oP])
    exact Ah I (Cs I (Ak I (Ag (Ac (Av (Av (row0 154 Ms.enc none (row0 77 (Kv.enc 8) none (row0 3 (AH .i64) none (row0 79 En.enc none (Ao I I (λ_ h=>⟨(S,⟨n40,ndE⟩),by rw[hu],⟨by rw[hu]; exact hR,λ_ _ h=>h⟩,h⟩))))))))))))
   .rw[Pa] at hp
    have hfn:M.find b=none:=by cases h:M.find b with
     |none=>rfl
     |some _=>rw[h] at hp; cases hp
    have hu:=Pu (M:=M) (t:=t) (b:=b) nv.d (by rw[hb,hfn]; rfl) (by rw[hcf,hk]; rfl)
    have hkc:=(NU (M:=M) (t:=t) (i:=k) (n:=M.fr.length)).1 (by rw[<-hks,hk]; exact ns ..)
    obtain⟨y0,hy0⟩:∃y,M.fr[k]?=some y:=⟨_,kY hkc.1⟩
    obtain⟨f0,hfk,hfy⟩:=hR.get hy0
    have hkl:=(lR.1 hfk).1
    have hys:y0.st=3:=by have:=hkc.2; rw[Kz hy0] at this; unfold isC at this; simp only[mz,mS] at this; exact this.1
    refine Aa I (Ae (Ks (Do8 (rg 9) 17739 (λw2=>(Ad bn 135 nv.c).at w2/\RdV w2 vk (ME S.vF) ks) I St.drawn (Hb 1 0 I) (Dm I (Dq I (Ar 0 I L0 sizeOf284 I (λ_ h=>h.2) I I) (Dq I (AI 0 0 I isAgg284 I I (λ_ h=>h.2) hj I) (Dm I (Dq I (AQ (nv.c) I Bx AU I (λ_ h=>h.1) (I) (I)) (d_e I (EW (Gz nv hn) I I I call155 I (λ_ h=>⟨h.rd 2 rfl,h.rd 3 rfl,h.rd 4 rfl,h.rd 5 rfl⟩) (λs _=>Ai (Hb 5 4 I) (Dq I (AP ((⟨2,b,-1,0,true,true,⟨s,nv.d⟩⟩:FC).c) I I (λw=>by kernel_rfl)) (d_t I (e_q I I (Bw I I) (IU (d_t I (Ex k ((⟨2,b,-1,0,true,true,⟨s,nv.d⟩⟩:FC)) I I E5 I I I I (by omega) (AL (Kt (Cs I (Mv 2 I (Lq I (Ar 0 I L0 sizeOf284 I (Hrd 5 I) I I) (Lq I (AI 0 0 I isAgg284 I I (Hrd 5 I) hj I) (Pm [6,6,6,6,6,6,0,5,5,5] I ?_))))))))))))))))))))))))
    refine Pm [10,10,10,10,10] I ?_
    have hfk2:({S with fl:=S.fl.set k (⟨2,b,-1,0,true,true,⟨s,nv.d⟩⟩:FC)}:CS).fl[k]?=some (⟨2,b,-1,0,true,true,⟨s,nv.d⟩⟩:FC):=oU hkl
    have hf64:({S with fl:=S.fl.set k (⟨2,b,-1,0,true,true,⟨s,nv.d⟩⟩:FC)}:CS).fl.length<=65536:=by
     show (S.fl.set k _).length<=_
     rw[nU,hR.len]; have:=hO.n64; omega
    refine Pw (St _ _ (_::_::_::_::_::_::_::_::_::_::CS.H bc ({S with fl:=S.fl.set k (⟨2,b,-1,0,true,true,⟨s,nv.d⟩⟩:FC)}:CS))) ?_
    refine l_e I (Ee [_,_,_,_,_,_,_,_,_,_] (Jy (S:=({S with fl:=S.fl.set k (⟨2,b,-1,0,true,true,⟨s,nv.d⟩⟩:FC)}:CS)) hfk2 hf64) I call246 Tt (λ_ _=>Pw (St _ _ (_::_::_::_::_::_::_::_::_::_::CS.H bc (({S with fl:=S.fl.set k (⟨2,b,-1,0,true,true,⟨s,nv.d⟩⟩:FC),at':=mput b (k:Int) S.at'}:CS)))) ?_))
    exact Nk (Cs I (Ak I (Ag (C0 (Av (C0 (Av (Ao I I (λ_ h=>⟨(({S with fl:=S.fl.set k (⟨2,b,-1,0,true,true,⟨s,nv.d⟩⟩:FC),at':=mput b (k:Int) S.at'}:CS),⟨s,nv.d⟩),by rw[hu],⟨by rw[hu]; exact hR.new hy0 (by rw[hys]; decide) hfn I I (.inr I),λG hG1 hG=>hG.set (.of hG1)⟩,h⟩)))))))))
theorem Pv (hR:Rel S M) (hO:M.Ok B) (t:Int):Con prog 262 [pV bc,.int .i64 t] Tr (S.H bc) (λ_:Unit=>.int .i64 (M.claims t:Int)) Tr (λ_=>S.H bc):=by
 intro w hE hH
 refine enter (n:=9) (vs:=[pV bc,.int .i64 t]) (St w (dom (S.H bc)) (CS.H bc (S))) func262 I I I (St.init hH) ?_
 refine Cs I (Ak I (Cs I (Mv 2 I ?_)))
 have hkl:=NS M t M.fr.length
 have h64:=hO.n64
 exact l_e I (AZ (F4 hR hO t) I I I call291 I (λ_ h=>CR.ofm (S:=S) h (λe he=>he)) (λvk _=>Lq I (AJ I L0 I (Hrd 0 I)) (Ak I (Ag (Av (Ao I I (λ_ h=>⟨(),congrArg Ei (by rw[S4]),T0,h⟩)))))))
theorem Rt (hR:Rel S M) (hO:M.Ok B) (b:Int):Con prog 196 [pV bc,.int .i64 b] Tr (S.H bc) (λ_:Unit=>.bool (M.frI b 2).isSome) Tr (λ_=>S.H bc):=by
 intro w hE hH
 refine enter (n:=9) (vs:=[pV bc,.int .i64 b]) (St w (dom (S.H bc)) (CS.H bc (S))) func196 I I I (St.init hH) ?_
 refine Cs I (Ak I (Cs I (Mv 2 I (l_e I (E1 (E8 hR hO b 2) I call165 (λ_ h=>CR.ofm (S:=S) h (λe he=>he)) (λ_ _=>B5 (M.frI b 2) (λhf=>?_) (λi hf=>?_)))))))
 .exact Sv' 7 (.pointer none) I (by rw[hf]; rfl) (Lq I (D2 I Ht I I) (Ak I (Ag (Ao I I (λ_ h=>⟨(),congrArg Eb (by rw[hf]; rfl),T0,h⟩)))))
 .exact Sv' 7 (fp S.vF i) I (by rw[hf]; rfl) (Lq I (D2 I Ht I I) (Ak I (Ag (Ao I I (λ_ h=>⟨(),congrArg Eb (by rw[hf]; rfl),T0,h⟩)))))
section
variable {P:Program} {n:Nat} {L:Env} {X:World->Prop} {o:Oper} {α:Type} {E:Enc α} {l:List α} {v:Value}
theorem BA {t:TypeId} (us:List Value) (j k:Nat) {a:α} (ho:o.op=.load t x) (hg:∀w,(isAgg t).run P w=.ok true w) (hz:∀w,(sizeOf t).run P w=.ok sz w) (hx:ev L x=some (.pointer (some ⟨blk v,off,none⟩))) (hoff:off=Fi v+j*E.sz+k)
 (hr:∀w,X w->RdV w v E l) (ha:l[j]?=some a) (hk:k+sz<=E.sz) (hu:((E.f a).drop k).take sz=us):QOp P n L X o (.agg us.toArray):=hu▸Ez j k ho hg hz hx hoff hr ha hk
theorem S7 {Q:Exit->Act->World->Prop} {K:Act->World->Prop} {w0:World} {D:List Nat} {H:List Ent} {t:TypeId} (E:Enc α) (m:Nat) {i:TypeInfo} {x y:Operand} {z:Value} {d:Nat} {j k:IntKind} {p q:Int} (ho:o.op=.makeSlice t x y) (hd:o.dst=some d) (hn:d.blt n) (ht:P.underlying t=some (.slice e))
 (hi:P.info? e=some i) (hs:i.size=E.sz) (hz:i.zero=some z) (hzl:z.cells.size=E.sz) (hx:ev L x=some (.int j p)) (hy:ev L y=some (.int k q)) (hp:p=0) (hq:q=(m:Int)) (hm:m*i.bytes<=281474976710656) (hm2:m<=9223372036854775807)
 (h:∀v,Pre n ((d,v)::L) (St w0 D (AA v e E []::H)) K):EOp P n L (St w0 D H) o Q K :=
 EOp.val (β:=Value) (λv=>v) Tr (λv=>St w0 D (AA v e E []::H)) hd hn (λa w kn x=>by
  subst hp; subst hq
  have hw1:IntKind.i64.wrap (m:Int)=(m:Int):=Ch (by omega)
  have hw0:IntKind.i64.wrap (0:Int)=(0:Int):=by decide
  have hzv:(zeroValue e).run P w=.ok z w:=by simp[zeroValue,typeInfo,hi,hz]
  have hrun:(Instr.makeSlice t (.int j 0) (.int k (m:Int))).run P w=.ok (.slice (some ⟨w.heap.size,0,none⟩) 0 m) (w.alloc (.cells ((Array.range (m*E.sz)).map (z.cells[·%z.cells.size]!)) e)):=by
   have h2:¬((i.bytes:Int)*(m:Int)>2^48):=by
    have h4:i.bytes*m<=281474976710656:=by rw[lL]; exact hm
    have h5:((i.bytes*m:Nat):Int)<=281474976710656:=by omega
    rw[nR] at h5
    omega
   have h1:¬((m:Int)<0):=by omega
   have h6:¬((0:Int)>(m:Int)):=by omega
   unfold Instr.makeSlice
   simp only[l5,AW ht,l7,asInt,asIntOf,l6,Sem.run_map,typeInfo,run_program,hi,hw1,hw0]
   simp[h2,h1,h6,run_askRoom,sizeOf,typeInfo,run_program,hi,hs,DP,hzv]
   have h9:¬(281474976710656:Int)<(i.bytes:Int)*(m:Int):=h2
   rw[lz h9]
   split
   .rename_i h0
    have hr0:∀f:Nat->Value,(Array.range 0).map f=#[]:=λf=>by simp
    rw[h0,hr0,hr0]
   .rfl
  refine⟨.slice (some ⟨w.heap.size,0,none⟩) 0 m,w.alloc (.cells ((Array.range (m*E.sz)).map (z.cells[·%z.cells.size]!)) e),by simp only[execOp,ho,kn.eval hx,kn.eval hy,l5,hrun,l7,l6],T0,?_⟩
  by_cases h0:m=0
  .subst h0
   exact (x.alloc (φ:=λ_=>True) trivial).free I (.inl ⟨_,rfl,rfl⟩)
  .have hb:ownB (.slice (some ⟨w.heap.size,0,none⟩) 0 m)=some w.heap.size:=by simp[ownB,h0]
   have h1:=x.alloc (φ:=Row (.slice (some ⟨w.heap.size,0,none⟩) 0 m) e E []) (o:=.cells ((Array.range (m*E.sz)).map (z.cells[·%z.cells.size]!)) e) (.inr ⟨w.heap.size,m,[],((Array.range (m*E.sz)).map (z.cells[·%z.cells.size]!)).toList,rfl,by omega,by rw[Enc.flat_nil,mw,mw,Array.toArray_toList],lK _,by simp⟩)
   rw[<-hb] at h1
   exact h1) (λv _=>h v)
end
def BG (l:List En):Prop:=l.Pairwise (λa b=>Bq a.key b.key<0)
def Cd (l:List En) (k:Kv 8):Nat:=(l.takeWhile (λe=>decide (Bq e.key k<0))).length
def lis (l:List En) (k:Kv 8):Bool:=match l[Cd l k]? with|some e=>decide (e.key=k)|none=>false
def AN (l:List En) (k:Kv 8):Kv 16×Bool:=match l[Cd l k]? with|some e=>if e.key=k then (e.val,true) else (kv0 16,false)|none=>(kv0 16,false)
def CY (l:List En) (m:Ms):List En:=if (Cp (AN l m.key).1 (AN l m.key).2 m).2=true then [⟨m.key,(Cp (AN l m.key).1 (AN l m.key).2 m).1⟩] else []
def Bs (l:List En) (m:Ms):List En:=l.take (Cd l m.key)++CY l m++l.drop (Cd l m.key+(if lis l m.key=true then 1 else 0))
def Ec (l:List En) (ms:List Ms):List En:=ms.foldl Bs l
def lsz (e:En):Int:=2+e.key.n+e.val.n
def lby (l:List En):Int:=(l.map lsz).sum
def E9 (l:List En) (i:Nat):Bool:=match l[i]? with
 |some e=>kck e.key&&vck e.val&&(match i,l[i-1]? with|0,_=>true|_,some d=>decide (Bq d.key e.key<0)|_,none=>true)
 |none=>true
def lck (l:List En):Bool:=(List.range l.length).all (E9 l)
theorem S8 (hi:i<=l.length) (h1:∀j e,j<i->l[j]?=some e->Bq e.key k<0) (h2:∀e,l[i]?=some e->¬Bq e.key k<0):Cd l k=i:=by
 unfold Cd
 have hl:l.take i++l.drop i=l:=my i l
 have ht:∀e∈l.take i,decide (Bq e.key k<0)=true:=λe he=>by
  obtain⟨j,hj⟩:=oJ.1 he
  rw[lr] at hj
  split at hj
  .rename_i hlt; exact od (h1 j e hlt hj)
  .cases hj
 rw[<-hl,List.takeWhile_append_of_pos ht]
 have hd:(l.drop i).takeWhile (λe=>decide (Bq e.key k<0))=[]:=by
  cases hx:l.drop i with
  |nil=>rfl
  |cons x xs =>
   have:l[i]?=some x:=by rw[<-List.head?_drop,hx]; rfl
   rw[oZ,lz (by simpa using h2 x this)]
 rw[hd,nS,k9]; omega
theorem D5 {R:α->α->Prop} {l:List α} (h:l.Pairwise R) (i j:Nat) (a b:α) (hij:i<j) (ha:l[i]?=some a) (hb:l[j]?=some b):R a b:=by
 obtain⟨hi,rfl⟩:=lR.1 ha
 obtain⟨hj,rfl⟩:=lR.1 hb
 exact o5.1 h i j hi hj hij
theorem S9 {R:α->α->Prop} {l:List α} (h:∀(i j:Nat) (a b:α),i<j->l[i]?=some a->l[j]?=some b->R a b):l.Pairwise R:=by
 rw[o5]
 intro i j h1 h2 hij
 exact h i j (l[i]'h1) (l[j]'h2) hij (by simp) (by simp)
theorem WV {R:α->α->Prop} {l:List α}:l.Pairwise R↔∀(i j:Nat) (a b:α),i<j->l[i]?=some a->l[j]?=some b->R a b:=⟨D5,S9⟩
theorem I2 (hs:BG l) {k:Kv 8} {i j:Nat} {a b:En} (hij:i<=j) (ha:l[i]?=some a) (hb:l[j]?=some b) (h:Bq b.key k<0):Bq a.key k<0:=by
 rcases k6 i j with hlt|hge
 .exact E7 (D5 hs i j a b hlt ha hb) (mi h)
 .have:i=j:=by omega
  subst this; rw[ha] at hb; cases hb; exact h
theorem JW (l:List En) (k:Kv 8):Cd l k<=l.length:=(o6 _).length_le
theorem NW (h:lis l k):∃e,l[Cd l k]?=some e/\e.key=k/\AN l k=(e.val,true):=by
 unfold lis at h
 cases h2:l[Cd l k]? with
 |none=>rw[h2] at h; cases h
 |some e =>
  rw[h2] at h
  have hk:=oh h
  exact⟨e,rfl,hk,by unfold AN; rw[h2]; simp[hk]⟩
theorem Ru (h:lis l k=false):AN l k=(kv0 16,false):=by
 unfold lis at h
 unfold AN
 cases h2:l[Cd l k]? with
 |none=>rfl
 |some e=>rw[h2] at h; have hk:=of_decide_eq_false h; simp[hk]
theorem lput_len (l:List En) (m:Ms):(Bs l m).length<=l.length+1:=by
 unfold Bs CY
 rw[lp,lp,k9,lk]
 have:=JW l m.key
 split<;>(try simp)<;>omega
theorem KQ:∀(ms:List Ms) (l:List En),(Ec l ms).length<=l.length+ms.length
 |[],l=>lJ _
 |m::ms,l=>by
  have h1:=KQ ms (Bs l m)
  have h2:=lput_len l m
  show (Ec (Bs l m) ms).length<=_
  simp only[kQ]; omega
theorem Px:BG l↔∀(i j:Nat) (a b:En),i<j->l[i]?=some a->l[j]?=some b->Bq a.key b.key<0:=WV
theorem Py {p:α->Bool}:∀{l:List α} {j:Nat} {e:α},j<(l.takeWhile p).length->l[j]?=some e->p e=true
 |[],j,e,h,_=>by simp at h
 |x::l,j,e,h,he=>by
  rw[oZ] at h
  by_cases hx:p x=true
  .rw[lu hx] at h
   cases j with
   |zero=>simp at he; subst he; exact hx
   |succ j=>exact Py (l:=l) (by simpa using h) (by simpa using he)
  .rw[lz hx] at h; simp at h
theorem JX {p:α->Bool}:∀{l:List α} {e:α},l[(l.takeWhile p).length]?=some e->p e=false
 |[],e,h=>by simp at h
 |x::l,e,h=>by
  by_cases hx:p x=true
  .rw[oZ,lu hx,kQ,mN] at h
   exact JX h
  .rw[oZ,lz hx] at h; simp at h; subst h; simpa using hx
theorem Ta {e:En} (hj:j<Cd l k) (he:l[j]?=some e):Bq e.key k<0:=oh (Py (p:=λe:En=>decide (Bq e.key k<0)) hj he)
theorem Ii (hs:BG l) {j:Nat} {e:En} (hj:Cd l k<=j) (he:l[j]?=some e):¬Bq e.key k<0:=λh=>by
 have hjl:=(lR.1 he).1
 obtain⟨d,hd⟩:=gE l (Cd l k)
 have h1:=I2 hs hj hd he h
 have h2:=JX (p:=λe:En=>decide (Bq e.key k<0)) (show l[(l.takeWhile (λe:En=>decide (Bq e.key k<0))).length]?=some d from hd)
 exact of_decide_eq_false h2 h1
theorem JA (l:List En) (k:Kv 8) (hs:BG l) (hn:l.length<=65536):Con prog 158 [va,.agg k.c.toArray] (λw=>RdV w va En.enc l) [] (λ_:Unit=>.tuple #[.int .i64 (Cd l k:Int),.bool (lis l k)]) Tr (λ_=>[]):=by
 intro w hl hH
 refine E0 func158 I hH (Cs I (l_e I (AT I I I I (λbk=>Ce k.c I (Las I (Ak I (Cs I (Lm I (Lq I (AJ I U49 I hl.kp) (Lq I (AP ([.int .i64 0,.int .i64 (l.length:Int)]) I I (λw=>by kernel_rfl)) (l_e I (Au I I I zeroValue324 (λbe=>Ce [.int .i64 0,.int .i64 0] I (l_e I (Az rfl rfl sizeOf324 rfl rfl rfl (λv hv=>by simp at hv; rcases hv with rfl|rfl<;>rfl) (by show 0+2<=2; decide) (Ce [.int .i64 ((0:Nat):Int),.int .i64 (l.length:Int)] I (Ns (Aj ?_))))))))))))))))))
 refine Cy (λ(lo:Nat) (hi:Nat)=>[(0,va),(3,pV bk),(6,pV be)]) (λ(lo:Nat) (hi:Nat)=>St w [] [Ad be 324 [.int .i64 (lo:Int),.int .i64 (hi:Int)],Ad bk 77 k.c]) (λ(lo:Nat) (hi:Nat)=>lo<=hi/\hi<=l.length/\(∀j e,j<lo->l[j]?=some e->Bq e.key k<0)/\∀j e,hi<=j->l[j]?=some e->¬Bq e.key k<0) (λ(lo:Nat) (hi:Nat)=>hi-lo) (0) (l.length) ⟨lK _,lJ _,λj e h=>absurd h (ov _),λj e h1 h2=>by have:=(lR.1 h2).1; omega⟩ (Si I) (λ_ h=>h) ?_
 intro lo hi hp
 refine Af (Af ?_)
 obtain⟨hlh,hhl,hp1,hp2⟩:=hp
 refine Cr I (Lq I (Be 0 I Rb Z3 I I I) (Lo G3 0 I (Lq I (Be 1 I Rb Z3 I I I) (Lo G3 0 I (Lq I (Ql I) (Nk (CB 17 I (λhlt=>?_) (λhlt=>?_))))))))
 .obtain⟨mid,hmd⟩:∃mid:Nat,mid=(lo+hi)/2:=⟨_,rfl⟩
  have hdv:((lo:Int)+(hi:Int))/2=(mid:Int):=by omega
  obtain⟨c,hmid⟩:=gE l mid
  refine Ah I (Ae (Kt (Aj (Af (Do8 (rg 8) 0 (λw2=>(Ad be 324 [.int .i64 (lo:Int),.int .i64 (hi:Int)]).at w2) I St.drawn (Hat 0 I) (Dq I (Be 0 I Rb Z3 I I I) (Dq I (Al I G3 I Ih I) (Dq I (Be 1 I Rb Z3 I I I) (Dq I (Al I G3 I Ih I) (Dq I (Bh I I I) (Dq I (By I I I) (Md 2 I (AL (Ks (Af (Sv' 8 (.int .i64 (mid:Int)) I (by rw[hdv]) (Do8 (rg 8) 729 (λw2=>(Ad bk 77 k.c).at w2/\RdV w2 va En.enc l) I St.drawn (Hd 1 I hl.kp) (Md 2 I (Dq I (Ar mid I U49 Z79 I (λ_ h=>h.2) I I) (Dfa U79 I Z77 I (Dq I (BA (c.key.c) mid 0 I G77 Z77 I I (λ_ h=>h.2) hmid (by decide) (En.kK _)) ?_)))))))))))))))))))))
  refine Dq I (AQ (k.c) I G77 Z77 I (λ_ h=>h.1) (Bb _) (Kv.ko _)) (d_e I (E1 (FM c.key k) I call162 Tt (λ_ _=>Ai (Hd 1 I hl.kp) (Dq I (Ql I) (AL (Kt (CB 31 I (λhc=>?_) (λhc=>?_))))))))
  .refine Ah I (Cr I (Lm I (Lq I (Qi I) (Las I (Ak I (Cr I (Mv 2 I (Lq I (Be 0 I Rb Z3 I I I) (l_e I (AG I I Z3 I I I (by show 0<2; decide) (Ce [.int .i64 ((mid+1:Nat):Int),.int .i64 (hi:Int)] I (AB (Aw ?_)))))))))))))
   exact AE ((mid+1,hi)) (by dsimp only; omega) ⟨by dsimp only; omega,hhl,λj e hj he=>I2 hs (by dsimp only at hj; omega) he hmid hc,hp2⟩ (Si I) (λ_ h=>h)
  .refine Aa I (Ae (Kt (Cr I (Mv 2 I (Lq I (Be 1 I Rb Z3 I I I) (l_e I (AG I I Z3 I I I (by show 1<2; decide) (Ce [.int .i64 (lo:Int),.int .i64 (mid:Int)] I (AB (Aw ?_))))))))))
   exact AE ((lo,mid)) (by dsimp only; omega) ⟨by dsimp only; omega,by dsimp only; omega,hp1,λj e hj he h=>hc (I2 hs hj hmid he h)⟩ (Si I) (λ_ h=>h)
 .have hpos:Cd l k=lo:=S8 (by omega) hp1 (λe he=>hp2 lo e (by omega) he)
  refine Aa I (AO (Ab (Ab (Am (Kt (Cs I (Lq I (Be 0 I Rb Z3 I I I) (Lo G3 0 I (Ak I (Af (Do8 (rg 16) 0 (λw2=>(Ad bk 77 k.c).at w2/\RdV w2 va En.enc l) I St.drawn (Hd 1 I hl.kp) (Md 3 I (Dq I (AJ I U49 I (λ_ h=>h.2)) (Md 2 I (CB 44 I (λhin=>?_) (λhin=>?_))))))))))))))))
  .obtain⟨c,hlo⟩:=gE l lo
   refine Md 2 I (Dq I (Ar lo I U49 Z79 I (λ_ h=>h.2) I I) (Dfa U79 I Z77 I (Dq I (BA (c.key.c) lo 0 I G77 Z77 I I (λ_ h=>h.2) hlo (by decide) (En.kK _)) (Dq I (AQ (k.c) I G77 Z77 I (λ_ h=>h.1) (Bb _) (Kv.ko _)) (Dq I (S0 (c.key) (k) I I I) (Md 3 I (AL (Kt (Ag ?_)))))))))
   have hlis:lis l k=decide (c.key=k):=by unfold lis; rw[hpos,hlo]
   exact Bg (rs:=[.tmp 4,.tmp 5]) I I (λ_ h=>⟨(),by rw[hpos,hlis],T0,h.kv⟩)
  .have hlis:lis l k=false:=by unfold lis; rw[hpos,k8 (by omega)]
   exact Md 10 I (AL (Kt (Ag (Bg (rs:=[.tmp 4,.tmp 5]) I I (λ_ h=>⟨(),by rw[hpos,hlis],T0,h.kv⟩)))))
theorem Rv (l:List En) (k:Kv 8) (hs:BG l) (hn:l.length<=65536):Con prog 181 [va,.agg k.c.toArray] (λw=>RdV w va En.enc l) [] (λ_:Unit=>.tuple #[.agg (AN l k).1.c.toArray,.bool (AN l k).2]) Tr (λ_=>[]):=by
 intro w hl hH
 obtain⟨i,hi⟩:∃i,i=Cd l k:=⟨_,rfl⟩
 refine E0 func181 I hH (Cs I (l_e I (AT I I I I (λbk=>Ce k.c I (l_e I (Au I I I zeroValue56 (λbr=>Ce (kv0 16).c I (Ak I (Cs I (Lm I (Lq I (Cq (k.c) G77 Z77 1 I (Bb _) (Kv.ko _)) (l_e I (E1 (JA l k hs hn) I call158 hl.kp ?_)))))))))))))
 intro _ _
 rw[<-hi]
 refine Mv 4 I (Ak I (Af (Cs I (Mv 2 I (Nk (CB 15 I (λhis=>?_) (λhis=>?_)))))))
 .have hf:=Ru his
  exact Ah I (Cs I (Lq I (AP ((kv0 16).c) I I (λw=>by kernel_rfl)) (l_e I (Az I I Z56 I I (Kv.ko _) (Kv.one _) (by simp only[Kv.ko]; decide) (Ce (kv0 16).c (Sep.ku (by simp only[Kv.ko])) (Ak I (Ag (Ac (BM I (AK I G56 Z56 (Hat 0 I) (Kv.ko _)) (id I) (λ_ h=>⟨(),by rw[hf],T0,h.kv⟩))))))))))
 .obtain⟨c,hc,hck,hf⟩:=NW his
  rw[<-hi] at hc
  have hlt:=(lR.1 hc).1
  exact Aa I (Ae (Kt (Cs I (Mv 2 I (Lq I (Ar i I U49 Z79 I hl.kp I I) (Lfa U79 I Z56 I (Lq I (BA (c.val.c) i 9 I G56 Z56 I I hl.kp hc (by decide) (En.val_part _)) (l_e I (Az I I Z56 I I (Kv.ko _) (Kv.one _) (by simp only[Kv.ko]; decide) (Ce c.val.c (Sep.ku (by simp only[Kv.ko])) (Ak I (Ag (BM I (AK I G56 Z56 (Hat 0 I) (Kv.ko _)) (id I) (λ_ h=>⟨(),by rw[hf],T0,h.kv⟩))))))))))))))
theorem En.set_val (e:En) (v:Kv 16):Sep.splice e.c 9 v.c=(⟨e.key,v⟩:En).c:=by
 unfold En.c
 have:=splice_mid (a:=e.key.c) (b:=e.val.c) (c:=[]) (vs:=v.c) (k:=9) (Kv.ko _) (by rw[Kv.ko,Kv.ko])
 simpa using this
def en0:En:=⟨kv0 8,kv0 16⟩
theorem WW (key:Kv 8) (w:World):(Instr.build 79 #[(0,.agg key.c.toArray)]).run prog w=.ok (.agg (⟨key,kv0 16⟩:En).c.toArray) w:=by
 obtain⟨a,b,c,d,e,f,g,h,hb⟩:=Gv key
 unfold En.c Kv.c
 rw[hb]
 kernel_rfl
theorem UR (l:List En) (m:Ms) (hs:BG l) (hn:l.length<=60000):Con prog 108 [va,.agg m.c.toArray] (λw=>RdV w va En.enc l) [] (λv:Value=>v) Tr (λv=>[AA v 79 En.enc (Bs l m)]):=by
 intro w hl hH
 obtain⟨i,hi⟩:∃i,i=Cd l m.key:=⟨_,rfl⟩
 have hil:i<=l.length:=by rw[hi]; exact JW _ _
 refine E0 func108 I hH (Cs I (l_e I (AT I I I I (λbm=>Ce m.c I (Ak I (Cs I (Lm I (Lfa B8 I Z77 I (Lq I (Cq (m.key.c) G77 Z77 0 I (Ms.kK _) (Kv.ko _)) (l_e I (E1 (JA l m.key hs (by omega)) I call158 hl.kp ?_)))))))))))
 intro _ _
 rw[<-hi]
 refine Mv 4 I (Ak I (Af (Do8 (rg 9) 16038 (λw2=>(Ad bm 154 m.c).at w2/\RdV w2 va En.enc l) I St.drawn (Hd 0 I hl.kp) (Dfa B8 I Z77 I (Dq I (AQ (m.key.c) I G77 Z77 I (λ_ h=>h.1) (Ms.kK _) (Kv.ko _)) (Dq I (AP ((⟨m.key,kv0 16⟩:En).c) I I (λw=>WW _ w)) (Md 2 I (Dq I (Ef i I U49 Z79 I (λ_ h=>h.2) I I (by omega)) (d_e I (Au I I I zeroValue79 (λbe=>Ce en0.c I (Ai (Hd 1 I hl.kp) (d_e I (Az I I Z79 I I (En.ko _) (En.one _) (by simp only[En.ko]; decide) (Ce (⟨m.key,kv0 16⟩:En).c (Sep.ku (by simp only[En.ko])) (Ai (Hd 1 I hl.kp) (d_t I (e_q I I (AF I I) (AL (Ks (Cs I (Lm I (Nk ?_)))))))))))))))))))))))
 refine Pre.caseB 24 I (λhis=>?_) (λhis=>?_)
 .obtain⟨c,hc,hck,hf⟩:=NW his
  rw[<-hi] at hc
  have hlt:=(lR.1 hc).1
  refine Ah I (Do8 (rg 12) 413343 (λw2=>RdV w2 va En.enc l) I St.drawn hl.kp (Md 2 I (Dq I (Ar i I U49 Z79 I Ih I I) (Dfa U79 I Z56 I (Dq I (BA (c.val.c) i 9 I G56 Z56 I I Ih hc (by decide) (En.val_part _)) (Md 2 I (Dq I (Qi I) (Dq I (Ef (i+1) I U49 Z79 I Ih I I (by omega)) (Dfa U79 I Z56 I (d_e I (Az I I Z56 I I (Kv.ko _) (Kv.one _) (by rw[Kv.ko,En.ko]; decide) (AR (En.set_val _ _) (Ai hl.kp (d_t I (e_q I I (AF I I) (AL (Kt (Cs I (Ak I (Af (Do8 [0,1,2,4,5,6,3,7,8] 18225 (λw2=>RdV w2 va En.enc l) I St.drawn hl.kp ?_)))))))))))))))))))))
  refine Dm I (Dq I (AJ I U49 I Ih) (Dq I (Qi I) (Md 2 I (Dq I (FH i I U49 Z79 I Ih I I (by omega)) ?_))))
  have hmp:Cp (AN l m.key).1 (AN l m.key).2 m=Cp c.val true m:=by rw[hf]
  obtain⟨r,hr⟩:∃r,r=Cp c.val true m:=⟨_,rfl⟩
  have hput:Bs l m=l.take i++(if r.2=true then [(⟨m.key,r.1⟩:En)] else [])++l.drop (i+1):=by
   unfold Bs CY; rw[hmp,<-hi,<-hr,his]; rfl
  have hti:(l.take i).length<=i:=oO _ _
  refine d_e I (S7 En.enc (l.length+1) I I I U49 CK I I I I I I I (by simp only[Gq]; omega) (by omega) (λv1=>Ai hl.kp (d_t I (Ap U49 U49 CK I (λ_ h=>by have:=CH (hl.keep h (by simp)) (lo:=0) (hi:=i) (lK _) hil; rwa[lE] at this) (by simp<;>omega) (λv2=>d_t I (e_q I I (AF I I) (AL (Ks (Cs I (Lfa U79 I Z56 I (Lq I (Cq ((⟨m.key,c.val⟩:En).val.c) G56 Z56 1 I (En.val_part _) (Kv.ko _)) (Lm I (Lq I (Cq (m.c) Cm Bl 2 I (Br _) (Ms.ko _)) (Bt (l':=l.take i) (by simp) (Sv' 46 (.bool true) I (by rw[his]) (l_e I (E1 (Gy c.val true m) I call159 Tt ?_)))))))))))))))))
  intro _ _
  rw[<-hr]
  refine Mv 3 I (Lfa U79 I Z56 I (AM (l_e I (Az I I Z56 I I (Kv.ko _) (Kv.one _) (by rw[Kv.ko,En.ko]; decide) (AR (En.set_val _ _) (Ak I (Cs I (Lm I (Nk (Pre.caseB 52 I (λhr2=>?_) (λhr2=>?_)))))))))))
  .exact Ah I (Cr I (Lm I (Lq I (Cq ((⟨m.key,r.1⟩:En).c) G79 Z79 0 I (En.whole _) (En.ko _)) (l_e I (Ax (sz:=26) [.tmp 54] I I I I I U49 Z79 I zeroValue79 (by simp[Value.cells,En.ko]) (λb4=>AX (l_e I (Ap U49 U49 CK I (λ_ h=>AY (h.at 1 I) En.enc [(⟨m.key,r.1⟩:En)] I I) (by simp<;>omega) (λv3=>AM (Av (Ak I (Cs I (Mv 2 I (l_e I (BT I I I U49 U49 CK I I I I I (λ_ h=>by have:=CH (hl.keep h (by simp)) (lo:=i+1) (hi:=l.length) (by omega) (lJ _); rwa[oG] at this) (by simp only[Gq]; simp; omega) (by simp<;>omega) (λv4=>Ak I (Ag (Bt (l':=Bs l m) (by rw[hput,hr2]; simp) (Ao I I (λ_ h=>⟨v4,rfl,T0,h.sublist (oQ.2 (nF _))⟩))))))))))))))))))))
  .exact Aa I (Ae (Kt (Cs I (Mv 2 I (AM (l_e I (BT I I I U49 U49 CK I I I I I (λ_ h=>by have:=CH (hl.keep h (by simp)) (lo:=i+1) (hi:=l.length) (by omega) (lJ _); rwa[oG] at this) (by simp only[Gq]; simp; omega) (by simp<;>omega) (λv4=>Ak I (Ag (Bt (l':=Bs l m) (by rw[hput,hr2]; simp) (Ao I I (λ_ h=>⟨v4,rfl,T0,h.sublist (oQ.2 (nF _))⟩))))))))))))
 .have hf:=Ru his
  refine Aa I (Ae (Kt (Cs I (Ak I (Af (Do8 [0,1,2,4,5,6,3,7,8] 18225 (λw2=>RdV w2 va En.enc l) I St.drawn hl.kp (Dm I (Dq I (AJ I U49 I Ih) (Dq I (Qi I) (Md 2 I (Dq I (FH i I U49 Z79 I Ih I I (by omega)) ?_)))))))))))
  have hmp:Cp (AN l m.key).1 (AN l m.key).2 m=Cp (kv0 16) false m:=by rw[hf]
  obtain⟨r,hr⟩:∃r,r=Cp (kv0 16) false m:=⟨_,rfl⟩
  have hput:Bs l m=l.take i++(if r.2=true then [(⟨m.key,r.1⟩:En)] else [])++l.drop (i+0):=by
   unfold Bs CY; rw[hmp,<-hi,<-hr,his]; rfl
  have hti:(l.take i).length<=i:=oO _ _
  refine d_e I (S7 En.enc (l.length+1) I I I U49 CK I I I I I I I (by simp only[Gq]; omega) (by omega) (λv1=>Ai hl.kp (d_t I (Ap U49 U49 CK I (λ_ h=>by have:=CH (hl.keep h (by simp)) (lo:=0) (hi:=i) (lK _) hil; rwa[lE] at this) (by simp<;>omega) (λv2=>d_t I (e_q I I (AF I I) (AL (Ks (Cs I (Lfa U79 I Z56 I (Lq I (Cq ((⟨m.key,kv0 16⟩:En).val.c) G56 Z56 1 I (En.val_part _) (Kv.ko _)) (Lm I (Lq I (Cq (m.c) Cm Bl 2 I (Br _) (Ms.ko _)) (Bt (l':=l.take i) (by simp) (Sv' 46 (.bool false) I (by rw[his]) (l_e I (E1 (Gy (kv0 16) false m) I call159 Tt ?_)))))))))))))))))
  intro _ _
  rw[<-hr]
  refine Mv 3 I (Lfa U79 I Z56 I (AM (l_e I (Az I I Z56 I I (Kv.ko _) (Kv.one _) (by rw[Kv.ko,En.ko]; decide) (AR (En.set_val _ _) (Ak I (Cs I (Lm I (Nk (Pre.caseB 52 I (λhr2=>?_) (λhr2=>?_)))))))))))
  .exact Ah I (Cr I (Lm I (Lq I (Cq ((⟨m.key,r.1⟩:En).c) G79 Z79 0 I (En.whole _) (En.ko _)) (l_e I (Ax (sz:=26) [.tmp 54] I I I I I U49 Z79 I zeroValue79 (by simp[Value.cells,En.ko]) (λb6=>AX (l_e I (Ap U49 U49 CK I (λ_ h=>AY (h.at 1 I) En.enc [(⟨m.key,r.1⟩:En)] I I) (by simp<;>omega) (λv3=>AM (Av (Ak I (Cs I (Mv 2 I (l_e I (BT I I I U49 U49 CK I I I I I (λ_ h=>by have:=CH (hl.keep h (by simp)) (lo:=i) (hi:=l.length) hil (lJ _); rwa[oG] at this) (by simp only[Gq]; simp; omega) (by simp<;>omega) (λv4=>Ak I (Ag (Bt (l':=Bs l m) (by rw[hput,hr2]; simp) (Ao I I (λ_ h=>⟨v4,rfl,T0,h.sublist (oQ.2 (nF _))⟩))))))))))))))))))))
  .exact Aa I (Ae (Kt (Cs I (Mv 2 I (AM (l_e I (BT I I I U49 U49 CK I I I I I (λ_ h=>by have:=CH (hl.keep h (by simp)) (lo:=i) (hi:=l.length) hil (lJ _); rwa[oG] at this) (by simp only[Gq]; simp; omega) (by simp<;>omega) (λv4=>Ak I (Ag (Bt (l':=Bs l m) (by rw[hput,hr2]; simp) (Ao I I (λ_ h=>⟨v4,rfl,T0,h.sublist (oQ.2 (nF _))⟩))))))))))))
def MM (l:List En) (ms:List Ms):Prop:=∀i,i<=ms.length->BG (Ec l (ms.take i))
theorem US (h:ms[i]?=some m):Ec l (ms.take (i+1))=Bs (Ec l (ms.take i)) m:=by
 unfold Ec; rw[nT,h,oY]; rfl
theorem FD {e:En} (h:l[i]?=some e):((l.take (i+1)).map lsz).sum=((l.take i).map lsz).sum+lsz e:=by
 rw[nT,h,mn,List.sum_append]; simp
def En.Bd (e:En):Prop:=-1000<=e.key.n/\e.key.n<=1000/\-1000<=e.val.n/\e.val.n<=1000
theorem Rw (h:∀e∈l,e.Bd) (i:Nat) : -2000*(i:Int)<=((l.take i).map lsz).sum/\((l.take i).map lsz).sum<=2002*(i:Int):=by
 induction i with
 |zero=>simp
 |succ i ih =>
  cases hx:l[i]? with
  |none=>rw[nT,hx]; simp only[Option.toList,nS]; omega
  |some e =>
   rw[FD hx]
   have:=h e (mQ hx)
   unfold En.Bd at this
   have hz:lsz e=2+e.key.n+e.val.n:=rfl
   omega
def L7 {α:Type} (own:Bool) (v:Value) (t:TypeId) (E:Enc α) (l:List α):Ent:=if own=true then AA v t E l else⟨none,λ_=>True⟩
theorem Ij {own:Bool} {t:TypeId} {E:Enc α} {l:List α} (h:St w0 D H w) (i:Nat) (hi:H[i]?=some (L7 own v t E l)) (hr:own=false->RdV w v E l):RdV w v E l:=by
 cases own with
 |true=>exact h.rd i hi
 |false=>exact hr rfl
theorem MN (v:Value) (t:TypeId) (E:Enc α) (l:List α) (k:Pre n L (St w0 D (L7 false v t E l::H)) F):Pre n L (St w0 D H) F:=k.world _ (λw s=>s.add (e':=L7 false v t E l) rfl trivial)
theorem MO (l:List En) (ms:List Ms) (hr:MM l ms) (hn:l.length+ms.length<=60000):Con prog 58 [va,vm] (λw=>RdV w va En.enc l/\RdV w vm Ms.enc ms) [] (λb:Value×Bool=>b.1) (λb=>(ms≠[]->b.2=true)/\(b.2=false->b.1=va/\ms=[])) (λb=>[L7 b.2 b.1 79 En.enc (Ec l ms)]):=by
 intro w hE hH
 obtain⟨hl,hm⟩:=hE
 refine E0 func58 I hH (Cs I (Ak I (Af (Cs I (Lm I (Lq I (AJ I BO I hm.kp) (Lm I (Nk (Aj (MN va 79 En.enc l ?_))))))))))
 refine Fp (λ(i:Nat) (own:Bool) (v:Value)=>[(0,v),(7,vm),(8,.int .i64 (ms.length:Int)),(9,.int .i64 (i:Int))]) (λ(i:Nat) (own:Bool) (v:Value)=>St w [] [L7 own v 79 En.enc (Ec l (ms.take i))]) (λ(i:Nat) (own:Bool) (v:Value)=>i<=ms.length/\(0<i->own=true)/\(own=false->v=va/\i=0)) (λ(i:Nat) (own:Bool) (v:Value)=>ms.length-i) (0) (false) (va) ⟨lK _,λh=>absurd h (Nat.lt_irrefl _),λ_=>⟨rfl,rfl⟩⟩ (Si I) Ih (λi own v hp=>Af ?_)
 obtain⟨hi,how,hno⟩:=hp
 have hlen:=KQ (ms.take i) l
 have htl:=oO i ms
 refine Cr I (Lq I (Ql I) (Ns (CB 10 I (λh1=>?_) (λh1=>?_))))
 .obtain⟨m,hmi⟩:=gE ms i
  have hsn:=US (l:=l) hmi
  refine Ah I (Ae (Ks (Aj (Cs I (Lq I (Ar i I BO Bl I hm.kp I I) (Lq I (AV i I Cm Bl I I hm.kp hmi) (l_e I (Au I I I zeroValue154 (λbm=>Ce ms0.c I (l_e I (Az I I Bl I I (Ms.ko _) (Ms.one _) (by show 0+(Ms.c _).length<=(Ms.c _).length; rw[Ms.ko,Ms.ko]; decide) (Ce m.c (Sep.ku (by show (Ms.c _).length=_; rw[Ms.ko,Ms.ko])) (Nk (Cr I (Lm I (Lq I (Cq (m.c) Cm Bl 0 I (Br _) (Ms.ko _)) (l_e I (AZ (UR (Ec l (ms.take i)) m (hr i hi) (by omega)) rfl rfl rfl call108 rfl (λ_ h=>Ij h 1 rfl (λe=>by obtain⟨e1,e2⟩:=hno e; subst e1; subst e2; exact hl.keep h (by simp))) (λv2 _=>Las I (AB (Aw (Kt (Cr I (Lq I (Qi I) (Lm I (AB (AM (Av (AM (Av ?_))))))))))))))))))))))))))))))
  exact AE ((i+1,true,v2)) (by dsimp only; omega) ⟨by dsimp only; omega,λ_=>rfl,λe=>by cases e⟩ (Si I) (λ_ h=>by dsimp only; rw[hsn]; exact h)
 .have hfin:ms.take i=ms:=lI (by omega)
  rw[hfin]
  exact Aa I (AO (Ab (Ab (Am (Kt (Cs I (Lm I (Ak I (Ag (Ao I I (λ_ h=>⟨(v,own),rfl,⟨λhne=>how (by have:=nZ.2 hne; omega),λe=>⟨(hno e).1,lA (by have:=(hno e).2; omega)⟩⟩,h⟩)))))))))))
theorem ao (e:En):e.c[0+9+0]?=some (.int .i64 e.val.n):=by
 unfold En.c; rw[lx (by rw[Kv.ko]; decide),Kv.ko]; rfl
theorem KR (e:En) (hb:e.Bd):Con prog 308 [.agg e.c.toArray] Tr [] (λ_:Unit=>.int .i64 (lsz e)) Tr (λ_=>[]):=by
 intro w hE hH
 obtain⟨h1,h2,h3,h4⟩:=hb
 refine E0 func308 I hH ?_
 exact Cs I (l_e I (AT I I I I (λbe=>Ce e.c I (Ak I (Cs I (Lfa U79 I Z77 I (Lfa U77 I Z3 I (Lo G3 0 I (Lq I (Bh I I I) (Lfa U79 I Z56 I (Lfa U56 I Z3 I (Lq I (Al I G3 I (Hat 0 I) (ao _)) (Lq I (Bh I I I) (Ak I (Ag (Ao I I (λ_ h=>⟨(),rfl,T0,h.kv⟩)))))))))))))))))
theorem JB (l:List En) (hb:∀e∈l,e.Bd) (hn:l.length<=60000):Con prog 307 [va] (λw=>RdV w va En.enc l) [] (λ_:Unit=>.int .i64 (lby l)) Tr (λ_=>[]):=by
 intro w hl hH
 refine E0 func307 I hH (Cs I (Ak I (Cs I (Ak I (Af (Cs I (Lm I (Lq I (AJ I U49 I hl.kp) (Lm I (Nk (Aj ?_)))))))))))
 refine A0 (λ(i:Nat)=>[(3,.int .i64 ((l.take i).map lsz).sum),(6,va),(7,.int .i64 (l.length:Int)),(8,.int .i64 (i:Int))]) (λ(i:Nat)=>St w [] []) (λ(i:Nat)=>i<=l.length) (λ(i:Nat)=>l.length-i) (0) (lK _) (Si I) Ih (λi hi=>Af ?_)
 have hbd:=Rw hb i
 refine Cr I (Lq I (Ql I) (Ns (CB 9 I (λh1=>?_) (λh1=>?_))))
 .obtain⟨c,hc⟩:=gE l i
  have hcb:=hb c (mQ hc)
  have hcb2:=hcb
  unfold En.Bd at hcb2
  have hsn:=FD hc
  have hlz:lsz c=2+c.key.n+c.val.n:=rfl
  refine Ah I (Ae (Ks (Aj (Cs I (Lq I (Ar i I U49 Z79 I hl.kp I I) (Lq I (AV i I G79 Z79 I I hl.kp hc) (l_e I (Au I I I zeroValue79 (λbe=>Ce en0.c I (l_e I (Az I I Z79 I I (En.ko _) (En.one _) (by show 0+(En.c _).length<=(En.c _).length; rw[En.ko,En.ko]; decide) (Ce c.c (Sep.ku (by show (En.c _).length=_; rw[En.ko,En.ko])) (Nk (Cr I (Lm I (Lq I (Cq (c.c) G79 Z79 0 I (En.whole _) (En.ko _)) (l_e I (E1 (KR c hcb) I call308 Tt (λ_ _=>Lq I (Bh I I I) (Las I (AB (Aw (Kt (Cr I (Lq I (Qi I) (Lm I (AB (Av ?_))))))))))))))))))))))))))))
  exact AE (i+1) (by omega) (by omega) (Sub.consE I (by rw[hsn]) (Si I)) (λ_ h=>h)
 .have hfin:l.take i=l:=lI (by omega)
  exact Aa I (AO (Ab (Ab (Am (Kt (Cs I (Lm I (Ak I (Ag (Ao I I (λ_ h=>⟨(),congrArg Ei (by rw[hfin]; rfl),T0,h.kv⟩)))))))))))
theorem Rx (hi:i<l.length) (h:E9 l i=false):lck l=false:=by
 unfold lck; rw[o7]; exact⟨i,lQ.2 hi,by rw[h]; decide⟩
theorem aq (h:∀i,i<l.length->E9 l i=true):lck l=true:=by
 unfold lck; rw[np]; exact λi hi=>h i (lQ.1 hi)
theorem ar (hc:l[0]?=some c):E9 l 0=(kck c.key&&vck c.val):=by
 unfold E9; rw[hc]; simp
theorem Tb {d:En} (hi:0<i) (hc:l[i]?=some c) (hd:l[i-1]?=some d):E9 l i=(kck c.key&&vck c.val&&decide (Bq d.key c.key<0)):=by
 unfold E9; rw[hc]
 cases i with
 |zero=>omega
 |succ i=>simp only[hd]
theorem Tc (hc:l[i]?=some c) (h:kck c.key=false):E9 l i=false:=by
 unfold E9; rw[hc]; simp[h]
theorem Td (hc:l[i]?=some c) (h:vck c.val=false):E9 l i=false:=by
 unfold E9; rw[hc]; simp[h]
theorem Pz (l:List En) (hn:l.length<=60000):Con prog 341 [va] (λw=>RdV w va En.enc l) [] (λ_:Unit=>.bool (lck l)) Tr (λ_=>[]):=by
 intro w hl hH
 refine E0 func341 I hH (Cs I (Ak I (Af (Cs I (Lm I (Lq I (AJ I U49 I hl.kp) (Lm I (Nk (Aj ?_)))))))))
 refine A0 (λ(i:Nat)=>[(0,va),(5,va),(6,.int .i64 (l.length:Int)),(7,.int .i64 (i:Int))]) (λ(i:Nat)=>St w [] []) (λ(i:Nat)=>i<=l.length/\∀j,j<i->E9 l j=true) (λ(i:Nat)=>l.length-i) (0) ⟨lK _,λj h=>absurd h (ov _)⟩ (Si I) Ih (λi hp=>Af ?_)
 obtain⟨hi,hj⟩:=hp
 refine Cr I (Lq I (Ql I) (Ns (CB 8 I (λh1=>?_) (λh1=>?_))))
 .obtain⟨c,hc⟩:=gE l i
  have hlt:=(lR.1 hc).1
  refine Ah I (Ae (Ks (Aj (Cs I (Lm I (Lq I (Ar i I U49 Z79 I hl.kp I I) (Lq I (AV i I G79 Z79 I I hl.kp hc) (l_e I (Au I I I zeroValue79 (λbe=>Ce en0.c I (Las I (l_e I (Az I I Z79 I I (En.ko _) (En.one _) (by show 0+(En.c _).length<=(En.c _).length; rw[En.ko,En.ko]; decide) (Ce c.c (Sep.ku (by show (En.c _).length=_; rw[En.ko,En.ko])) (Ns (Do8 (rg 26) 31381061805 (λw2=>(Ad be 79 c.c).at w2/\RdV w2 va En.enc l) I St.drawn (Hd 0 I hl.kp) (Dfa U79 I Z77 I (Dq I (AQ (c.key.c) I G77 Z77 I (λ_ h=>h.1) (En.kK _) (Kv.ko _)) (d_e I (E1 (Fs c.key) I call279 Tt (λ_ _=>Ai (Hd 0 I hl.kp) (Md 2 I ?_))))))))))))))))))))))
  refine CB 16 I (λhk=>?_) (λhk=>?_)
  .refine Md 21 I (AL (Kt (Ah I ?_)))
   exact Cs I (Ak I (Ag (As (Ac (Ac (As (Ac (Ao I I (λ_ h=>⟨(),congrArg Eb (Rx hlt (Tc hc hk)).symm,T0,h.kv⟩)))))))))
  .refine Dfa U79 I Z56 I (Dq I (AQ (c.val.c) I G56 Z56 I (λ_ h=>h.1) (En.val_part _) (Kv.ko _)) (d_e I (E1 (Kx c.val) I call316 Tt (λ_ _=>Ai (Hd 0 I hl.kp) (Md 3 I (CB 22 I (λhv=>?_) (λhv=>?_)))))))
   .refine Md 15 I (AL (Kt (Ah I (Cs I (Ak I (Ag (As (Ac (Ac ?_)))))))))
    exact As (Ac (Ao I I (λ_ h=>⟨(),congrArg Eb (Rx hlt (Td hc hv)).symm,T0,h.kv⟩)))
   .refine Dm I (Dq I (BQ I I I) (Dm I (CB 25 I (λh0=>?_) (λh0=>?_))))
    .obtain⟨d,hd⟩:=gE l (i-1)
     have hat:=Tb (by omega) hc hd
     rw[hk,hv] at hat
     refine Md 2 I (Dq I (CM I I I) (Dq I (Ar (i-1) I U49 Z79 I (λ_ h=>h.2) I (by omega)) (Dfa U79 I Z77 I (Dq I (BA (d.key.c) (i-1) 0 I G77 Z77 I I (λ_ h=>h.2) hd (by decide) (En.kK _)) (Dfa U79 I Z77 I (Dq I (AQ (c.key.c) I G77 Z77 I (λ_ h=>h.1) (En.kK _) (Kv.ko _)) (d_e I (E1 (FM d.key c.key) I call162 Tt (λ_ _=>Ai (Hd 0 I hl.kp) (Md 3 I (AL (Kt (CB 37 I (λhcm=>?_) (λhcm=>?_))))))))))))))
     .exact Ah I (Cs I (Ak I (Ag (As (Ac (Ac (As (Ac (Ao I I (λ_ h=>⟨(),congrArg Eb (Rx hlt (by rw[hat,oc (by omega)]; rfl)).symm,T0,h.kv⟩))))))))))
     .refine Aa I (Ae (Aw (Kt (Cr I (Lq I (Qi I) (Lm I (AB (Av ?_))))))))
      exact AE (i+1) (by omega) ⟨by omega,λj h=>by
       rcases o8.1 h with h|rfl
       .exact hj j h
       .rw[hat,od (by omega)]; rfl⟩ (Si I) (λ_ h=>h)
    .have hi0:i=0:=by omega
     subst hi0
     refine Md 12 I (AL (Kt (Aa I (Ae (Aw (Kt (Cr I (Lq I (Qi I) (Lm I (AB (Av ?_)))))))))))
     exact AE (0+1) (by omega) ⟨by omega,λj h=>by
      rcases o8.1 h with h|rfl
      .exact hj j h
      .rw[ar hc,hk,hv]; rfl⟩ (Si I) (λ_ h=>h)
 .have hie:i=l.length:=by omega
  exact Aa I (AO (Ab (Ab (Am (Kt (Cs I (Ak I (Ag (Ao I I (λ_ h=>⟨(),congrArg Eb (aq (λj h=>hj j (by omega))).symm,T0,h⟩))))))))))
section
variable {P:Program} {n:Nat} {L:Env} {o:Oper} {Q:Exit->Act->World->Prop} {K:Act->World->Prop} {w0:World} {D:List Nat}
theorem JY {v:β->Value} {p:β->Prop} {E:World->Prop} {F:List Ent} {HB:β->List Ent} {r:Operand} {name:String} {t:TypeId} {x:Value} (s:Con P f vs E [] v p HB) (ho:o.op=.call ⟨.invoke r name,xs.toArray,ts⟩) (hd:o.dst=some d) (hn:d.blt n) (hr:ev L r=some (.iface t x)) (hv:evs L xs=some us)
 (hm:∀w,(callMethod (.iface t x) name us.toArray).run P w=.ok (.enter f vs.toArray) w) (hE:∀w,St w0 D F w->E w) (h:∀b,p b->Pre n ((d,v b)::L) (St w0 D (HB b++F)) K):EOp P n L (St w0 D F) o Q K :=
 ZS hd hn (λa w k _=>Q7 ho hr hv hm a w k) (λw h=>s.frame (F:=F) h (hE w h)) h
end
theorem GA (hc:l[i]?=some c) (h:E9 l i):kck c.key=true/\vck c.val=true/\(0<i->∀d,l[i-1]?=some d->Bq d.key c.key<0):=by
 have hk:kck c.key=true:=by
  cases hk:kck c.key with
  |true=>rfl
  |false=>rw[Tc hc hk] at h; cases h
 have hv:vck c.val=true:=by
  cases hv:vck c.val with
  |true=>rfl
  |false=>rw[Td hc hv] at h; cases h
 refine⟨hk,hv,λhi d hd=>?_⟩
 rw[Tb hi hc hd,hk,hv] at h
 simpa using h
theorem Ry (h:lck l) {i:Nat} {c:En} (hc:l[i]?=some c):E9 l i=true:=by
 unfold lck at h; rw[np] at h; exact h i (lQ.2 (lR.1 hc).1)
theorem WX (h:lck l):∀e∈l,e.Bd:=λe he=>by
 obtain⟨i,hi⟩:=oJ.1 he
 obtain⟨h1,h2,_⟩:=GA hi (Ry h hi)
 have:=IX h1
 have:=IY h2
 unfold En.Bd; omega
theorem PA {R:α->α->Prop} (ht:∀a b c,R a b->R b c->R a c) {l:List α} (h:∀i a b,l[i]?=some a->l[i+1]?=some b->R a b):l.Pairwise R:=by
 refine S9 (λi j a b hij ha hb=>?_)
 obtain⟨k,rfl⟩:∃k,j=i+1+k:=⟨j-i-1,by omega⟩
 clear hij
 induction k generalizing b with
 |zero=>exact h i a b ha hb
 |succ k ih =>
  have hlt:=(lR.1 hb).1
  obtain⟨c,hc⟩:=gE l (i+1+k)
  exact ht a c b (ih c hc) (h (i+1+k) c b hc hb)
theorem WY (h:lck l):BG l:=PA (R:=λa b:En=>Bq a.key b.key<0) (λa b c h1 h2=>E7 h1 (mi h2)) (λi a b ha hb=>(GA hb (Ry h hb)).2.2 (by omega) a ha)
def Cv (n:Nd):Bool:=lck n.es&&decide (n.kids.length+n.piv.length+n.msgs.length=0)&&decide (lby n.es<=248)
theorem Ik (nv:NV) (hlf:nv.d.leaf):Con prog 258 [.agg nv.c.toArray] Tr [] (λ_:Unit=>.iface 365 (.agg nv.c.toArray)) Tr (λ_=>[]):=by
 intro w hE hH
 refine E0 func258 I hH ?_
 exact Cs I (l_e I (AT I I I I (λbn=>Ce nv.c I (Ak I (Af (Cs I (Lfa Cu I Z4 I (Lo G4 0 I (Nk (Sb 4 true I (hlf) (Ah I (Cs I (Lq I (Cq (nv.c) Bx AU 0 I (I) (I)) (Lq rfl (H6 rfl OV (λ_ h=>by cases h) rfl) (Ak I (Ag (Ac (Ao I I (λ_ h=>⟨(),rfl,T0,h.kv⟩)))))))))))))))))))
theorem PB (nv:NV) (hn:nv.d.Sm 60000):Con prog 340 [.agg nv.c.toArray] (λw=>NRd w nv) [] (λ_:Unit=>.bool (lck nv.d.es&&decide (nv.d.kids.length+nv.d.piv.length+nv.d.msgs.length=0))) Tr (λ_=>[]):=by
 intro w hE hH
 obtain⟨n1,n2,n3,n4⟩:=hn
 refine E0 func340 I hH (Cs I (l_e I (AT I I I I (λbn=>Ce nv.c I (Ak I (Cs I (Lfa OV I Z49 I (Lo G49 0 I (l_e I (E1 (Pz nv.d.es n1) I call341 hE.e.kp (λ_ _=>Lm I (Pre.caseB 6 I (λhc=>?_) (λhc=>?_)))))))))))))
 .exact Lfa OV I Z22 I (Lo G22 0 I (Lq I (AJ I U22 I hE.k.kp) (Lfa OV I NA I (Lo Ra 0 I (Lq I (AJ I FJ I hE.p.kp) (Lq I (Bh I I I) (Lfa OV I Hs I (Lo IN 0 I (Lq I (AJ I BO I hE.m.kp) (Lq I (Bh I I I) (Mv 2 I (Ak I (Ag (Ao I I (λ_ h=>⟨(),congrArg Eb (by rw[hc,o9,oE]; omega),T0,h.kv⟩)))))))))))))))
 .exact Mv 13 I (Ak I (Ag (Ao I I (λ_ h=>⟨(),congrArg Eb (by rw[hc]; rfl),T0,h.kv⟩))))
theorem PC (nv:NV) (hn:nv.d.Sm 60000) (hb:∀e∈nv.d.es,e.Bd):Con prog 339 [.agg nv.c.toArray] (λw=>NRd w nv) [] (λ_:Unit=>.int .i64 (lby nv.d.es)) Tr (λ_=>[]):=by
 intro w hE hH
 refine E0 func339 I hH ?_
 exact Cs I (l_e I (AT I I I I (λbn=>Ce nv.c I (Ak I (Cs I (Lfa OV I Z49 I (Lo G49 0 I (l_e I (E1 (JB nv.d.es hb hn.e) I call307 hE.e.kp (λ_ _=>Ak I (Ag (Ao I I (λ_ h=>⟨(),rfl,T0,h.kv⟩)))))))))))))
theorem PD (nv:NV) (hlf:nv.d.leaf) (hn:nv.d.Sm 60000):Con prog 272 [.agg nv.c.toArray] (λw=>NRd w nv) [] (λ_:Unit=>.bool (lck nv.d.es&&decide (nv.d.kids.length+nv.d.piv.length+nv.d.msgs.length=0))) Tr (λ_=>[]):=by
 intro w hE hH
 refine E0 func272 I hH ?_
 exact Cs I (l_e I (AT I I I I (λbn=>Ce nv.c I (Ak I (Cs I (Lq I (Cq (nv.c) Bx AU 0 I (I) (I)) (l_e I (E1 (Ik nv hlf) I call258 Tt (λ_ _=>l_e I (JY (PB nv hn) I I I I I (λw=>by kernel_rfl) (λ_ h=>hE.keep h) (λ_ _=>Ak I (Ag (Ao I I (λ_ h=>⟨(),rfl,T0,h.kv⟩))))))))))))))
theorem L8 (nv:NV) (hlf:nv.d.leaf) (hn:nv.d.Sm 60000) (hb:∀e∈nv.d.es,e.Bd):Con prog 199 [.agg nv.c.toArray] (λw=>NRd w nv) [] (λ_:Unit=>.int .i64 (lby nv.d.es)) Tr (λ_=>[]):=by
 intro w hE hH
 refine E0 func199 I hH ?_
 exact Cs I (l_e I (AT I I I I (λbn=>Ce nv.c I (Ak I (Cs I (Lq I (Cq (nv.c) Bx AU 0 I (I) (I)) (l_e I (E1 (Ik nv hlf) I call258 Tt (λ_ _=>l_e I (JY (PC nv hn hb) I I I I I (λw=>by kernel_rfl) (λ_ h=>hE.keep h) (λ_ _=>Ak I (Ag (Ao I I (λ_ h=>⟨(),rfl,T0,h.kv⟩))))))))))))))
theorem HR (nv:NV) (hlf:nv.d.leaf) (hn:nv.d.Sm 60000):Con prog 216 [.agg nv.c.toArray] (λw=>NRd w nv) [] (λ_:Unit=>.bool (Cv nv.d)) Tr (λ_=>[]):=by
 intro w hE hH
 refine E0 func216 I hH (Cs I (l_e I (AT I I I I (λbn=>Ce nv.c I (Ak I (Cs I (Ak I (Af (Cs I (Lq I (Cq (nv.c) Bx AU 0 I (I) (I)) (l_e I (E1 (Ik nv hlf) I call258 Tt (λ_ _=>Nk (Aj (Cs I (Lq rfl (Cz rfl OV (λ_ h=>by cases h) rfl) (Mv 2 I (Nk (Ah I (Cr I (Las I (AB (Aw (Kt (Cs I (Lq I (Cq (nv.c) Bx AU 0 I (I) (I)) (l_e I (E1 (PD nv hlf hn) I call272 (λ_ h=>hE.keep h) (λ_ _=>Lm I ?_)))))))))))))))))))))))))))))
 refine Pre.caseB 14 I (λhc=>?_) (λhc=>?_)
 .have hck:lck nv.d.es=true:=by rw[mz] at hc; exact hc.1
  exact Lq I (Cq (nv.c) Bx AU 0 I (I) (I)) (l_e I (E1 (L8 nv hlf hn (WX hck)) I call199 (λ_ h=>hE.keep h) (λ_ _=>Lm I (Lq I (H4 I I I) (Lq I (Qy I) (Ak I (Ag (Ao I I (λ_ h=>⟨(),congrArg Eb (by unfold Cv; rw[hc,o9]),T0,h.kv⟩)))))))))
 .exact Mv 5 I (Ak I (Ag (Ao I I (λ_ h=>⟨(),congrArg Eb (by unfold Cv; rw[hc]; rfl),T0,h.kv⟩))))
theorem PE (nv:NV) (hlf:nv.d.leaf):Con prog 136 [.agg nv.c.toArray] Tr [] (λ_:Unit=>.bool false) Tr (λ_=>[]):=by
 intro w hE hH
 refine E0 func136 I hH ?_
 exact Cs I (l_e I (AT I I I I (λbn=>Ce nv.c I (Ak I (Cs I (Lfa Cu I Z4 I (Lo G4 0 I (Mv 2 I (Sb 6 false I (by rw[hlf]; rfl) (Mv 5 I (Ak I (Ag (Ao I I (λ_ h=>⟨(),rfl,T0,h.kv⟩))))))))))))))
theorem L9 (nv:NV) (hlf:nv.d.leaf):Con prog 259 [.agg nv.c.toArray] Tr [] (λ_:Unit=>Cb) Tr (λ_=>[]):=by
 intro w hE hH
 refine E0 func259 I hH ?_
 exact Cs I (l_e I (AT I I I I (λbn=>Ce nv.c I (Ak I (Cs I (Ak I (Af (Cs I (Lq I (Cq (nv.c) Bx AU 0 I (I) (I)) (l_e I (E1 (Ik nv hlf) I call258 Tt (λ_ _=>Nk (Aj (Cs I (Lq rfl (CN rfl OW (λ_ h=>by cases h) rfl (by decide) zeroValue366) (Mv 2 I (Nk (Aa I (Ae (Aw (Kt (Cs I (Lm I (Ak I (Ag (Ao I I (λ_ h=>⟨(),rfl,T0,h.kv⟩)))))))))))))))))))))))))))
theorem KS (nv:NV) (hlf:nv.d.leaf):Con prog 200 [.agg nv.c.toArray] Tr [] (λ_:Unit=>.int .i64 (-1)) Tr (λ_=>[]):=by
 intro w hE hH
 refine E0 func200 I hH (Cs I (l_e I (AT I I I I (λbn=>Ce nv.c I (Ak I (Cs I (Las I (Ak I (Af (Cs I (Lq I (Cq (nv.c) Bx AU 0 I (I) (I)) (l_e I (E1 (L9 nv hlf) I call259 Tt (λ_ _=>Lq I (EL I U22 I) (Lm I (Nk (Aj ?_)))))))))))))))))
 refine A0 (λ(u:Unit)=>[(3,.int .i64 (-1)),(9,.int .i64 ((0:Nat):Int)),(10,.int .i64 ((0:Nat):Int))]) (λ(u:Unit)=>St w [] []) (λ(u:Unit)=>True) (λ(u:Unit)=>0) (()) trivial (Si I) (λ_ h=>h.kv) (λu _=>Cs I (Lq I (Ql I) (Ns (Sb 11 false I (I) (Aa I (AO (Ab (Ab (Am (Kt (Cs I (Lm I (Ak I (Ag (Ao I I ?_)))))))))))))))
 exact λ_ h=>⟨(),rfl,T0,h⟩
section
variable {P:Program} {n:Nat} {L:Env} {X:World->Prop} {o:Oper} {Q:Exit->Act->World->Prop} {K:Act->World->Prop} {w0:World} {D:List Nat}
theorem D6 {t:TypeId} {i:Operand} {y z:Value} (ho:o.op=.index t x i) (hx:ev L x=some y) (hi:ev L i=some z) (hr:∀w,(Instr.index t y z).run P w=.ok v w):QOp P n L X o v :=
 QOp.mk (λa=>Instr.index t (a.eval x) (a.eval i)) (λa=>by simp[execOp,ho]) (λa w hk _=>by rw[hk.eval hx,hk.eval hi]; exact hr w)
theorem CE {v:β->Value} {p:β->Prop} {E:World->Prop} {F:List Ent} {HB:β->List Ent} {g:Operand} (s:Con P f vs E [] v p HB) (ho:o.op=.call ⟨.value g,xs.toArray,ts⟩) (hd:o.dst=some d) (hn:d.blt n) (hg:ev L g=some (.func (.func f) #[] #[])) (hc:∀us w,(callFunc f us).run P w=.ok (.enter f us) w) (hv:evs L xs=some vs)
 (hE:∀w,St w0 D F w->E w) (h:∀b,p b->Pre n ((d,v b)::L) (St w0 D (HB b++F)) K):EOp P n L (St w0 D F) o Q K :=
 F1 (us:=[]) ho hd hn hg hc hv (λw h=>by rw[nS]; exact s.frame (F:=F) h (hE w h)) h
end
abbrev fnV (f:Nat):Value:=.func (.func f) #[] #[]
theorem DW (h:BG l) (h2:BG (Bs l m)):MM l [m]:=λi hi=>by
 cases i with
 |zero=>exact h
 |succ i=>simp at hi; subst hi; exact h2
theorem Fa (nv:NV) (hlf:nv.d.leaf):Con prog 270 [.agg nv.c.toArray] Tr [] (λ_:Unit=>.agg #[fnV 297,fnV 267]) Tr (λ_=>[]):=by
 intro w hE hH
 refine E0 func270 I hH ?_
 exact Cs I (l_e I (AT I I I I (λbn=>Ce nv.c I (l_e I (Au I I I zeroValue363 (λbr=>Nk (Cs I (Ak I (Af (Cs I (Lfa Cu I Z4 I (Lo G4 1 I (Nk (Sb 5 true I (hlf) (Ah I (Cr I (Ak I (Cs I (Lq I (AP [fnV 296,fnV 265] I I (λw=>by kernel_rfl)) (Lq I (AP [fnV 297,fnV 267] I I (λw=>by kernel_rfl)) (Lq I (AP [fnV 296,fnV 265,fnV 297,fnV 267] I I (λw=>by kernel_rfl)) (Lm I (Lq I (D6 (v:=.agg #[fnV 297,fnV 267]) I I I (λw=>by kernel_rfl)) (l_e I (Az rfl rfl sizeOf363 rfl rfl rfl (λv hv=>by simp at hv; rcases hv with rfl|rfl<;>rfl) (by show 0+2<=2; decide) (Ce [fnV 297,fnV 267] I (Nk (Ag (CJ I (AK I isAgg363 sizeOf363 (Hat 0 I) (I)) (λ_ h=>⟨(),rfl,T0,h.kv⟩))))))))))))))))))))))))))))))
theorem Dp (nv:NV) (ms:List Ms) (hr:MM nv.d.es ms) (hn:nv.d.es.length+ms.length<=60000):Con prog 297 [.agg nv.c.toArray,vm] (λw=>NRd w nv/\RdV w vm Ms.enc ms) [] (λb:Sv×Bool=>.agg (⟨⟨b.1,nv.s.k,nv.s.p,nv.s.m⟩,{nv.d with es:=Ec nv.d.es ms}⟩:NV).c.toArray) (λb=>(ms≠[]->b.2=true)/\(b.2=false->b.1.v=nv.s.e.v/\ms=[])) (λb=>[L7 b.2 b.1.v 79 En.enc (Ec nv.d.es ms)]):=by
 intro w hE hH
 obtain⟨hE,hm⟩:=hE
 refine E0 func297 I hH (Cs I (l_e I (AT I I I I (λbn=>Ce nv.c I (l_e I (Au I I I zeroValue135 (λbr=>Ce nv0.c I (Nk (Cs I (Lfa Cu I Z49 I (Lo G49 1 I (Lm I (l_e I (AZ (MO nv.d.es ms hr hn) I I I call58 I (λ_ h=>⟨hE.e.keep h (by simp),hm.keep h (by simp)⟩) ?_))))))))))))))
 intro ⟨v,own⟩ hb
 refine Lfa Cu I Z49 I (Pre.fact (λ_ h=>Gf (Ij h 0 rfl (λe=>by obtain⟨e1,e2⟩:=hb.2 e; dsimp only at e1; subst e1; subst e2; exact hE.e.keep h (by simp)))) ?_)
 rintro⟨s,hs⟩
 dsimp only at hs
 subst hs
 exact AX (l_e I (AG I I Z49 I I I (by show 1<5; decide) (Ce (⟨⟨s,nv.s.k,nv.s.p,nv.s.m⟩,{nv.d with es:=Ec nv.d.es ms}⟩:NV).c I (Nk (Cs I (Lq I (Cq ((⟨⟨s,nv.s.k,nv.s.p,nv.s.m⟩,{nv.d with es:=Ec nv.d.es ms}⟩:NV).c) Bx AU 0 I (I) (I)) (AX (l_e I (SW AU I (NV.one _) (Nk (Ag (AX (CJ I (AK I Bx AU (Hat 1 I) (I)) (λ_ h=>⟨(s,own),rfl,hb,h.sublist (oQ.2 (nF _))⟩))))))))))))))
def Dd (d:Nd) (m:Ms):Nd:={d with es:=Bs d.es m}
theorem Cw {t:TypeId} {E:Enc α} {l:List α} (k:Pre n L (St w0 D (AA v t E l::H)) F):Pre n L (St w0 D ([L7 true v t E l]++H)) F:=k
theorem Il (nv:NV) (m:Ms) (hlf:nv.d.leaf) (hr:BG nv.d.es) (hr2:BG (Bs nv.d.es m)) (hn:nv.d.Sm 50000):Con prog 253 [.agg nv.c.toArray,.agg m.c.toArray] (λw=>NRd w nv) [] (λs:Sv=>if Cv (Dd nv.d m)=true then .tuple #[.agg (⟨⟨s,nv.s.k,nv.s.p,nv.s.m⟩,Dd nv.d m⟩:NV).c.toArray,.bool true] else .tuple #[.agg nv.c.toArray,.bool false]) Tr (λs=>[Bv s (Bs nv.d.es m)]):=by
 intro w hE hH
 refine E0 func253 I hH (Cs I (l_e I (AT I I I I (λbn=>Ce nv.c I (l_e I (AT I I I I (λbm=>Ce m.c I (l_e I (Au I I I zeroValue135 (λbr=>Ce nv0.c I (Ak I (Af ?_))))))))))))
 have hin:(Dd nv.d m).es.length<=nv.d.es.length+1:=lput_len _ _
 obtain⟨n1,n2,n3,n4⟩:=hn
 refine Dw (λ(s:Sv) (bx:Nat)=>[(2,pV bn),(4,pV br),(6,pV bx)]) (λ(s:Sv) (bx:Nat)=>St w [] [Bv s (Bs nv.d.es m),Ad bx 135 (⟨⟨s,nv.s.k,nv.s.p,nv.s.m⟩,Dd nv.d m⟩:NV).c,Ad br 135 nv0.c,Ad bm 154 m.c,Ad bn 135 nv.c]) (λ(s:Sv) (bx:Nat)=>True) ?_ ?_
 .refine Fo (λw2=>(Ad bn 135 nv.c).at w2/\(Ad bm 154 m.c).at w2) I St.drawn (Aq 0 I (H2 2 1 I) (AQ (nv.c) I Bx AU I (λ_ h=>h.1) (I) (I)) (Aq 3 I (H2 2 1 I) (AQ (nv.c) I Bx AU I (λ_ h=>h.1) (I) (I)) (Aq 4 I (H2 2 1 I) (AQ (m.c) I Cm Bl I (λ_ h=>h.2) (Br _) (Ms.ko _)) (IJ 1 5 7 (by kernel_rfl) I I I I I I ?_ ?_ ?_))))
  .refine E1 (Fa nv hlf) I call270 Tt (λ_ _=>Ai (H2 2 1 I) (Aq 2 I (H2 2 1 I) (DM I JK I L3 I I) (Ay2 5 7 I ?_ ?_)))
   .refine Ax (sz:=29) [.tmp 11] I I I I I BO Bl I zeroValue154 (by simp[Value.cells,Ms.ko]) (λbl=>Ai (H2 3 2 I) (Ay2 6 7 I ?_ ?_))
    .refine CE (Dp nv [m] (DW hr hr2) (by show nv.d.es.length+1<=60000; omega)) I I I I call297 I (λ_ h=>⟨hE.keep h,AY (h.at 0 I) Ms.enc [m] I rfl⟩) ?_
     rintro⟨s,own⟩ ⟨ho,_⟩
     have ho2:=ho (by simp)
     dsimp only at ho2
     subst ho2
     refine Cw (Ai (H2 4 3 I) (Ay 7 I (Au I I I zeroValue135 (λbx=>Ce nv0.c I (Ai (H2 5 4 I) (Ay 8 I (SW AU I (NV.one _) (Ai (H2 5 4 I) (An (AX (Av (Pm [1] I ?_))))))))))))
     exact Bc ((s,bx)) trivial (Si I) (λ_ h=>h)
    .refine Au I I I zeroValue135 (λbx=>Ce nv0.c I (Ai (H2 4 3 I) (Ay 6 I (CE (Dp nv [m] (DW hr hr2) (by show nv.d.es.length+1<=60000; omega)) I I I I call297 I (λ_ h=>⟨hE.keep h,AY (h.at 1 I) Ms.enc [m] I rfl⟩) ?_))))
     rintro⟨s,own⟩ ⟨ho,_⟩
     have ho2:=ho (by simp)
     dsimp only at ho2
     subst ho2
     refine Cw (Ai (H2 5 4 I) (AM (Ay 8 I (SW AU I (NV.one _) (Ai (H2 5 4 I) (An (AX (Av (Pm [1] I ?_)))))))))
     exact Bc ((s,bx)) trivial (Si I) (λ_ h=>h)
   .refine Au I I I zeroValue135 (λbx=>Ce nv0.c I (Ai (H2 3 2 I) (Ay 5 I (Ax (sz:=29) [.tmp 11] I I I I I BO Bl I zeroValue154 (by simp[Value.cells,Ms.ko]) (λbl=>Ai (H2 4 3 I) (Ay 6 I (CE (Dp nv [m] (DW hr hr2) (by show nv.d.es.length+1<=60000; omega)) I I I I call297 I (λ_ h=>⟨hE.keep h,AY (h.at 0 I) Ms.enc [m] I rfl⟩) ?_)))))))
    rintro⟨s,own⟩ ⟨ho,_⟩
    have ho2:=ho (by simp)
    dsimp only at ho2
    subst ho2
    refine Cw (Ai (H2 5 4 I) (AX (Ay 8 I (SW AU I (NV.one _) (Ai (H2 5 4 I) (An (AX (Av (Pm [1] I ?_)))))))))
    exact Bc ((s,bx)) trivial (Si I) (λ_ h=>h)
  .refine Ax (sz:=29) [.tmp 11] I I I I I BO Bl I zeroValue154 (by simp[Value.cells,Ms.ko]) (λbl=>Ai (H2 3 2 I) (Ay2 1 7 I ?_ ?_))
   .refine E1 (Fa nv hlf) I call270 Tt (λ_ _=>Ai (H2 3 2 I) (Aq 2 I (H2 3 2 I) (DM I JK I L3 I I) (Ay2 6 7 I ?_ ?_)))
    .refine CE (Dp nv [m] (DW hr hr2) (by show nv.d.es.length+1<=60000; omega)) I I I I call297 I (λ_ h=>⟨hE.keep h,AY (h.at 0 I) Ms.enc [m] I rfl⟩) ?_
     rintro⟨s,own⟩ ⟨ho,_⟩
     have ho2:=ho (by simp)
     dsimp only at ho2
     subst ho2
     refine Cw (Ai (H2 4 3 I) (Ay 7 I (Au I I I zeroValue135 (λbx=>Ce nv0.c I (Ai (H2 5 4 I) (Ay 8 I (SW AU I (NV.one _) (Ai (H2 5 4 I) (An (AX (Av (Pm [1] I ?_))))))))))))
     exact Bc ((s,bx)) trivial (Si I) (λ_ h=>h)
    .refine Au I I I zeroValue135 (λbx=>Ce nv0.c I (Ai (H2 4 3 I) (Ay 6 I (CE (Dp nv [m] (DW hr hr2) (by show nv.d.es.length+1<=60000; omega)) I I I I call297 I (λ_ h=>⟨hE.keep h,AY (h.at 1 I) Ms.enc [m] I rfl⟩) ?_))))
     rintro⟨s,own⟩ ⟨ho,_⟩
     have ho2:=ho (by simp)
     dsimp only at ho2
     subst ho2
     refine Cw (Ai (H2 5 4 I) (AM (Ay 8 I (SW AU I (NV.one _) (Ai (H2 5 4 I) (An (AX (Av (Pm [1] I ?_)))))))))
     exact Bc ((s,bx)) trivial (Si I) (λ_ h=>h)
   .refine Au I I I zeroValue135 (λbx=>Ce nv0.c I (Ai (H2 4 3 I) (Ay 1 I (E1 (Fa nv hlf) I call270 Tt (λ_ _=>Ai (H2 4 3 I) (Aq 2 I (H2 4 3 I) (DM I JK I L3 I I) (Ay 6 I (CE (Dp nv [m] (DW hr hr2) (by show nv.d.es.length+1<=60000; omega)) I I I I call297 I (λ_ h=>⟨hE.keep h,AY (h.at 1 I) Ms.enc [m] I rfl⟩) ?_))))))))
    rintro⟨s,own⟩ ⟨ho,_⟩
    have ho2:=ho (by simp)
    dsimp only at ho2
    subst ho2
    refine Cw (Ai (H2 5 4 I) (AM (Ay 8 I (SW AU I (NV.one _) (Ai (H2 5 4 I) (An (AX (Av (Pm [1] I ?_)))))))))
    exact Bc ((s,bx)) trivial (Si I) (λ_ h=>h)
  .refine Au I I I zeroValue135 (λbx=>Ce nv0.c I (Ai (H2 3 2 I) (Ay2 1 5 I ?_ ?_)))
   .refine E1 (Fa nv hlf) I call270 Tt (λ_ _=>Ai (H2 3 2 I) (Aq 2 I (H2 3 2 I) (DM I JK I L3 I I) (Ay 5 I (Ax (sz:=29) [.tmp 11] I I I I I BO Bl I zeroValue154 (by simp[Value.cells,Ms.ko]) (λbl=>Ai (H2 4 3 I) (Ay 6 I (CE (Dp nv [m] (DW hr hr2) (by show nv.d.es.length+1<=60000; omega)) I I I I call297 I (λ_ h=>⟨hE.keep h,AY (h.at 0 I) Ms.enc [m] I rfl⟩) ?_)))))))
    rintro⟨s,own⟩ ⟨ho,_⟩
    have ho2:=ho (by simp)
    dsimp only at ho2
    subst ho2
    refine Cw (Ai (H2 5 4 I) (AX (Ay 8 I (SW AU I (NV.one _) (Ai (H2 5 4 I) (An (AX (Av (Pm [1] I ?_)))))))))
    exact Bc ((s,bx)) trivial (Si I) (λ_ h=>h)
   .refine Ax (sz:=29) [.tmp 11] I I I I I BO Bl I zeroValue154 (by simp[Value.cells,Ms.ko]) (λbl=>Ai (H2 4 3 I) (Ay 1 I (E1 (Fa nv hlf) I call270 Tt (λ_ _=>Ai (H2 4 3 I) (Aq 2 I (H2 4 3 I) (DM I JK I L3 I I) (Ay 6 I (CE (Dp nv [m] (DW hr hr2) (by show nv.d.es.length+1<=60000; omega)) I I I I call297 I (λ_ h=>⟨hE.keep h,AY (h.at 0 I) Ms.enc [m] I rfl⟩) ?_)))))))
    rintro⟨s,own⟩ ⟨ho,_⟩
    have ho2:=ho (by simp)
    dsimp only at ho2
    subst ho2
    refine Cw (Ai (H2 5 4 I) (AX (Ay 8 I (SW AU I (NV.one _) (Ai (H2 5 4 I) (An (AX (Av (Pm [1] I ?_)))))))))
    exact Bc ((s,bx)) trivial (Si I) (λ_ h=>h)
 .intro s bx _
  refine Af (Cs I (Lq I (Cq ((⟨⟨s,nv.s.k,nv.s.p,nv.s.m⟩,Dd nv.d m⟩:NV).c) Bx AU 1 I (I) (I)) (l_e I (E1 (HR (⟨⟨s,nv.s.k,nv.s.p,nv.s.m⟩,Dd nv.d m⟩:NV) hlf ⟨by show (Bs nv.d.es m).length<=60000; have:(Bs nv.d.es m).length<=nv.d.es.length+1:=hin; omega,mf n2 (by decide),mf n3 (by decide),mf n4 (by decide)⟩) I call216 (λ_ h=>⟨h.rd 0 rfl,hE.k.keep h (by simp),hE.p.keep h (by simp),hE.m.keep h (by simp)⟩) (λ_ _=>Lq I (Qt I) (Nk (CB 16 I (λhf=>?_) (λhf=>?_))))))))
  .exact Ah I (Cs I (Lq I (Cq (nv.c) Bx AU 4 I (I) (I)) (AX (l_e I (SW AU I (NV.one _) (Ak I (Ag (Ac (AM (BM I (AK I Bx AU (Hat 1 I) (I)) (id I) (λ_ h=>⟨s,by dsimp only; rw[lz (by rw[show Cv (Dd nv.d m)=false from hf]; decide)],T0,h.sublist (oQ.2 (nF _))⟩)))))))))))
  .exact Aa I (Ae (Kt (Cs I (Lq I (Cq ((⟨⟨s,nv.s.k,nv.s.p,nv.s.m⟩,Dd nv.d m⟩:NV).c) Bx AU 1 I (I) (I)) (AX (l_e I (SW AU I (NV.one _) (Ak I (Ag (AM (BM I (AK I Bx AU (Hat 1 I) (I)) (id I) (λ_ h=>⟨s,by dsimp only; rw[lu (show Cv (Dd nv.d m)=true from hf)],T0,h.sublist (oQ.2 (nF _))⟩))))))))))))
def KT {α:Type} (f:α->Bool) (lt:α->α->Bool) (l:List α):Nat->Bool
 |0=>match l[0]? with|some e=>f e|none=>true
 |i+1=>match l[i+1]?,l[i]? with|some e,some d=>f e&&lt d e|some e,none=>f e|none,_=>true
def GB {α:Type} (f:α->Bool) (lt:α->α->Bool) (l:List α):Bool:=(List.range l.length).all (KT f lt l)
section
variable {α:Type} {f:α->Bool} {lt:α->α->Bool} {l:List α}
theorem NX (hi:i<l.length) (h:KT f lt l i=false):GB f lt l=false:=by
 unfold GB; rw[o7]; exact⟨i,lQ.2 hi,by rw[h]; decide⟩
theorem NY (h:∀i,i<l.length->KT f lt l i=true):GB f lt l=true:=by
 unfold GB; rw[np]; exact λi hi=>h i (lQ.1 hi)
theorem Te {c:α} (hc:l[0]?=some c):KT f lt l 0=f c:=by unfold KT; rw[hc]
theorem Tf {c d:α} (hi:0<i) (hc:l[i]?=some c) (hd:l[i-1]?=some d):KT f lt l i=(f c&&lt d c):=by
 cases i with
 |zero=>omega
 |succ i =>
  have hd':l[i]?=some d:=hd
  simp only[KT,hc,hd']
theorem dM {c:α} (hc:l[i]?=some c) (h:f c=false):KT f lt l i=false:=by
 cases i with
 |zero=>rw[Te hc,h]
 |succ i =>
  obtain⟨d,hd⟩:∃d,l[i]?=some d:=⟨_,kY (by have:=(lR.1 hc).1; omega)⟩
  rw[Tf (Nat.succ_pos i) hc hd,h]; rfl
end
def ET (l:List (Kv 8)) (k:Kv 8):Nat:=l.countP (λp=>decide (Bq p k<=0))
theorem UT {l:List (Kv 8)} {p:Kv 8} (h:l[i]?=some p):ET (l.take (i+1)) k=ET (l.take i) k+(if Bq p k<=0 then 1 else 0):=by
 unfold ET; rw[nT,h,List.countP_append]; simp[List.countP_cons]
theorem au (l:List (Kv 8)) (k:Kv 8):ET l k<=l.length:=List.countP_le_length
def fpl (l:List Int) (x:Int):Option Nat:=B7 (λy=>decide (y=x)) l
def fkB (l:List Int) (i:Nat):Bool:=match l[i]? with|some x=>decide (1<=x)&&(decide (x<256)&&decide (fpl l x=some i))|none=>true
def ltK (a b:Kv 8):Bool:=decide (Bq a b<0)
def fck (ks:List Int) (ps:List (Kv 8)):Bool:=decide (2<=ks.length/\ks.length<=4/\ps.length+1=ks.length)&&((List.range ks.length).all (fkB ks)&&GB kck ltK ps)
theorem Rz {l:List Int} (hi:i<l.length) (h:fkB l i=false):(List.range l.length).all (fkB l)=false:=by
 rw[o7]; exact⟨i,lQ.2 hi,by rw[h]; decide⟩
theorem ax {l:List Int} (h:∀i,i<l.length->fkB l i=true):(List.range l.length).all (fkB l)=true:=by
 rw[np]; exact λi hi=>h i (lQ.1 hi)
theorem dN {o:Option Nat} {i:Nat}:(io o=(i:Int))↔o=some i:=by
 cases o with
 |none=>exact⟨λh=>by simp only[io] at h; omega,λh=>by cases h⟩
 |some j=>simp only[io,Option.some.injEq]; omega
theorem PF (l:List Int) (x:Int) (hn:l.length<=65536):Con prog 157 [va,.int .i64 x] (λw=>RdV w va (AH .i64) l) [] (λ_:Unit=>.int .i64 (io (fpl l x))) Tr (λ_=>[]):=by
 intro w hl hH
 refine E0 func157 I hH (Cs I (Ak I (Af (Cs I (Lm I (Lq I (AJ I U22 I hl.kp) (Lm I (Nk (Aj ?_)))))))))
 refine A0 (λ(i:Nat)=>[(0,va),(1,.int .i64 x),(7,.int .i64 (l.length:Int)),(8,.int .i64 (i:Int))]) (λ(i:Nat)=>St w [] []) (λ(i:Nat)=>i<=l.length/\∀z∈l.take i,decide (z=x)=false) (λ(i:Nat)=>l.length-i) (0) ⟨lK _,by simp⟩ (Si I) Ih (λi hp=>Af ?_)
 obtain⟨hi,hno⟩:=hp
 refine Cr I (Lq I (Ql I) (Ns (CB 9 I (λh1=>?_) (λh1=>?_))))
 .obtain⟨y,hy⟩:=gE l i
  refine Ah I (Ae (Ks (Aj (Cs I (Lm I (Ak I (Cs I (Mv 3 I (Lq I (Ar i I U22 Z3 I hl.kp I I) (Lq I (AI i 0 I G3 I I hl.kp hy I) (Lq I (Qe I) (Nk (CB 16 I (λhe=>?_) (λhe=>?_))))))))))))))
  .exact Ah I (Cs I (Lm I (Ak I (Ag (As (Ac (Ac (As (Ac (Ao I I (λ_ h=>⟨(),congrArg Ei (by unfold fpl; rw[C7 hy (od he.symm) hno]; rfl),T0,h⟩)))))))))))
  .refine Aa I (Ae (Aw (Kt (Cr I (Lq I (Qi I) (Lm I (AB ?_)))))))
   exact AE (i+1) (by omega) ⟨by omega,EY hno hy (oc (λe=>he e.symm))⟩ (Si I) (λ_ h=>h)
 .rw[lI (by omega)] at hno
  exact Aa I (AO (Ab (Ab (Am (Kt (Cs I (Ak I (Ag (Ao I I (λ_ h=>⟨(),congrArg Ei (by unfold fpl; rw[C8 hno]; rfl),T0,h⟩))))))))))
theorem PG (l:List Int) (x:Int) (hn:l.length<=65536):Con prog 203 [va,.int .i64 x] (λw=>RdV w va (AH .i64) l) [] (λ_:Unit=>.int .i64 (io (fpl l x))) Tr (λ_=>[]):=by
 intro w hl hH
 refine E0 func203 I hH ?_
 exact Cs I (Ak I (Cs I (Mv 2 I (l_e I (E1 (PF l x hn) I call157 hl.kp (λ_ _=>Ak I (Ag (Ao I I (λ_ h=>⟨(),rfl,T0,h⟩)))))))))
theorem MP (l:List (Kv 8)) (k:Kv 8) (hn:l.length<=60000):Con prog 178 [vp,.agg k.c.toArray] (λw=>RdV w vp (Kv.enc 8) l) [] (λ_:Unit=>.int .i64 (ET l k:Int)) Tr (λ_=>[]):=by
 intro w hE hH
 refine E0 func178 I hH (Cs I (l_e I (AT I I I I (λbk=>Ce k.c I (Ak I (Cs I (Ak I (Af (Cs I (Lm I (Lq I (AJ I FJ I hE.kp) (Lm I (Nk (Aj ?_))))))))))))))
 refine A0 (λ(i:Nat)=>[(3,pV bk),(5,.int .i64 (ET (l.take i) k:Int)),(8,vp),(9,.int .i64 (l.length:Int)),(10,.int .i64 (i:Int))]) (λ(i:Nat)=>St w [] [Ad bk 77 k.c]) (λ(i:Nat)=>i<=l.length) (λ(i:Nat)=>l.length-i) (0) (lK _) (Si I) Ih (λi hi=>Cs I (Lq I (Ql I) (Ns ?_)))
 refine CB 11 I (λh1=>?_) (λh1=>?_)
 .obtain⟨p,hx⟩:=gE l i
  have hsn:=UT (k:=k) hx
  have hle:=au (l.take i) k
  have htl:=oO i l
  refine Ah I (Ae (Ks (Aj (Cs I (Lq I (Ar i I FJ Z77 I hE.kp I I) (Lq I (AV i I G77 Z77 I I hE.kp hx) (l_e I (Au I I I zeroValue77 (λbp=>Ce (kv0 8).c I (l_e I (Az I I Z77 I I (Kv.ko _) (Kv.one _) (by show 0+(Kv.c _).length<=(Kv.c _).length; rw[Kv.ko,Kv.ko]; decide) (Ce (p).c (Sep.ku (by show (Kv.c _).length=_; rw[Kv.ko,Kv.ko])) (Nk (Cs I (Lq I (Cq (p.c) G77 Z77 0 I (Bb _) (Kv.ko _)) (Lq I (Cq (k.c) G77 Z77 1 I (Bb _) (Kv.ko _)) (l_e I (E1 (FM p k) I call162 Tt (λ_ _=>Lq I (H4 I I I) (Nk (CB 17 I (λh2=>?_) (λh2=>?_))))))))))))))))))))))
  .rw[lu h2] at hsn
   refine Ah I (Cr I (Lm I (Lq I (Qi I) (Las I (AB (Aw (Kt (Cr I (Lq I (Qi I) (Lm I (AB (Av ?_))))))))))))
   exact AE (i+1) (by omega) (by omega) (Sub.cons I (Sub.consE I (by rw[hsn]) (Si I))) (λ_ h=>h)
  .rw[lz h2] at hsn
   refine Aa I (Ae (Aw (Kt (Cr I (Lq I (Qi I) (Lm I (AB (Av ?_))))))))
   exact AE (i+1) (by omega) (by omega) (Sub.cons I (Sub.consE I (by rw[hsn]; rfl) (Si I))) (λ_ h=>h)
 .have hfin:l.take i=l:=lI (by omega)
  rw[hfin]
  exact Aa I (AO (Ab (Ab (Am (Kt (Cs I (Lm I (Ak I (Ag (Ao I I (λ_ h=>⟨(),rfl,T0,h.kv⟩)))))))))))
theorem PH {vk:Value} (ks:List Int) (ps:List (Kv 8)) (hn:ks.length<=60000) (hn2:ps.length<=60000):Con prog 344 [vk,vp] (λw=>RdV w vk (AH .i64) ks/\RdV w vp (Kv.enc 8) ps) [] (λ_:Unit=>.bool (fck ks ps)) Tr (λ_=>[]):=by
 intro w hE hH
 obtain⟨hk,hp⟩:=hE
 refine E0 func344 I hH (Cs I (Ak I (Af (Cs I (Lm I (Lq I (AJ I U22 I hk.kp) (Mv 2 I (CB 12 I (λh1=>?_) (λh1=>?_)))))))))
 .exact Mv 12 I (Nk (Ah I (Cs I (Ak I (Ag (Ac (Ao I I (λ_ h=>⟨(),congrArg Eb (by unfold fck; rw[oc (by omega)]; rfl),T0,h⟩))))))))
 .refine Lm I (Lq I (AJ I U22 I hk.kp) (Lq I (BQ I I I) (Mv 2 I (CB 17 I (λh2=>?_) (λh2=>?_)))))
  .exact Mv 7 I (Nk (Ah I (Cs I (Ak I (Ag (Ac (Ao I I (λ_ h=>⟨(),congrArg Eb (by unfold fck; rw[oc (by omega)]; rfl),T0,h⟩))))))))
  .refine Lm I (Lq I (AJ I FJ I hp.kp) (Lm I (Lq I (AJ I U22 I hk.kp) (Lq I (CM I I I) (Mv 2 I (Nk (CB 24 I (λh3=>?_) (λh3=>?_))))))))
   .exact Ah I (Cs I (Ak I (Ag (Ac (Ao I I (λ_ h=>⟨(),congrArg Eb (by unfold fck; rw[oc (by omega)]; rfl),T0,h⟩))))))
   .refine Aa I (Ae (Ks (Cs I (Lm I (Lq I (AJ I U22 I hk.kp) (Lm I (Nk (Aj ?_))))))))
    have hyes:decide (2<=ks.length/\ks.length<=4/\ps.length+1=ks.length)=true:=od (by omega)
    refine A0 (λ(i:Nat)=>[(0,vk),(1,vp),(25,vk),(26,.int .i64 (ks.length:Int)),(27,.int .i64 (i:Int))]) (λ(i:Nat)=>St w [] []) (λ(i:Nat)=>i<=ks.length/\∀j,j<i->fkB ks j=true) (λ(i:Nat)=>ks.length-i) (0) ⟨lK _,λj h=>absurd h (ov _)⟩ (Si I) Ih (λi hp2=>Af ?_)
    obtain⟨hi,hj⟩:=hp2
    refine Cr I (Lq I (Ql I) (Ns (CB 28 I (λh4=>?_) (λh4=>?_))))
    .obtain⟨x,hx⟩:=gE ks i
     have hlt:=(lR.1 hx).1
     refine Ah I (Ae (Ks (Aj (Cs I (Lm I (Lq I (Ar i I U22 Z3 I hk.kp I I) (Lq I (AI i 0 I G3 I I hk.kp hx I) (Las I (Ak I (Cs I (Mv 3 I (CB 34 I (λh5=>?_) (λh5=>?_)))))))))))))
     .exact Mv 10 I (Nk (Ah I (Cs I (Ak I (Ag (As (Ac (Ac (As (Ac (Ao I I (λ_ h=>⟨(),congrArg Eb (by unfold fck; rw[Rz hlt (by unfold fkB; rw[hx]; simp only[oc (show ¬1<=x by omega),nw]; try simp)]; simp),T0,h⟩))))))))))))
     .refine Mv 4 I (CB 38 I (λh6=>?_) (λh6=>?_))
      .exact Mv 6 I (Nk (Ah I (Cs I (Ak I (Ag (As (Ac (Ac (As (Ac (Ao I I (λ_ h=>⟨(),congrArg Eb (by unfold fck; rw[Rz hlt (by unfold fkB; rw[hx]; simp only[oc (show ¬x<256 by omega),nw,oP]; try simp)]; simp),T0,h⟩))))))))))))
      .refine Mv 2 I (l_e I (E1 (PG ks x (by omega)) I call203 hk.kp (λ_ _=>Lm I (Mv 2 I (Nk (CB 44 I (λh7=>?_) (λh7=>?_)))))))
       .exact Ah I (Cs I (Ak I (Ag (As (Ac (Ac (As (Ac (Ao I I (λ_ h=>⟨(),congrArg Eb (by unfold fck; rw[Rz hlt (by unfold fkB; rw[hx]; simp only[oc (show ¬fpl ks x=some i from λe=>h7 (dN.2 e)),oP]; try simp)]; simp),T0,h⟩))))))))))
       .refine Aa I (Ae (Aw (Kt (Cr I (Lq I (Qi I) (Lm I (AB ?_)))))))
        exact AE (i+1) (by omega) ⟨by omega,λj h=>by
         rcases o8.1 h with h|rfl
         .exact hj j h
         .unfold fkB; rw[hx]; simp only[od (show 1<=x by omega),od (show x<256 by omega),od (dN.1 (by omega):fpl ks x=some j)]; rfl⟩ (Si I) (λ_ h=>h)
    .have hks:=ax (l:=ks) (λj h=>hj j (by omega))
     refine Aa I (AO (Ab (Ab (Am (Ks (Cs I (Lm I (Lq I (AJ I FJ I hp.kp) (Lm I (Nk (Aj ?_)))))))))))
     refine A0 (λ(q:Nat)=>[(1,vp),(46,vp),(47,.int .i64 (ps.length:Int)),(48,.int .i64 (q:Int))]) (λ(q:Nat)=>St w [] []) (λ(q:Nat)=>q<=ps.length/\∀j,j<q->KT kck ltK ps j=true) (λ(q:Nat)=>ps.length-q) (0) ⟨lK _,λj h=>absurd h (ov _)⟩ (Si I) Ih (λq hp3=>Af ?_)
     obtain⟨hq,hjq⟩:=hp3
     refine Cr I (Lq I (Ql I) (Ns (CB 49 I (λh8=>?_) (λh8=>?_))))
     .obtain⟨c,hc⟩:=gE ps q
      have hlt:=(lR.1 hc).1
      refine Ah I (Ae (Ks (Aj (Cs I (Lm I (Lq I (Ar q I FJ Z77 I hp.kp I I) (Lq I (AV q I G77 Z77 I I hp.kp hc) (l_e I (Au I I I zeroValue77 (λbp=>Ce (kv0 8).c I (Las I (l_e I (Az I I Z77 I I (Kv.ko _) (Kv.one _) (by show 0+(Kv.c _).length<=(Kv.c _).length; rw[Kv.ko,Kv.ko]; decide) (Ce (c).c (Sep.ku (by show (Kv.c _).length=_; rw[Kv.ko,Kv.ko])) (Ns (Do8 (rg 17) 1594326 (λw2=>(Ad bp 77 c.c).at w2/\RdV w2 vp (Kv.enc 8) ps) I St.drawn (Hd 0 I hp.kp) (Dq I (AQ (c.c) I G77 Z77 I (λ_ h=>h.1) (Bb _) (Kv.ko _)) (d_e I (E1 (Fs c) I call279 Tt (λ_ _=>Ai (Hd 0 I hp.kp) (Md 2 I ?_)))))))))))))))))))))
      refine CB 56 I (λhk2=>?_) (λhk2=>?_)
      .refine Md 13 I (AL (Kt (Ah I (Cs I (Ak I (Ag (As (Ac (Ac (As (Ac ?_)))))))))))
       exact Ao I I (λ_ h=>⟨(),congrArg Eb (by unfold fck; rw[NX hlt (dM hc hk2)]; simp),T0,h.kv⟩)
      .refine Dm I (Dq I (BQ I I I) (Dm I (CB 59 I (λh0=>?_) (λh0=>?_))))
       .obtain⟨d,hd⟩:=gE ps (q-1)
        have hat:=Tf (f:=kck) (lt:=ltK) (by omega) hc hd
        rw[hk2] at hat
        refine Md 2 I (Dq I (CM I I I) (Dq I (Ar (q-1) I FJ Z77 I (λ_ h=>h.2) I (by omega)) (Dq I (AV (q-1) I G77 Z77 I I (λ_ h=>h.2) hd) (Dq I (AQ (c.c) I G77 Z77 I (λ_ h=>h.1) (Bb _) (Kv.ko _)) (d_e I (E1 (FM d c) I call162 Tt (λ_ _=>Ai (Hd 0 I hp.kp) (Md 3 I (AL (Kt (CB 69 I (λhcm=>?_) (λhcm=>?_))))))))))))
        .exact Ah I (Cs I (Ak I (Ag (As (Ac (Ac (As (Ac (Ao I I (λ_ h=>⟨(),congrArg Eb (by unfold fck; rw[NX hlt (by rw[hat]; unfold ltK; rw[oc (by omega)]; rfl)]; simp),T0,h.kv⟩))))))))))
        .refine Aa I (Ae (Aw (Kt (Cr I (Lq I (Qi I) (Lm I (AB (Av ?_))))))))
         exact AE (q+1) (by omega) ⟨by omega,λj h=>by
          rcases o8.1 h with h|rfl
          .exact hjq j h
          .rw[hat]; unfold ltK; rw[od (by omega)]; rfl⟩ (Si I) (λ_ h=>h)
       .have hq0:q=0:=by omega
        subst hq0
        refine Md 10 I (AL (Kt (Aa I (Ae (Aw (Kt (Cr I (Lq I (Qi I) (Lm I (AB (Av ?_)))))))))))
        exact AE (0+1) (by omega) ⟨by omega,λj h=>by
         rcases o8.1 h with h|rfl
         .exact hjq j h
         .rw[Te hc,hk2]⟩ (Si I) (λ_ h=>h)
     .exact Aa I (AO (Ab (Ab (Am (Kt (Cs I (Ak I (Ag (Ao I I (λ_ h=>⟨(),congrArg Eb (by unfold fck; rw[hyes,hks,NY (λj h=>hjq j (by omega))]; rfl),T0,h⟩))))))))))
section
variable {P:Program} {n:Nat} {L:Env} {X:World->Prop} {o:Oper}
def Fb (k:IntKind) (a b:Int):Int:=k.wrap ((BitVec.ofInt k.bits a ^^^ BitVec.ofInt k.bits b).toNat:Int)
def e9 (k:IntKind) (a b:Int):Int:=k.wrap ((BitVec.ofInt k.bits a &&& BitVec.ofInt k.bits b).toNat:Int)
theorem WZ {t:TypeId} {k:IntKind} (ho:o.op=.binOp .xor t x y u) (hx:ev L x=some (.int k p)) (hy:ev L y=some (.int k q)):QOp P n L X o (.int k (Fb k p q)) :=
 CV ho hx hy (λw _=>by rw[l5,Cg]; simp[binOp,Op.intBits,Fb])
theorem iJ {t:TypeId} {k:IntKind} (ho:o.op=.binOp .and t x y u) (hx:ev L x=some (.int k p)) (hy:ev L y=some (.int k q)):QOp P n L X o (.int k (e9 k p q)) :=
 CV ho hx hy (λw _=>by rw[l5,Cg]; simp[binOp,Op.intBits,e9])
theorem Tg {t:TypeId} {k j:IntKind} (m:Nat) (ho:o.op=.binOp .shr t x y u) (hx:ev L x=some (.int k p)) (hy:ev L y=some (.int j (m:Int))) (hm:m<=k.bits):QOp P n L X o (.int k (p.fdiv (2^m))) :=
 CV ho hx hy (λw _=>by
  rw[l5,Cg]
  have h1:¬((m:Int)<0):=by omega
  have h2:min ((m:Int)).toNat k.bits=m:=by rw[mV]; omega
  simp only[binOp,Op.shift,lz h1,h2]
  rfl)
theorem dO {t:TypeId} {k:IntKind} (ho:o.op=.unOp .xor t x) (hk:k.signed=false) (hx:ev L x=some (.int k p)):QOp P n L X o (.int k (Fb k k.max p)) :=
 QOp.mk (λa=>Op.unary .xor (a.eval x)) (λa=>by simp[execOp,ho]) (λa w kn _=>by rw[kn.eval hx]; simp[Op.unary,hk,Op.intBits,Fb])
end
theorem Th (z:Int):IntKind.u8.wrap z=z%256:=by simp[IntKind.wrap,IntKind.signed,IntKind.bits]
theorem W0 (z:Int):IntKind.u32.wrap z=z%4294967296:=by simp[IntKind.wrap,IntKind.signed,IntKind.bits]
theorem iK (z:Int):z.fdiv (2^8)=z/256:=by rw[pb _ (by decide)]; rfl
theorem fa (a b:Int):0<=Fb .u8 a b/\Fb .u8 a b<256:=by unfold Fb; rw[Th]; omega
theorem ay (a b:Int):0<=Fb .u32 a b/\Fb .u32 a b<4294967296:=by unfold Fb; rw[W0]; omega
def W2 (x:Int):Int:=if e9 .u32 x 1=1 then Fb .u32 (x.fdiv (2^1)) 3988292384 else x.fdiv (2^1)
def W3:Nat->Int->Int
 |0,x=>x
 |k+1,x=>W2 (W3 k x)
def MQ (i:Nat):Int:=W3 8 (IntKind.u32.wrap (i:Int))
def Im (x c:Int):Int:=Fb .u32 (MQ (Fb .u8 (IntKind.u8.wrap x) c).toNat) (x.fdiv (2^8))
def Gi (l:List Int):Int:=Fb .u32 IntKind.u32.max (l.foldl Im (Fb .u32 IntKind.u32.max 0))
theorem fb (l:List Int):0<=Gi l/\Gi l<4294967296:=ay _ _
def Fk (i:Nat):List Value:=((List.range i).map (λk=>Value.int .u32 (MQ k)))++List.replicate (256-i) (Value.int .u32 0)
theorem CQ (h:i<=256):(Fk i).length=256:=by unfold Fk; simp; omega
theorem W4 (h:i<256):(Fk i).set (0+i*1) (.int .u32 (MQ i))=Fk (i+1):=by
 unfold Fk
 have hl:((List.range i).map (λk=>Value.int .u32 (MQ k))).length=i:=by simp
 rw[show 0+i*1=i by omega,m6 _ _ (by omega),hl,Nat.sub_self,oL,mn]
 obtain⟨m,hm⟩:∃m,256-i=m+1:=⟨255-i,by omega⟩
 rw[hm,lC,m8,show 256-(i+1)=m by omega]
 simp
theorem W5 (h:j<256):(Fk 256)[0+j*1]?=some (.int .u32 (MQ j)):=by
 unfold Fk
 rw[show 0+j*1=j by omega,lq (by simp<;>omega)]
 simp[h]
theorem PI (i:Nat):∀v∈Fk i,v.oneCell'=true:=λv hv=>by
 unfold Fk at hv
 rcases mT.1 hv with hv|hv
 .obtain⟨k,_,rfl⟩:=lP.1 hv; rfl
 .rw[(mU.1 hv).2]; rfl
theorem UU (x:Int):Con prog 298 [.int .i64 x] Tr [] (λ_:Unit=>.bool (decide (1<=x/\x<=8))) Tr (λ_=>[]):=by
 intro w hE hH
 refine E0 func298 I hH (Cs I (Ak I (Cs I (Mv 3 I (CB 5 I (λh1=>?_) (λh1=>?_))))))
 .exact Lm I (Lq I (H4 I I I) (Lq I (Qy I) (Ak I (Ag (Ao I I (λ_ h=>⟨(),congrArg Eb (by rw[oE]; omega),T0,h⟩))))))
 .exact Mv 3 I (Ak I (Ag (Ao I I (λ_ h=>⟨(),congrArg Eb (Df).symm,T0,h⟩))))
theorem UW (zs:List Int) (z:Int) (k:Nat) (h1:1<=k) (h8:k<=8) (hn:zs.length<=60000):Con prog 274 [va,.int .u64 z,.int .i64 (k:Int)] (λw=>RdV w va (AH .u8) zs) [] (λv:Value=>v) Tr (λv=>[AA v 5 (AH .u8) (zs++le z k)]):=by
 intro w hl hH
 refine E0 func274 I hH (Cs I (Ak I (Cs I (Lm I (row0 5 (AH .u8) none (l_e I (BT I I I U23 U23 Ju I I I I I hl.kp (by simp only[Ur]; simp; omega) (by simp<;>omega) (λv1=>Ak I (Af (Cs I (Lm I ?_)))))))))))
 rw[mw]
 refine l_e I (E1 (UU k) I call298 Tt (λ_ _=>Lq I (Qt I) (Nk (Sb 12 false I (by rw[od (by omega)]; rfl) (Aa I (Ae (Ks (Cs I (Mv 2 I (Nk (Aj ?_)))))))))))
 refine Cy (λ(i:Nat) (v:Value)=>[(1,.int .u64 (z/256^i)),(7,v),(14,.int .i64 (k:Int)),(15,.int .i64 (i:Int))]) (λ(i:Nat) (v:Value)=>St w [] [AA v 5 (AH .u8) (zs++le z i)]) (λ(i:Nat) (v:Value)=>i<=k) (λ(i:Nat) (v:Value)=>k-i) (0) (v1) (lK _) (Sub.consE I (by simp) (Si I)) (λ_ h=>by simpa [le] using h) (λi v hi=>Af ?_)
 have hll:=B1 i z
 have hll:=B1 i z
 have hdd:(z/256^i).fdiv (2^8)=z/256^(i+1):=by rw[iK,kO (mi (Int.pow_pos (by decide))),Int.pow_succ]
 refine Cr I (Lq I (Ql I) (Ns (CB 16 I (λh1=>?_) (λh1=>?_))))
 .refine Ah I (Ae (Ks (Aj (Cs I (Mv 2 I (Lq I (Hp I underlying41 U5 I) (l_e I (Ax (sz:=1) [.tmp 19] I I I I I U23 Z5 I zeroValue5 I (λb1=>AM (l_e I (BT I I I U23 U23 Ju I I I I I (λ_ h=>AY (h.at 1 I) (AH .u8) [IntKind.u8.wrap (z/256^i)] I I) (by simp only[Ur]; simp; omega) (by simp<;>omega) (λv2=>Ak I (Cr I (Lm I (Lq I (Tg 8 I I I (by decide)) (Las I (AB (Aw (Kt (Cr I (Lq I (Qi I) (Lm I (AB (Bt (l':=zs++le z (i+1)) (by rw[Su,Th,mj]) (AM (Av ?_))))))))))))))))))))))))))
  exact AE ((i+1,v2)) (by dsimp only; omega) (by dsimp only; omega) (Sub.consE I (by dsimp only; rw[hdd]) (Si I)) (λ_ h=>h)
 .have hik:i=k:=by omega
  subst hik
  exact Aa I (AO (Ab (Ab (Am (Kt (Cs I (Lm I (Ak I (Ag (Ao I I (λ_ h=>⟨v,rfl,T0,h⟩)))))))))))
theorem PJ :Con prog 310 [] Tr [] (λ_:Unit=>.agg (Fk 256).toArray) Tr (λ_=>[]):=by
 intro w hE hH
 refine E0 func310 I hH (Cs I (l_e I (Au I I I zeroValue395 (λbr=>Ce (Fk 0) (by kernel_rfl) (Nk (Cs I (l_e I (Au I I I zeroValue395 (λbl=>Ce (Fk 0) (by kernel_rfl) (Ns (Cs I (Lm I (Nk (Aj ?_))))))))))))))
 refine A0 (λ(i:Nat)=>[(0,pV br),(1,pV bl),(5,.int .i64 (i:Int))]) (λ(i:Nat)=>St w [] [Ad bl 395 (Fk i),Ad br 395 (Fk 0)]) (λ(i:Nat)=>i<=256) (λ(i:Nat)=>256-i) (0) (lK _) (Si I) Ih (λi hi=>Cs I (Lq I (Ql I) (Ns ?_)))
 refine CB 6 I (λh1=>?_) (λh1=>?_)
 .refine Ah I (Ae (Ks (Aj (Cs I (Lm I (Ak I (Cs I (Lm I (Lq I (Hp I U3 underlying368 I) (Ak I (Af (Cs I (Lm I (Nk (Aj ?_)))))))))))))))
  refine A0 (λ(k:Nat)=>[(0,pV br),(1,pV bl),(2,.int .i64 (i:Int)),(5,.int .i64 (i:Int)),(3,.int .u32 (W3 k (IntKind.u32.wrap (i:Int)))),(10,.int .i64 (k:Int))]) (λ(k:Nat)=>St w [] [Ad bl 395 (Fk i),Ad br 395 (Fk 0)]) (λ(k:Nat)=>k<=8) (λ(k:Nat)=>8-k) (0) (lK _) (Si I) Ih (λk hk=>Cs I (Lq I (Ql I) (Ns ?_)))
  refine CB 11 I (λh2=>?_) (λh2=>?_)
  .refine Ah I (Ae (Ks (Aj (Cs I (Lm I (Lq I (iJ I I I) (Lq I (Qe I) (Ak I (Cs I (Lm I (Lq I (Tg 1 I I I (by decide)) (Ak I (Cs I (Lm I (Nk (CB 17 I (λh3=>?_) (λh3=>?_)))))))))))))))))
   .refine Ah I (Cr I (Lm I (Lq I (WZ I I I) (Las I (AB (Aw (Kt (Cr I (Lq I (Qi I) (Lm I (AB ?_)))))))))))
    exact AE (k+1) (by omega) (by omega) (Sub.cons I (Sub.cons I (Sub.cons I (Sub.cons I (Sub.consE I (by show _=Value.int .u32 (W2 _); unfold W2; rw[lu h3]) (Si I)))))) (λ_ h=>h)
   .refine Aa I (Ae (Aw (Kt (Cr I (Lq I (Qi I) (Lm I (AB ?_)))))))
    exact AE (k+1) (by omega) (by omega) (Sub.cons I (Sub.cons I (Sub.cons I (Sub.cons I (Sub.consE I (by show _=Value.int .u32 (W2 _); unfold W2; rw[lz h3]) (Si I)))))) (λ_ h=>h)
  .have hk8:k=8:=by omega
   subst hk8
   refine Aa I (AO (Ab (Ab (Am (Kt (Cr I (Mv 2 I (Lq I (Be i I underlying395 sizeOf368 I I I) (l_e I (AG I I sizeOf368 I I I (by rw[CQ (by omega)]; show 0+i*1<256; omega) (Ce (Fk (i+1)) (W4 (by omega)) (AB (Aw (Kt (Cr I (Lq I (Qi I) (Lm I (AB ?_))))))))))))))))))
   exact AE (i+1) (by omega) (by omega) (Si I) (λ_ h=>h)
 .have hi256:i=256:=by omega
  subst hi256
  exact Aa I (AO (Ab (Ab (Am (Kt (Cs I (Lq I (Cq (Fk 256) isAgg395 sizeOf395 0 I (lI (by rw[lE,CQ (lJ _)]; exact lJ _)) (CQ (lJ _))) (AM (l_e I (Az I I sizeOf395 I I (CQ (lJ _)) (PI 256) (by rw[CQ (lJ _),CQ (lK _)]; decide) (Ce (Fk 256) (Sep.ku (by rw[CQ (lJ _),CQ (lK _)])) (Nk (Ag (CJ I (AK I isAgg395 sizeOf395 (Hat 0 I) (CQ (lJ _))) (λ_ h=>⟨(),rfl,T0,h.kv⟩)))))))))))))))
theorem RA (l:List Int) (z:Int) (hn:l.length<=60000):Con prog 299 [.int .u32 z,va] (λw=>RdV w va (AH .u8) l) [] (λ_:Unit=>.int .u32 (Fb .u32 IntKind.u32.max (l.foldl Im (Fb .u32 IntKind.u32.max z)))) Tr (λ_=>[]):=by
 intro w hl hH
 refine E0 func299 I hH (Cs I (Ak I (Cs I (l_e I (E1 (PJ) I call310 Tt (λ_ _=>l_e I (Au I I I zeroValue395 (λbt=>Ce (Fk 0) (by kernel_rfl) (l_e I (Az I I sizeOf395 I I (CQ (lJ _)) (PI 256) (by rw[CQ (lJ _),CQ (lK _)]; decide) (Ce (Fk 256) (Sep.ku (by rw[CQ (lJ _),CQ (lK _)])) (Nk (Cs I (Lm I (Lq I (dO I I I) (Ak I (Af (Cs I (Lm I (Lq I (AJ I U23 I hl.kp) (Lm I (Nk (Aj ?_)))))))))))))))))))))))
 refine A0 (λ(i:Nat)=>[(5,pV bt),(6,.int .u32 ((l.take i).foldl Im (Fb .u32 IntKind.u32.max z))),(12,va),(13,.int .i64 (l.length:Int)),(14,.int .i64 (i:Int))]) (λ(i:Nat)=>St w [] [Ad bt 395 (Fk 256)]) (λ(i:Nat)=>i<=l.length) (λ(i:Nat)=>l.length-i) (0) (lK _) (Si I) Ih (λi hi=>Cs I (Lq I (Ql I) (Ns ?_)))
 refine CB 15 I (λh1=>?_) (λh1=>?_)
 .obtain⟨c,hc⟩:=gE l i
  have hsn:(l.take (i+1)).foldl Im (Fb .u32 IntKind.u32.max z)=Im ((l.take i).foldl Im (Fb .u32 IntKind.u32.max z)) c:=by rw[nT,hc,oY]; rfl
  obtain⟨x,hx⟩:∃x,x=((l.take i).foldl Im (Fb .u32 IntKind.u32.max z)):=⟨_,rfl⟩
  rw[<-hx]
  rw[<-hx] at hsn
  have hj:=fa (IntKind.u8.wrap x) c
  obtain⟨j,hjj⟩:∃j:Nat,Fb .u8 (IntKind.u8.wrap x) c=(j:Int):=⟨_,(Int.toNat_of_nonneg hj.1).symm⟩
  have hj2:j<256:=by omega
  have hbc:Im x c=Fb .u32 (MQ j) (x.fdiv (2^8)):=by unfold Im; rw[hjj]; rfl
  refine Ah I (Ae (Ks (Aj (Cs I (Lq I (Ar i I U23 Z5 I hl.kp I I) (Lq I (AI i 0 I G5 I I hl.kp hc I) (Ak I (Cr I (Lm I (Lq I (Hp I underlying368 U5 I) (Lm I (Lq I (WZ I I I) (Lq I (Be j I underlying395 sizeOf368 I I hjj) (Lq I (Al I isAgg368 I (Hat 0 I) (W5 hj2)) (Lm I (Lq I (Tg 8 I I I (by decide)) (Lq I (WZ I I I) (Las I (AB (Aw (Kt (Cr I (Lq I (Qi I) (Lm I (AB ?_)))))))))))))))))))))))))
  exact AE (i+1) (by omega) (by omega) (Sub.cons I (Sub.consE I (by rw[hsn,hbc]) (Si I))) (λ_ h=>h)
 .have hfin:l.take i=l:=lI (by omega)
  rw[hfin]
  exact Aa I (AO (Ab (Ab (Am (Kt (Cs I (Lm I (Lq I (dO I I I) (Ak I (Ag (Ao I I (λ_ h=>⟨(),rfl,T0,h.kv⟩))))))))))))
theorem UX (l:List Int) (hn:l.length<=60000):Con prog 275 [va] (λw=>RdV w va (AH .u8) l) [] (λ_:Unit=>.int .u32 (Gi l)) Tr (λ_=>[]):=by
 intro w hl hH
 refine E0 func275 I hH ?_
 exact Cs I (Ak I (Cs I (Lm I (l_e I (E1 (RA l 0 hn) I call299 hl.kp (λ_ _=>Ak I (Ag (Ao I I (λ_ h=>⟨(),rfl,T0,h⟩)))))))))
theorem JC (l:List Int) (hn:l.length<=60000):Con prog 218 [va] (λw=>RdV w va (AH .u8) l) [] (λv:Value=>v) Tr (λv=>[AA v 5 (AH .u8) (le (Gi l) 4)]):=by
 intro w hl hH
 have hcb:=fb l
 refine E0 func218 I hH ?_
 exact Cs I (Ak I (Cs I (Lm I (l_e I (E1 (UX l hn) I call275 hl.kp (λ_ _=>Lq I (Bu (p:=Gi l) I underlying368 underlying41 I (E4)) (l_e I (AZ (UW (va:=.slice none 0 0) [] (Gi l) 4 (by decide) (by decide) (lK _)) I I I call274 I (λ_ h=>Wc _) (λv _=>Ak I (Ag (Ao I I (λ_ h=>⟨v,rfl,T0,h⟩))))))))))))
section
variable {α:Type} (f:α->Kv 8)
def BE (l:List α):Prop:=l.Pairwise (λa b=>Bq (f a) (f b)<0)
def Cf (l:List α) (k:Kv 8):Nat:=(l.takeWhile (λe=>decide (Bq (f e) k<0))).length
def gis (l:List α) (k:Kv 8):Bool:=match l[Cf f l k]? with|some e=>decide (f e=k)|none=>false
end
section
variable {α:Type} {f:α->Kv 8}
theorem az {l:List α} (hi:i<=l.length) (h1:∀j e,j<i->l[j]?=some e->Bq (f e) k<0) (h2:∀e,l[i]?=some e->¬Bq (f e) k<0):Cf f l k=i:=by
 unfold Cf
 have hl:l.take i++l.drop i=l:=my i l
 have ht:∀e∈l.take i,decide (Bq (f e) k<0)=true:=λe he=>by
  obtain⟨j,hj⟩:=oJ.1 he
  rw[lr] at hj
  split at hj
  .rename_i hlt; exact od (h1 j e hlt hj)
  .cases hj
 rw[<-hl,List.takeWhile_append_of_pos ht]
 have hd:(l.drop i).takeWhile (λe=>decide (Bq (f e) k<0))=[]:=by
  cases hx:l.drop i with
  |nil=>rfl
  |cons x xs =>
   have:l[i]?=some x:=by rw[<-List.head?_drop,hx]; rfl
   rw[oZ,lz (by simpa using h2 x this)]
 rw[hd,nS,k9]; omega
theorem HT {l:List α} (hs:BE f l) {k:Kv 8} {i j:Nat} {a b:α} (hij:i<=j) (ha:l[i]?=some a) (hb:l[j]?=some b) (h:Bq (f b) k<0):Bq (f a) k<0:=by
 rcases k6 i j with hlt|hge
 .exact E7 (D5 hs i j a b hlt ha hb) (mi h)
 .have:i=j:=by omega
  subst this; rw[ha] at hb; cases hb; exact h
theorem GY (l:List α) (k:Kv 8):Cf f l k<=l.length:=(o6 _).length_le
theorem JZ {l:List α} {e:α} (hj:j<Cf f l k) (he:l[j]?=some e):Bq (f e) k<0:=oh (Py (p:=λe:α=>decide (Bq (f e) k<0)) hj he)
theorem NZ {l:List α} (hs:BE f l) {j:Nat} {e:α} (hj:Cf f l k<=j) (he:l[j]?=some e):¬Bq (f e) k<0:=λh=>by
 have hjl:=(lR.1 he).1
 obtain⟨d,hd⟩:=gE l (Cf f l k)
 have h1:=HT hs hj hd he h
 have h2:=JX (p:=λe:α=>decide (Bq (f e) k<0)) (show l[(l.takeWhile (λe:α=>decide (Bq (f e) k<0))).length]?=some d from hd)
 exact of_decide_eq_false h2 h1
theorem N1 {l:List α} (h:gis f l k):∃e,l[Cf f l k]?=some e/\f e=k:=by
 unfold gis at h
 cases h2:l[Cf f l k]? with
 |none=>rw[h2] at h; cases h
 |some e=>rw[h2] at h; exact⟨e,rfl,oh h⟩
end
def ltM (a b:Ms):Bool:=decide (Bq a.key b.key<0)
def bck (l:List Ms):Bool:=GB mck ltM l
def bby (l:List Ms):Int:=(l.map mby).sum
def Dr (l:List Ms) (k:Kv 8):Ms×Bool:=if gis Ms.key l k=true then (l.getD (Cf Ms.key l k) ms0,true) else (ms0,false)
def C9 (l:List Ms) (m:Ms):List Ms:=l.take (Cf Ms.key l m.key)++[if gis Ms.key l m.key=true then mco (l.getD (Cf Ms.key l m.key) ms0) m else m]++l.drop (Cf Ms.key l m.key+(if gis Ms.key l m.key=true then 1 else 0))
def I3 (l ms:List Ms):List Ms:=ms.foldl C9 l
theorem W6 (m:Ms):0<=mby m/\mby m<=35:=by
 unfold mby
 split
 .rename_i h
  have h1:=S1 h
  split
  .rename_i hk; have h2:=S2 h hk; omega
  .split<;>omega
 .omega
theorem W7 {l:List Ms} (h:l[i]?=some m):bby (l.take (i+1))=bby (l.take i)+mby m:=by
 unfold bby; rw[nT,h,mn,List.sum_append]; simp
theorem N3 (l:List Ms):0<=bby l/\bby l<=35*l.length:=by
 induction l with
 |nil=>simp[bby]
 |cons a l ih =>
  have:=W6 a
  have e:bby (a::l)=mby a+bby l:=by simp[bby]
  rw[e,kQ]; omega
theorem KU (l:List Ms) (m:Ms):(C9 l m).length<=l.length+1:=by
 unfold C9
 have:=GY (f:=Ms.key) l m.key
 simp only[lp,k9,lk,kQ,ob]
 omega
theorem UY {l:List Ms} (h:ms[i]?=some m):I3 l (ms.take (i+1))=C9 (I3 l (ms.take i)) m:=by
 unfold I3; rw[nT,h,oY]; rfl
theorem PK:∀(ms l:List Ms),(I3 l ms).length<=l.length+ms.length
 |[],l=>lJ _
 |m::ms,l=>by
  have h1:=PK ms (C9 l m)
  have h2:=KU l m
  show (I3 (C9 l m) ms).length<=_
  simp only[kQ]; omega
theorem Io {l:List α} {x d:α} (h:l[i]?=some x):l.getD i d=x:=by rw[om,h]; rfl
def RB (l ms:List Ms):Prop:=∀i,i<=ms.length->BE Ms.key (I3 l (ms.take i))
theorem aA {lo hi mid:Nat} (h:mid=(lo+hi)/2) (hb:lo+hi<=1000000):IntKind.i64.wrap (((lo:Int)+(hi:Int)).fdiv (2^1))=(mid:Int):=by
 have e:((lo:Int)+(hi:Int)).fdiv (2^1)=(mid:Int):=by
  rw[pb _ (by decide)]; omega
 rw[e]; exact Ch (by omega)
theorem W8 {bl bk:Nat} {E:Enc α} {l:List α} (h:RdV w0 v E l) (s:St w0 [bl,bk] H w) (h1:blk v≠bl\/l=[]) (h2:blk v≠bk\/l=[]):RdV w v E l :=
 h.congr (λhl=>s.keep.block _ (h.lt hl) (by
  rcases h1 with h1|h1
  .rcases h2 with h2|h2
   .simp only[kN,nt,nu,not_or]; exact⟨h1,h2⟩
   .exact absurd h2 hl
  .exact absurd h1 hl))
theorem fc (l:List Ms) (k:Kv 8) (bl bk:Nat) (hb1:blk va≠bl\/l=[]) (hb2:blk va≠bk\/l=[]) {i:Nat} {c:Ms} (hc:l[i]?=some c) (hn:l.length<=60000):Con prog 161 [.int .i64 (i:Int),pV bl,pV bk] (λw=>RdV w va Ms.enc l) [Ad bl 133 [va],Ad bk 77 k.c] (λ_:Unit=>.bool (decide (0<=Bq c.key k))) Tr (λ_=>[Ad bl 133 [va],Ad bk 77 k.c]):=by
 intro w hl hH
 refine enter (n:=13) (vs:=[.int .i64 (i:Int),pV bl,pV bk]) (St w [bl,bk] [Ad bl 133 [va],Ad bk 77 k.c]) func161 I I I (St.init hH) ?_
 refine Af ?_
 have hcl:=(lR.1 hc).1
 exact Cr I (Ak I (Af (Do8 (rg 9) 13851 (λw2=>(Ad bl 133 [va]).at w2/\(Ad bk 77 k.c).at w2/\RdV w2 va Ms.enc l) I St.drawn (λ_ h=>⟨h.at 0 rfl,h.at 1 rfl,W8 hl h hb1 hb2⟩) (Dq I (Al I IN I (λ_ h=>h.1) I) (Dm I (Dq I (Ar i I BO Bl I (λ_ h=>h.2.2) I I) (Dfa B8 I Z77 I (Dq I (BA (c.key.c) i 2 I G77 Z77 I I (λ_ h=>h.2.2) hc (by decide) (Ms.kK _)) (Dq I (AQ (k.c) I G77 Z77 I (λ_ h=>h.2.1) (Bb _) (Kv.ko _)) (d_e I (E1 (FM c.key k) I call162 Tt (λ_ _=>Ai (λ_ h=>⟨h.at 0 rfl,h.at 1 rfl,W8 hl h hb1 hb2⟩) (Dq I (Qg I) (d_t I (e_q I I (AF I I) (AL (Kt (Ag (Ao I I (λ_ h=>⟨(),rfl,T0,h⟩))))))))))))))))))))
theorem W9 (l:List Ms) (k:Kv 8) (hs:BE Ms.key l) (bl bk:Nat) (hb1:blk va≠bl\/l=[]) (hb2:blk va≠bk\/l=[]) (hn:l.length<=60000):Con prog 160 [.int .i64 (l.length:Int),.func (.func 161) #[] #[pV bl,pV bk]] (λw=>RdV w va Ms.enc l) [Ad bl 133 [va],Ad bk 77 k.c] (λ_:Unit=>.int .i64 (Cf Ms.key l k:Int)) Tr (λ_=>[Ad bl 133 [va],Ad bk 77 k.c]):=by
 intro w hl hH
 refine enter (n:=26) (vs:=[.int .i64 (l.length:Int),.func (.func 161) #[] #[pV bl,pV bk]]) (St w [bl,bk] [Ad bl 133 [va],Ad bk 77 k.c]) func160 I I I (St.init hH) ?_
 refine Cs I (Ak I (Cs I (Mv 2 I (Ak I (Af (Aj ?_))))))
 refine Cy (λ(lo:Nat) (hi:Nat)=>[(1,.func (.func 161) #[] #[pV bl,pV bk]),(5,.int .i64 (lo:Int)),(6,.int .i64 (hi:Int))]) (λ(lo:Nat) (hi:Nat)=>St w [bl,bk] [Ad bl 133 [va],Ad bk 77 k.c]) (λ(lo:Nat) (hi:Nat)=>lo<=hi/\hi<=l.length/\(∀j e,j<lo->l[j]?=some e->Bq e.key k<0)/\∀j e,hi<=j->l[j]?=some e->¬Bq e.key k<0) (λ(lo:Nat) (hi:Nat)=>hi-lo) (0) (l.length) ⟨lK _,lJ _,λj e h=>absurd h (ov _),λj e h1 h2=>by have:=(lR.1 h2).1; omega⟩ (Si I) (λ_ h=>h) ?_
 intro lo hi hp
 refine Af (Af ?_)
 obtain⟨hlh,hhl,hp1,hp2⟩:=hp
 refine Cr I (Mv 3 I (Nk (CB 11 I (λhlt=>?_) (λhlt=>?_))))
 .obtain⟨mid,hmd⟩:∃mid:Nat,mid=(lo+hi)/2:=⟨_,rfl⟩
  obtain⟨c,hc⟩:=gE l mid
  refine Ah I (Ae (Kt (Aj (Cs I (Mv 2 I (Lq I (Bh I I I) (Lq I (Bu (p:=((lo:Int)+(hi:Int))) I U3 Wg I (E4)) (Lq I (Tg 1 I I I (by decide)) (Lq I (Hp I Wg U3 I) (Ak I (Af (Sv' 7 (.int .i64 (mid:Int)) I (by rw[aA hmd (by omega)]) (Cr I (Mv 2 I (l_e I (F1 (β:=Unit) (X':=λ_=>St w _ [Ad bl 133 [va],Ad bk 77 k.c]) (v:=λ_=>.bool (decide (0<=Bq c.key k))) (p:=λ_=>True) I I I I call161 I (λw2 h=>Con.frame (F:=[]) (fc l k bl bk hb1 hb2 hc hn) h (W8 hl h hb1 hb2)) (λ_ _=>Lq I (Qt I) (Nk ?_))))))))))))))))))
  refine CB 21 I (λhcm=>?_) (λhcm=>?_)
  .refine Ah I (Cr I (Lm I (Lq I (Qi I) (Las I (AB (Aw ?_))))))
   exact AE ((mid+1,hi)) (by dsimp only; omega) ⟨by dsimp only; omega,hhl,λj e hj he=>HT hs (by dsimp only at hj; omega) he hc (by omega),hp2⟩ (Si I) (λ_ h=>h)
  .refine Aa I (Cr I (Mv 2 I (AB (Aw ?_))))
   exact AE ((lo,mid)) (by dsimp only; omega) ⟨by dsimp only; omega,by dsimp only; omega,hp1,λj e hj he h=>absurd (HT hs hj hc he h) (by omega)⟩ (Si I) (λ_ h=>h)
 .have hpos:Cf Ms.key l k=lo:=az (by omega) hp1 (λe he=>hp2 lo e (by omega) he)
  exact Aa I (AO (Ab (Ab (Am (Kt (Cs I (Lm I (Ak I (Ag (Ao I I (λ_ h=>⟨(),by rw[hpos],T0,h⟩)))))))))))
theorem Xa {E:Enc α} {l:List α} {b:Nat} (h:RdV w0 v E l) (s:St w0 [] H w) (hb:b∈dom H):blk v≠b\/l=[]:=by
 by_cases hl:l=[]
 .exact .inr hl
 .refine .inl (λe=>?_)
  have:=h.lt hl
  rcases s.dom b hb with h2|h2
  .cases h2
  .omega
theorem Fv (l:List Ms) (k:Kv 8) (hs:BE Ms.key l) (hn:l.length<=60000):Con prog 109 [va,.agg k.c.toArray] (λw=>RdV w va Ms.enc l) [] (λ_:Unit=>.tuple #[.int .i64 (Cf Ms.key l k:Int),.bool (gis Ms.key l k)]) Tr (λ_=>[]):=by
 intro w hl hH
 obtain⟨i,hi⟩:∃i,i=Cf Ms.key l k:=⟨_,rfl⟩
 have hil:i<=l.length:=by rw[hi]; exact GY _ _
 obtain⟨a,c,rfl⟩:=FI hl
 refine E0 func109 I hH (Cs I (l_e I (AT I I I I (λbl=>Ce [.slice a l.length c] I (l_e I (AT I I I I (λbk=>Ce k.c I (Las I (Ak I (Cs I (Lo IN 1 I (Lq I (AJ I BO I hl.kp) (Lq I (C3 (fn:=.func 0) (us:=#[pV bl,pV bk]) 161 I (vs:=#[]) (λa k=>by simp) (λa k=>by simp[k.eval (x:=.tmp 2) rfl,k.eval (x:=.tmp 3) rfl])) (AM (Pre.fact (λ_ h=>Xa hl h (b:=bl) (by simp[dom,Ad])) (λhb1=>Pre.fact (λ_ h=>Xa hl h (b:=bk) (by simp[dom,Ad])) (λhb2=>l_e I (GP (W9 l k hs bl bk hb1 hb2 hn) I I I call160 I hl.kp ?_))))))))))))))))))
 intro _ _
 rw[<-hi]
 refine Ak I (Af (Do8 (rg 16) 28697814 (λw2=>(Ad bl 133 [.slice a l.length c]).at w2/\(Ad bk 77 k.c).at w2/\RdV w2 (.slice a l.length c) Ms.enc l) I St.drawn (λ_ h=>⟨h.at 0 rfl,h.at 1 rfl,hl.keep h (by simp)⟩) (Md 2 I (Dq I (Al I IN I (λ_ h=>h.1) I) (Dq I (AJ I BO I (λ_ h=>h.2.2)) (Md 2 I (CB 16 I (λhin=>?_) (λhin=>?_))))))))
 .obtain⟨c,hc⟩:=gE l i
  refine Dq I (Al I IN I (λ_ h=>h.1) I) (Dm I (Dq I (Ar i I BO Bl I (λ_ h=>h.2.2) I I) (Dfa B8 I Z77 I (Dq I (BA (c.key.c) i 2 I G77 Z77 I I (λ_ h=>h.2.2) hc (by decide) (Ms.kK _)) (Dq I (AQ (k.c) I G77 Z77 I (λ_ h=>h.2.1) (Bb _) (Kv.ko _)) (Dq I (S0 (c.key) (k) I I I) (Md 2 I (d_t I (e_q I I (AF I I) (AL (Kt (Ag ?_))))))))))))
  have hlis:gis Ms.key l k=decide (c.key=k):=by unfold gis; rw[<-hi,hc]
  exact Bg (rs:=[.tmp 4,.tmp 5]) I I (λ_ h=>⟨(),by show _=Ending.returned (Value.tuple #[_,Value.bool (gis Ms.key l k)]); rw[hlis],T0,h.kv⟩)
 .have hlis:gis Ms.key l k=false:=by unfold gis; rw[<-hi,k8 (by omega)]
  exact Md 9 I (d_t I (e_q I I (AF I I) (AL (Kt (Ag (Bg (rs:=[.tmp 4,.tmp 5]) I I (λ_ h=>⟨(),by show _=Ending.returned (Value.tuple #[_,Value.bool (gis Ms.key l k)]); rw[hlis],T0,h.kv⟩)))))))
theorem PL (l:List Ms) (hn:l.length<=60000):Con prog 288 [va] (λw=>RdV w va Ms.enc l) [] (λ_:Unit=>.int .i64 (bby l)) Tr (λ_=>[]):=by
 intro w hl hH
 refine E0 func288 I hH (Cs I (Ak I (Cs I (Ak I (Af (Cs I (Lm I (Lq I (AJ I BO I hl.kp) (Lm I (Nk (Aj ?_)))))))))))
 refine A0 (λ(i:Nat)=>[(3,.int .i64 (bby (l.take i))),(6,va),(7,.int .i64 (l.length:Int)),(8,.int .i64 (i:Int))]) (λ(i:Nat)=>St w [] []) (λ(i:Nat)=>i<=l.length) (λ(i:Nat)=>l.length-i) (0) (lK _) (Si I) Ih (λi hi=>Cs I (Lq I (Ql I) (Ns ?_)))
 refine CB 9 I (λh1=>?_) (λh1=>?_)
 .obtain⟨c,hc⟩:=gE l i
  have hsn:=W7 hc
  have hbd:=N3 (l.take i)
  have htl:=oO i l
  have hmb:=W6 c
  refine Ah I (Ae (Ks (Aj (Cs I (Lq I (Ar i I BO Bl I hl.kp I I) (Lq I (AV i I Cm Bl I I hl.kp hc) (l_e I (Au I I I zeroValue154 (λbm=>Ce ms0.c I (l_e I (Az I I Bl I I (Ms.ko _) (Ms.one _) (by show 0+(Ms.c _).length<=(Ms.c _).length; rw[Ms.ko,Ms.ko]; decide) (Ce (c).c (Sep.ku (by show (Ms.c _).length=_; rw[Ms.ko,Ms.ko])) (Nk (Cr I (Lm I (Lq I (Cq (c.c) Cm Bl 0 I (Br _) (Ms.ko _)) (l_e I (E1 (Pb c) I call306 Tt (λ_ _=>Lq I (Bh I I I) (Las I (AB (Aw (Kt (Cr I (Lq I (Qi I) (Lm I (AB (Av ?_))))))))))))))))))))))))))))
  exact AE (i+1) (by omega) (by omega) (Sub.consE I (by rw[hsn]) (Si I)) (λ_ h=>h)
 .have hfin:l.take i=l:=lI (by omega)
  rw[hfin]
  exact Aa I (AO (Ab (Ab (Am (Kt (Cs I (Lm I (Ak I (Ag (Ao I I (λ_ h=>⟨(),rfl,T0,h⟩)))))))))))
theorem PM (l:List Ms) (hn:l.length<=60000):Con prog 345 [va] (λw=>RdV w va Ms.enc l) [] (λ_:Unit=>.bool (bck l)) Tr (λ_=>[]):=by
 intro w hl hH
 refine E0 func345 I hH (Cs I (Ak I (Af (Cs I (Lm I (Lq I (AJ I BO I hl.kp) (Lm I (Nk (Aj ?_)))))))))
 refine A0 (λ(i:Nat)=>[(0,va),(5,va),(6,.int .i64 (l.length:Int)),(7,.int .i64 (i:Int))]) (λ(i:Nat)=>St w [] []) (λ(i:Nat)=>i<=l.length/\∀j,j<i->KT mck ltM l j=true) (λ(i:Nat)=>l.length-i) (0) ⟨lK _,λj h=>absurd h (ov _)⟩ (Si I) Ih (λi hp=>Af ?_)
 obtain⟨hi,hj⟩:=hp
 refine Cr I (Lq I (Ql I) (Ns (CB 8 I (λh1=>?_) (λh1=>?_))))
 .obtain⟨c,hc⟩:=gE l i
  have hlt:=(lR.1 hc).1
  refine Ah I (Ae (Ks (Aj (Cs I (Lm I (Lq I (Ar i I BO Bl I hl.kp I I) (Lq I (AV i I Cm Bl I I hl.kp hc) (l_e I (Au I I I zeroValue154 (λbm=>Ce ms0.c I (Las I (l_e I (Az I I Bl I I (Ms.ko _) (Ms.one _) (by show 0+(Ms.c _).length<=(Ms.c _).length; rw[Ms.ko,Ms.ko]; decide) (Ce (c).c (Sep.ku (by show (Ms.c _).length=_; rw[Ms.ko,Ms.ko])) (Ns (Do8 (rg 19) 14348910 (λw2=>(Ad bm 154 c.c).at w2/\RdV w2 va Ms.enc l) I St.drawn (Hd 0 I hl.kp) (Dq I (AQ (c.c) I Cm Bl I (λ_ h=>h.1) (Br _) (Ms.ko _)) (d_e I (E1 (Jw c) I call313 Tt (λ_ _=>Ai (Hd 0 I hl.kp) (Md 2 I ?_)))))))))))))))))))))
  refine CB 15 I (λhk=>?_) (λhk=>?_)
  .refine Md 15 I (AL (Kt (Ah I (Cs I (Ak I (Ag (As (Ac (Ac ?_)))))))))
   exact As (Ac (Ao I I (λ_ h=>⟨(),congrArg Eb (NX hlt (dM hc hk)).symm,T0,h.kv⟩)))
  .refine Dm I (Dq I (BQ I I I) (Dm I (CB 18 I (λh0=>?_) (λh0=>?_))))
   .obtain⟨d,hd⟩:=gE l (i-1)
    have hat:=Tf (f:=mck) (lt:=ltM) (by omega) hc hd
    rw[hk] at hat
    refine Md 2 I (Dq I (CM I I I) (Dq I (Ar (i-1) I BO Bl I (λ_ h=>h.2) I (by omega)) (Dfa B8 I Z77 I (Dq I (BA (d.key.c) (i-1) 2 I G77 Z77 I I (λ_ h=>h.2) hd (by decide) (Ms.kK _)) (Dfa B8 I Z77 I (Dq I (AQ (c.key.c) I G77 Z77 I (λ_ h=>h.1) (Ms.kK _) (Kv.ko _)) (d_e I (E1 (FM d.key c.key) I call162 Tt (λ_ _=>Ai (Hd 0 I hl.kp) (Md 3 I (AL (Kt (CB 30 I (λhcm=>?_) (λhcm=>?_))))))))))))))
    .exact Ah I (Cs I (Ak I (Ag (As (Ac (Ac (As (Ac (Ao I I (λ_ h=>⟨(),congrArg Eb (NX hlt (by rw[hat]; unfold ltM; rw[oc (by omega)]; rfl)).symm,T0,h.kv⟩))))))))))
    .refine Aa I (Ae (Aw (Kt (Cr I (Lq I (Qi I) (Lm I (AB (Av ?_))))))))
     exact AE (i+1) (by omega) ⟨by omega,λj h=>by
      rcases o8.1 h with h|rfl
      .exact hj j h
      .rw[hat]; unfold ltM; rw[od (by omega)]; rfl⟩ (Si I) (λ_ h=>h)
   .have hi0:i=0:=by omega
    subst hi0
    refine Md 12 I (AL (Kt (Aa I (Ae (Aw (Kt (Cr I (Lq I (Qi I) (Lm I (AB (Av ?_)))))))))))
    exact AE (0+1) (by omega) ⟨by omega,λj h=>by
     rcases o8.1 h with h|rfl
     .exact hj j h
     .rw[Te hc,hk]⟩ (Si I) (λ_ h=>h)
 .exact Aa I (AO (Ab (Ab (Am (Kt (Cs I (Ak I (Ag (Ao I I (λ_ h=>⟨(),congrArg Eb (NY (λj h=>hj j (by omega))).symm,T0,h⟩))))))))))
theorem KV (l:List Ms) (k:Kv 8) (hs:BE Ms.key l) (hn:l.length<=60000):Con prog 179 [va,.agg k.c.toArray] (λw=>RdV w va Ms.enc l) [] (λ_:Unit=>.tuple #[.agg (Dr l k).1.c.toArray,.bool (Dr l k).2]) Tr (λ_=>[]):=by
 intro w hl hH
 obtain⟨i,hi⟩:∃i,i=Cf Ms.key l k:=⟨_,rfl⟩
 have hil:i<=l.length:=by rw[hi]; exact GY _ _
 refine E0 func179 I hH (Cs I (l_e I (AT I I I I (λbk=>Ce k.c I (l_e I (Au I I I zeroValue154 (λbr=>Ce ms0.c I (Ak I (Cs I (Lm I (Lq I (Cq (k.c) G77 Z77 1 I (Bb _) (Kv.ko _)) (l_e I (E1 (Fv l k hs hn) I call109 hl.kp ?_)))))))))))))
 intro _ _
 rw[<-hi]
 refine Mv 4 I (Ak I (Af (Cs I (Mv 2 I (Nk (CB 15 I (λhis=>?_) (λhis=>?_)))))))
 .exact Ah I (Cs I (Lq I (AP (ms0.c) I I (λw=>by kernel_rfl)) (l_e I (Az I I Bl I I (Ms.ko _) (Ms.one _) (by first|decide|(show 0+(Ms.c _).length<=(Ms.c _).length; rw[Ms.ko,Ms.ko]; decide)) (Ce (ms0).c (Sep.ku (by first|rfl|(show (Ms.c _).length=_; rw[Ms.ko,Ms.ko]))) (Ak I (Ag (Ac (BM I (AK I Cm Bl (Hat 0 I) (Ms.ko _)) (id I) (λ_ h=>⟨(),by unfold Dr; rw[lz (by rw[his]; decide)],T0,h.kv⟩))))))))))
 .obtain⟨c,hc,hck⟩:=N1 his
  rw[<-hi] at hc
  have hlt:=(lR.1 hc).1
  exact Aa I (Ae (Kt (Cs I (Mv 2 I (Lq I (Ar i I BO Bl I hl.kp I I) (Lq I (AV i I Cm Bl I I hl.kp hc) (l_e I (Az I I Bl I I (Ms.ko _) (Ms.one _) (by first|decide|(show 0+(Ms.c _).length<=(Ms.c _).length; rw[Ms.ko,Ms.ko]; decide)) (Ce (c).c (Sep.ku (by first|rfl|(show (Ms.c _).length=_; rw[Ms.ko,Ms.ko]))) (Ak I (Ag (BM I (AK I Cm Bl (Hat 0 I) (Ms.ko _)) (id I) (λ_ h=>⟨(),by unfold Dr; rw[lu his,<-hi,Io hc],T0,h.kv⟩)))))))))))))
theorem UZ (l:List Ms) (m:Ms) (hs:BE Ms.key l) (hn:l.length<=50000):Con prog 314 [va,.agg m.c.toArray] (λw=>RdV w va Ms.enc l) [] (λv:Value=>v) Tr (λv=>[AA v 154 Ms.enc (C9 l m)]):=by
 intro w hl hH
 obtain⟨i,hi⟩:∃i,i=Cf Ms.key l m.key:=⟨_,rfl⟩
 have hil:i<=l.length:=by rw[hi]; exact GY _ _
 refine E0 func314 I hH (Cs I (l_e I (AT I I I I (λbm=>Ce m.c I (Ak I (Cs I (Lm I (Lfa B8 I Z77 I (Lq I (Cq (m.key.c) G77 Z77 0 I (Ms.kK _) (Kv.ko _)) (l_e I (E1 (Fv l m.key hs (by omega)) I call109 hl.kp ?_)))))))))))
 intro _ _
 rw[<-hi]
 refine Mv 4 I (Ak I (Cs I (Mv 2 I (Lq I (Ef i I BO Bl I hl.kp I I (by omega)) (Ak I (Af (Cs I (Lm I (Nk (Pre.caseB 18 I (λhis=>?_) (λhis=>?_)))))))))))
 .obtain⟨c,hc,hck⟩:=N1 his
  rw[<-hi] at hc
  have hlt:=(lR.1 hc).1
  refine Ah I (Do8 [0,1,2,3,6,7,8,9,4,5,10,11] 439587 (λw2=>RdV w2 va Ms.enc l) I St.drawn hl.kp (Md 2 I (Dq I (Ar i I BO Bl I Ih I I) (Dq I (AV i I Cm Bl I I Ih hc) (Md 2 I (Dq I (Qi I) (Dq I (Ef (i+1) I BO Bl I Ih I I (by omega)) (d_e I (e_q I I (Cq (m.c) Cm Bl 0 I (Br _) (Ms.ko _)) (Ai hl.kp (d_e I (E1 (He c m) I call180 Tt (λ_ _=>Ai hl.kp (d_e I (Az I I Bl I I (Ms.ko _) (Ms.one _) (by first|decide|(show 0+(Ms.c _).length<=(Ms.c _).length; rw[Ms.ko,Ms.ko]; decide)) (Ce ((mco c m)).c (Sep.ku (by first|rfl|(show (Ms.c _).length=_; rw[Ms.ko,Ms.ko]))) (Ai hl.kp (d_t I (e_q I I (AF I I) (AL (Ks ?_)))))))))))))))))))))
  have hbe:C9 l m=l.take i++[(mco c m)]++l.drop (i+1):=by unfold C9; rw[<-hi,his]; simp only[mA]; rw[Io hc]
  have hti:(l.take i).length<=i:=oO _ _
  refine row0 154 Ms.enc none (Fo (λw2=>(Ad bm 154 (((mco c m)).c)).at w2/\RdV w2 va Ms.enc l) I St.drawn (Aq 0 I (Hd 1 I hl.kp) (Bi I I) (Aq 1 I (Hd 1 I hl.kp) (Bi I I) (Aq 2 I (Hd 1 I hl.kp) (FH i I BO Bl I (λ_ h=>h.2) I I (by omega)) (Aq 4 I (Hd 1 I hl.kp) (AQ ((mco c m).c) I Cm Bl I (λ_ h=>h.1) (Br _) (Ms.ko _)) (Aq 7 I (Hd 1 I hl.kp) (Bi I I) (Ay2 3 5 I ?_ ?_)))))))
  .exact BT I I I BO BO Dy I I I I I (λ_ h=>by have:=CH (hl.keep h (by simp)) (lo:=0) (hi:=i) (lK _) hil; rwa[lE] at this) (by simp only[EH]; simp; omega) (by simp<;>omega) (λv1=>Ai (Hd 1 I hl.kp) (Ay 5 I (Ax (sz:=29) [.tmp 33] I I I I I BO Bl I zeroValue154 (by simp[Value.cells,Ms.ko]) (λbx=>Ai (Hd 2 I hl.kp) (AM (Ay 6 I (BT I I I BO BO Dy I I I I I (λ_ h=>AY (h.at 1 I) Ms.enc [(mco c m)] I I) (by simp only[EH]; simp; omega) (by simp<;>omega) (λv2=>Ai (Hd 2 I hl.kp) (Ay 8 I (BT I I I BO BO Dy I I I I I (λ_ h=>by have:=CH (hl.keep h (by simp)) (lo:=i+1) (hi:=l.length) (by omega) (lJ _); rwa[oG] at this) (by simp only[EH]; simp; omega) (by simp<;>omega) (λv3=>Ai (Hd 2 I hl.kp) (Aq 9 I (Hd 2 I hl.kp) (AF I I) (An (Kt (Ag (Bt (l':=C9 l m) (by rw[hbe]; simp) (Ao I I (λ_ h=>⟨v3,rfl,T0,h.sublist (oQ.2 (nF _))⟩))))))))))))))))))
  .exact Ax (sz:=29) [.tmp 33] I I I I I BO Bl I zeroValue154 (by simp[Value.cells,Ms.ko]) (λbx=>Ai (Hd 2 I hl.kp) (AM (Ay 3 I (BT I I I BO BO Dy I I I I I (λ_ h=>by have:=CH (hl.keep h (by simp)) (lo:=0) (hi:=i) (lK _) hil; rwa[lE] at this) (by simp only[EH]; simp; omega) (by simp<;>omega) (λv1=>Ai (Hd 2 I hl.kp) (Ay 6 I (BT I I I BO BO Dy I I I I I (λ_ h=>AY (h.at 1 I) Ms.enc [(mco c m)] I I) (by simp only[EH]; simp; omega) (by simp<;>omega) (λv2=>Ai (Hd 2 I hl.kp) (Ay 8 I (BT I I I BO BO Dy I I I I I (λ_ h=>by have:=CH (hl.keep h (by simp)) (lo:=i+1) (hi:=l.length) (by omega) (lJ _); rwa[oG] at this) (by simp only[EH]; simp; omega) (by simp<;>omega) (λv3=>Ai (Hd 2 I hl.kp) (Aq 9 I (Hd 2 I hl.kp) (AF I I) (An (Kt (Ag (Bt (l':=C9 l m) (by rw[hbe]; simp) (Ao I I (λ_ h=>⟨v3,rfl,T0,h.sublist (oQ.2 (nF _))⟩))))))))))))))))))
 .refine Aa I (Ae (Ks ?_))
  have hbe:C9 l m=l.take i++[m]++l.drop (i+0):=by unfold C9; rw[<-hi,his]; simp only[ny,nz]
  have hti:(l.take i).length<=i:=oO _ _
  refine row0 154 Ms.enc none (Fo (λw2=>(Ad bm 154 ((m).c)).at w2/\RdV w2 va Ms.enc l) I St.drawn (Aq 0 I (Hd 1 I hl.kp) (Bi I I) (Aq 1 I (Hd 1 I hl.kp) (Bi I I) (Aq 2 I (Hd 1 I hl.kp) (FH i I BO Bl I (λ_ h=>h.2) I I (by omega)) (Aq 4 I (Hd 1 I hl.kp) (AQ (m.c) I Cm Bl I (λ_ h=>h.1) (Br _) (Ms.ko _)) (Aq 7 I (Hd 1 I hl.kp) (Bi I I) (Ay2 3 5 I ?_ ?_)))))))
  .exact BT I I I BO BO Dy I I I I I (λ_ h=>by have:=CH (hl.keep h (by simp)) (lo:=0) (hi:=i) (lK _) hil; rwa[lE] at this) (by simp only[EH]; simp; omega) (by simp<;>omega) (λv1=>Ai (Hd 1 I hl.kp) (Ay 5 I (Ax (sz:=29) [.tmp 33] I I I I I BO Bl I zeroValue154 (by simp[Value.cells,Ms.ko]) (λbx=>Ai (Hd 2 I hl.kp) (AM (Ay 6 I (BT I I I BO BO Dy I I I I I (λ_ h=>AY (h.at 1 I) Ms.enc [m] I I) (by simp only[EH]; simp; omega) (by simp<;>omega) (λv2=>Ai (Hd 2 I hl.kp) (Ay 8 I (BT I I I BO BO Dy I I I I I (λ_ h=>by have:=CH (hl.keep h (by simp)) (lo:=i) (hi:=l.length) hil (lJ _); rwa[oG] at this) (by simp only[EH]; simp; omega) (by simp<;>omega) (λv3=>Ai (Hd 2 I hl.kp) (Aq 9 I (Hd 2 I hl.kp) (AF I I) (An (Kt (Ag (Bt (l':=C9 l m) (by rw[hbe]; simp) (Ao I I (λ_ h=>⟨v3,rfl,T0,h.sublist (oQ.2 (nF _))⟩))))))))))))))))))
  .exact Ax (sz:=29) [.tmp 33] I I I I I BO Bl I zeroValue154 (by simp[Value.cells,Ms.ko]) (λbx=>Ai (Hd 2 I hl.kp) (AM (Ay 3 I (BT I I I BO BO Dy I I I I I (λ_ h=>by have:=CH (hl.keep h (by simp)) (lo:=0) (hi:=i) (lK _) hil; rwa[lE] at this) (by simp only[EH]; simp; omega) (by simp<;>omega) (λv1=>Ai (Hd 2 I hl.kp) (Ay 6 I (BT I I I BO BO Dy I I I I I (λ_ h=>AY (h.at 1 I) Ms.enc [m] I I) (by simp only[EH]; simp; omega) (by simp<;>omega) (λv2=>Ai (Hd 2 I hl.kp) (Ay 8 I (BT I I I BO BO Dy I I I I I (λ_ h=>by have:=CH (hl.keep h (by simp)) (lo:=i) (hi:=l.length) hil (lJ _); rwa[oG] at this) (by simp only[EH]; simp; omega) (by simp<;>omega) (λv3=>Ai (Hd 2 I hl.kp) (Aq 9 I (Hd 2 I hl.kp) (AF I I) (An (Kt (Ag (Bt (l':=C9 l m) (by rw[hbe]; simp) (Ao I I (λ_ h=>⟨v3,rfl,T0,h.sublist (oQ.2 (nF _))⟩))))))))))))))))))
def F6 (n:Nd):Bool:=decide (n.es.length=0)&&(fck n.kids n.piv&&bck n.msgs)
def GC (n:Nd):Bool:=F6 n&&decide (bby n.msgs<=205)
def Xb (n:Nd):Bool:=decide (205<=2*bby n.msgs)
def FN (n:Nd):Bool:=if n.leaf=true then Cv n else GC n
def DF (n:Nd):Bool:=!n.leaf&&Xb n
theorem I4 (nv:NV) (hlf:nv.d.leaf=false):Con prog 258 [.agg nv.c.toArray] Tr [] (λ_:Unit=>.iface 366 (.agg nv.c.toArray)) Tr (λ_=>[]):=by
 intro w hE hH
 refine E0 func258 I hH ?_
 exact Cs I (l_e I (AT I I I I (λbn=>Ce nv.c I (Ak I (Af (Cs I (Lfa Cu I Z4 I (Lo G4 0 I (Nk (Sb 4 false I (hlf) (Aa I (Ae (Kt (Cs I (Lq I (Cq (nv.c) Bx AU 0 I (I) (I)) (Lq rfl (H6 rfl OW (λ_ h=>by cases h) rfl) (Ak I (Ag (Ao I I (λ_ h=>⟨(),rfl,T0,h.kv⟩))))))))))))))))))))
theorem N5 (nv:NV) (hn:nv.d.Sm 50000):Con prog 343 [.agg nv.c.toArray] (λw=>NRd w nv) [] (λ_:Unit=>.bool (F6 nv.d)) Tr (λ_=>[]):=by
 intro w hE hH
 obtain⟨n1,n2,n3,n4⟩:=hn
 refine E0 func343 I hH (Cs I (l_e I (AT I I I I (λbn=>Ce nv.c I (Ak I (Cs I (Lfa OW I Z49 I (Lo G49 0 I (Lq I (AJ I U49 I hE.e.kp) (Mv 2 I (CB 7 I (λh1=>?_) (λh1=>?_))))))))))))
 .refine Lfa OW I Z22 I (Lo G22 0 I (Lfa OW I NA I (Lo Ra 0 I (l_e I (E1 (PH nv.d.kids nv.d.piv (mf n2 (by decide)) (mf n3 (by decide))) I call344 (λ_ h=>⟨hE.k.keep h (by simp),hE.p.keep h (by simp)⟩) (λ_ _=>Lq I (Qy I) (Lm I (Pre.caseB 14 I (λh2=>?_) (λh2=>?_)))))))))
  .exact Lfa OW I Hs I (Lo IN 0 I (l_e I (E1 (PM nv.d.msgs (mf n4 (by decide))) I call345 hE.m.kp (λ_ _=>Lq I (Qy I) (Ak I (Ag (Ao I I (λ_ h=>⟨(),congrArg Eb (by unfold F6; rw[od (show nv.d.es.length=0 by omega),h2]; simp),T0,h.kv⟩))))))))
  .exact Mv 4 I (Ak I (Ag (Ao I I (λ_ h=>⟨(),congrArg Eb (by unfold F6; rw[h2]; simp),T0,h.kv⟩))))
 .exact Mv 11 I (Ak I (Ag (Ao I I (λ_ h=>⟨(),congrArg Eb (by unfold F6; rw[oc (show ¬nv.d.es.length=0 by omega)]; rfl),T0,h.kv⟩))))
theorem N6 (nv:NV) (hn:nv.d.Sm 50000):Con prog 342 [.agg nv.c.toArray] (λw=>NRd w nv) [] (λ_:Unit=>.int .i64 (bby nv.d.msgs)) Tr (λ_=>[]):=by
 intro w hE hH
 refine E0 func342 I hH ?_
 exact Cs I (l_e I (AT I I I I (λbn=>Ce nv.c I (Ak I (Cs I (Lfa OW I Hs I (Lo IN 0 I (l_e I (E1 (PL nv.d.msgs (mf hn.m (by decide))) I call288 hE.m.kp (λ_ _=>Ak I (Ag (Ao I I (λ_ h=>⟨(),rfl,T0,h.kv⟩)))))))))))))
theorem N7 (nv:NV) (hlf:nv.d.leaf=false) (hn:nv.d.Sm 50000):Con prog 272 [.agg nv.c.toArray] (λw=>NRd w nv) [] (λ_:Unit=>.bool (F6 nv.d)) Tr (λ_=>[]):=by
 intro w hE hH
 refine E0 func272 I hH ?_
 exact Cs I (l_e I (AT I I I I (λbn=>Ce nv.c I (Ak I (Cs I (Lq I (Cq (nv.c) Bx AU 0 I (I) (I)) (l_e I (E1 (I4 nv hlf) I call258 Tt (λ_ _=>l_e I (JY (N5 nv hn) I I I I I (λw=>by kernel_rfl) (λ_ h=>hE.keep h) (λ_ _=>Ak I (Ag (Ao I I (λ_ h=>⟨(),rfl,T0,h.kv⟩))))))))))))))
theorem GD (nv:NV) (hlf:nv.d.leaf=false) (hn:nv.d.Sm 50000):Con prog 199 [.agg nv.c.toArray] (λw=>NRd w nv) [] (λ_:Unit=>.int .i64 (bby nv.d.msgs)) Tr (λ_=>[]):=by
 intro w hE hH
 refine E0 func199 I hH ?_
 exact Cs I (l_e I (AT I I I I (λbn=>Ce nv.c I (Ak I (Cs I (Lq I (Cq (nv.c) Bx AU 0 I (I) (I)) (l_e I (E1 (I4 nv hlf) I call258 Tt (λ_ _=>l_e I (JY (N6 nv hn) I I I I I (λw=>by kernel_rfl) (λ_ h=>hE.keep h) (λ_ _=>Ak I (Ag (Ao I I (λ_ h=>⟨(),rfl,T0,h.kv⟩))))))))))))))
theorem JD (nv:NV) (hlf:nv.d.leaf=false) (hn:nv.d.Sm 50000):Con prog 216 [.agg nv.c.toArray] (λw=>NRd w nv) [] (λ_:Unit=>.bool (GC nv.d)) Tr (λ_=>[]):=by
 intro w hE hH
 refine E0 func216 I hH ?_
 refine Cs I (l_e I (AT I I I I (λbn=>Ce nv.c I (Ak I (Cs I (Ak I (Af (Cs I (Lq I (Cq (nv.c) Bx AU 0 I (I) (I)) (l_e I (E1 (I4 nv hlf) I call258 Tt (λ_ _=>Nk (Aj (Cs I (Lq rfl (CN rfl OV (λ_ h=>by cases h) rfl (by decide) zeroValue365) (Mv 2 I (Nk (Aa I (Cs I (Lq rfl (Cz rfl OW (λ_ h=>by cases h) rfl) (Mv 2 I (Nk (Ah I (Cr I (Las I (AB (Aw (Kt (Cs I (Lq I (Cq (nv.c) Bx AU 0 I (I) (I)) (l_e I (E1 (N7 nv hlf hn) I call272 (λ_ h=>hE.keep h) (λ_ _=>Lm I ?_)))))))))))))))))))))))))))))))))
 refine Pre.caseB 14 I (λhc=>?_) (λhc=>?_)
 .exact Lq I (Cq (nv.c) Bx AU 0 I (I) (I)) (l_e I (E1 (GD nv hlf hn) I call199 (λ_ h=>hE.keep h) (λ_ _=>Lm I (Lq I (H4 I I I) (Lq I (Qy I) (Ak I (Ag (Ao I I (λ_ h=>⟨(),congrArg Eb (by unfold GC; rw[hc,o9]),T0,h.kv⟩)))))))))
 .exact Mv 5 I (Ak I (Ag (Ao I I (λ_ h=>⟨(),congrArg Eb (by unfold GC; rw[hc]; rfl),T0,h.kv⟩))))
theorem KW (nv:NV) (hn:nv.d.Sm 50000):Con prog 216 [.agg nv.c.toArray] (λw=>NRd w nv) [] (λ_:Unit=>.bool (FN nv.d)) Tr (λ_=>[]):=by
 unfold FN
 cases h:nv.d.leaf with
 |true=>exact HR nv h ⟨mf hn.e (by decide),mf hn.k (by decide),mf hn.p (by decide),mf hn.m (by decide)⟩
 |false=>exact JD nv h hn
theorem N8 (nv:NV) (hlf:nv.d.leaf=false) (hn:nv.d.Sm 50000):Con prog 136 [.agg nv.c.toArray] (λw=>NRd w nv) [] (λ_:Unit=>.bool (DF nv.d)) Tr (λ_=>[]):=by
 intro w hE hH
 have hbb:=N3 nv.d.msgs
 have hnm:=hn.m
 refine E0 func136 I hH ?_
 exact Cs I (l_e I (AT I I I I (λbn=>Ce nv.c I (Ak I (Cs I (Lfa Cu I Z4 I (Lo G4 0 I (Mv 2 I (Sb 6 true I (by rw[hlf]; rfl) (Lq I (Cq (nv.c) Bx AU 0 I (I) (I)) (l_e I (E1 (GD nv hlf hn) I call199 (λ_ h=>hE.keep h) (λ_ _=>Lq I (GN I I I) (Mv 2 I (Ak I (Ag (Ao I I (λ_ h=>⟨(),congrArg Eb (by unfold DF Xb; rw[hlf]; rfl),T0,h.kv⟩))))))))))))))))))
theorem PN (nv:NV) (hn:nv.d.Sm 50000):Con prog 136 [.agg nv.c.toArray] (λw=>NRd w nv) [] (λ_:Unit=>.bool (DF nv.d)) Tr (λ_=>[]):=by
 cases h:nv.d.leaf with
 |true =>
  have e:DF nv.d=false:=by unfold DF; rw[h]; rfl
  rw[e]
  exact λw _ hH=>PE nv h w trivial hH
 |false=>exact N8 nv h hn
theorem U0 (l ms:List Ms) (hr:RB l ms) (hn:l.length+ms.length<=40000):Con prog 309 [va,vm] (λw=>RdV w va Ms.enc l/\RdV w vm Ms.enc ms) [] (λb:Value×Bool=>b.1) (λb=>(ms≠[]->b.2=true)/\(b.2=false->b.1=va/\ms=[])) (λb=>[L7 b.2 b.1 154 Ms.enc (I3 l ms)]):=by
 intro w hE hH
 obtain⟨hl,hm⟩:=hE
 refine E0 func309 I hH (Cs I (Ak I (Af (Cs I (Lm I (Lq I (AJ I BO I hm.kp) (Lm I (Nk (Aj (MN va 154 Ms.enc l ?_))))))))))
 refine Fp (λ(i:Nat) (own:Bool) (v:Value)=>[(0,v),(7,vm),(8,.int .i64 (ms.length:Int)),(9,.int .i64 (i:Int))]) (λ(i:Nat) (own:Bool) (v:Value)=>St w [] [L7 own v 154 Ms.enc (I3 l (ms.take i))]) (λ(i:Nat) (own:Bool) (v:Value)=>i<=ms.length/\(0<i->own=true)/\(own=false->v=va/\i=0)) (λ(i:Nat) (own:Bool) (v:Value)=>ms.length-i) (0) (false) (va) ⟨lK _,λh=>absurd h (Nat.lt_irrefl _),λ_=>⟨rfl,rfl⟩⟩ (Si I) Ih (λi own v hp=>Af ?_)
 obtain⟨hi,how,hno⟩:=hp
 have hlen:=PK (ms.take i) l
 have htl:=oO i ms
 refine Cr I (Lq I (Ql I) (Ns (CB 10 I (λh1=>?_) (λh1=>?_))))
 .obtain⟨m,hmi⟩:=gE ms i
  have hsn:=UY (l:=l) hmi
  refine Ah I (Ae (Ks (Aj (Cs I (Lq I (Ar i I BO Bl I hm.kp I I) (Lq I (AV i I Cm Bl I I hm.kp hmi) (l_e I (Au I I I zeroValue154 (λbm=>Ce ms0.c I (l_e I (Az I I Bl I I (Ms.ko _) (Ms.one _) (by show 0+(Ms.c _).length<=(Ms.c _).length; rw[Ms.ko,Ms.ko]; decide) (Ce (m).c (Sep.ku (by show (Ms.c _).length=_; rw[Ms.ko,Ms.ko])) (Nk (Cr I (Lm I (Lq I (Cq (m.c) Cm Bl 0 I (Br _) (Ms.ko _)) (l_e I (AZ (UZ (I3 l (ms.take i)) m (hr i hi) (by omega)) rfl rfl rfl call314 rfl (λ_ h=>Ij h 1 rfl (λe=>by obtain⟨e1,e2⟩:=hno e; subst e1; subst e2; exact hl.keep h (by simp))) (λv2 _=>Las I (AB (Aw (Kt (Cr I (Lq I (Qi I) (Lm I (AB (AM (Av (AM (Av ?_))))))))))))))))))))))))))))))
  exact AE ((i+1,true,v2)) (by dsimp only; omega) ⟨by dsimp only; omega,λ_=>rfl,λe=>by cases e⟩ (Si I) (λ_ h=>by dsimp only; rw[hsn]; exact h)
 .have hfin:ms.take i=ms:=lI (by omega)
  rw[hfin]
  exact Aa I (AO (Ab (Ab (Am (Kt (Cs I (Lm I (Ak I (Ag (Ao I I (λ_ h=>⟨(v,own),rfl,⟨λhne=>how (by have:=nZ.2 hne; omega),λe=>⟨(hno e).1,lA (by have:=(hno e).2; omega)⟩⟩,h⟩)))))))))))
theorem FO (nv:NV) (hlf:nv.d.leaf=false):Con prog 270 [.agg nv.c.toArray] Tr [] (λ_:Unit=>.agg #[fnV 296,fnV 265]) Tr (λ_=>[]):=by
 intro w hE hH
 refine E0 func270 I hH ?_
 exact Cs I (l_e I (AT I I I I (λbn=>Ce nv.c I (l_e I (Au I I I zeroValue363 (λbr=>Nk (Cs I (Ak I (Af (Cs I (Lfa Cu I Z4 I (Lo G4 1 I (Nk (Sb 5 false I (hlf) (Aa I (Ae (Kt (Cs I (Lq I (AP [fnV 296,fnV 265] I I (λw=>by kernel_rfl)) (Lq I (AP [fnV 297,fnV 267] I I (λw=>by kernel_rfl)) (Lq I (AP [fnV 296,fnV 265,fnV 297,fnV 267] I I (λw=>by kernel_rfl)) (Lm I (Lq I (D6 (v:=.agg #[fnV 296,fnV 265]) I I I (λw=>by kernel_rfl)) (l_e I (Az rfl rfl sizeOf363 rfl rfl rfl (λv hv=>by simp at hv; rcases hv with rfl|rfl<;>rfl) (by show 0+2<=2; decide) (Ce [fnV 296,fnV 265] I (Nk (Ag (CJ I (AK I isAgg363 sizeOf363 (Hat 0 I) (I)) (λ_ h=>⟨(),rfl,T0,h.kv⟩))))))))))))))))))))))))))))))
theorem C1 (nv:NV) (ms:List Ms) (hr:RB nv.d.msgs ms) (hn:nv.d.msgs.length+ms.length<=40000):Con prog 296 [.agg nv.c.toArray,vm] (λw=>NRd w nv/\RdV w vm Ms.enc ms) [] (λb:Sv×Bool=>.agg (⟨⟨nv.s.e,nv.s.k,nv.s.p,b.1⟩,{nv.d with msgs:=I3 nv.d.msgs ms}⟩:NV).c.toArray) (λb=>(ms≠[]->b.2=true)/\(b.2=false->b.1.v=nv.s.m.v/\ms=[])) (λb=>[L7 b.2 b.1.v 154 Ms.enc (I3 nv.d.msgs ms)]):=by
 intro w hE hH
 obtain⟨hE,hm⟩:=hE
 refine E0 func296 I hH (Cs I (l_e I (AT I I I I (λbn=>Ce nv.c I (l_e I (Au I I I zeroValue135 (λbr=>Ce nv0.c I (Nk (Cs I (Lfa Cu I Hs I (Lo IN 1 I (Lm I (l_e I (AZ (U0 nv.d.msgs ms hr hn) I I I call309 I (λ_ h=>⟨hE.m.keep h (by simp),hm.keep h (by simp)⟩) ?_))))))))))))))
 intro ⟨v,own⟩ hb
 refine Lfa Cu I Hs I (Pre.fact (λ_ h=>Gf (Ij h 0 rfl (λe=>by obtain⟨e1,e2⟩:=hb.2 e; dsimp only at e1; subst e1; subst e2; exact hE.m.keep h (by simp)))) ?_)
 rintro⟨s,hs⟩
 dsimp only at hs
 subst hs
 exact AX (l_e I (AG I I Hs I I I (by show 4<5; decide) (Ce (⟨⟨nv.s.e,nv.s.k,nv.s.p,s⟩,{nv.d with msgs:=I3 nv.d.msgs ms}⟩:NV).c I (Nk (Cs I (Lq I (Cq ((⟨⟨nv.s.e,nv.s.k,nv.s.p,s⟩,{nv.d with msgs:=I3 nv.d.msgs ms}⟩:NV).c) Bx AU 0 I (I) (I)) (AX (l_e I (SW AU I (NV.one _) (Nk (Ag (AX (CJ I (AK I Bx AU (Hat 1 I) (I)) (λ_ h=>⟨(s,own),rfl,hb,h.sublist (oQ.2 (nF _))⟩))))))))))))))
def Ek (d:Nd) (m:Ms):Nd:={d with msgs:=C9 d.msgs m}
theorem Ds {l:List Ms} (h:BE Ms.key l) (h2:BE Ms.key (C9 l m)):RB l [m]:=λi hi=>by
 cases i with
 |zero=>exact h
 |succ i=>simp at hi; subst hi; exact h2
end Go.Proofs.YtloldofjddbjoaaGreat
