/- Part 7 of the proof. No condition. -/
import Derived.Test.YtloldofjddbjoaaGreatQ6
set_option linter.unusedVariables false
set_option linter.unusedSimpArgs false
set_option maxHeartbeats 8000000
set_option maxRecDepth 100000
namespace Go.Proofs.YtloldofjddbjoaaGreat
open Go.Sep Go.RowKit Tryz
variable {l:List En} {va vo vd:Value} {i nb nf k fl j:Nat} {o:Opn} {m:Ms} {t sq n:Int} {e:En} {s:ByteArray} {d:List Bool} {L2:Hm} {x:Evt} {α:Type} {a b:Kv 8} {u:TypeId} {y:Operand} {r r2:Rdr} {v v2:Wv} {inn:Bool} {ls:List (List Opn)} {s':List (Nat×Bool)} {Q:Prop}
namespace Lo
theorem Inv0.goes {m:HM} (h:Inv0 m) (he:m.cs.all Cl.ended=false):∃(t:Nat) (c:Cl),m.cs[t]?=some c/\mayC (t:Int) m.L c=true:=by
 obtain⟨c,hcm,hce⟩:=o7.1 he
 obtain⟨t,hc⟩:=oJ.1 hcm
 have h8:∀(v:Nat) (d:Cl),m.cs[v]?=some d->tkB (v:Int)=true:=λv d hd=>by
  have:=(lR.1 hd).1
  have:=h.n8
  unfold tkB
  rw[od (show (0:Int)<=(v:Int) by omega),od (show (v:Int)<8 by omega)];rfl
 have hmay:∀(v:Nat) (d:Cl),m.cs[v]?=some d->d.ph≠.idle->(v:Int)∉m.L.ld->(v:Int)∉m.L.la.q.map Prod.fst->mayC (v:Int) m.L d=true:=λv d hd hp h1 h2=>by
  have:mayC (v:Int) m.L d=m.L.mayH (v:Int):=by
   unfold mayC;split
   .rename_i e;exact absurd e hp
   .rfl
  rw[this]
  unfold Lf.mayH
  rw[Lf.may_iff,oc h1,oc h2,h8 v d hd];rfl
 by_cases hi:c.ph=.idle
 .refine⟨t,c,hc,?_⟩
  unfold mayC;rw[hi]
  unfold Cl.ended at hce
  rw[hi] at hce
  simpa using hce
 .have hq0:m.L.r.st≠2->m.L.la.q.map Prod.fst=[]:=λh2=>by
   cases hq:m.L.la.q with
   |nil=>rfl
   |cons x q=>exact absurd (h.hold2 (u:=x.1) (by unfold Lt.tasks;rw[hq];simp)) h2
  rcases h.lok.st3 with h0|h0|h0
  .exact⟨t,c,hc,hmay t c hc hi (by rw[h.ld0 (by omega)];simp) (by rw[hq0 (by omega)];simp)⟩
  .obtain⟨v,d,hd,hp⟩:=h.ldr h0
   refine⟨v,d,hd,hmay v d hd (by rcases hp with hp|hp<;>rw[hp]<;>simp) (λhl=>?_) (by rw[hq0 (by omega)];simp)⟩
   exact h.nl hd (by rcases hp with hp|hp<;>rw[hp]<;>simp) (by rcases hp with hp|hp<;>rw[hp]<;>simp) _ hl rfl
  .by_cases hq:(t:Int)∈m.L.la.q.map Prod.fst
   .obtain⟨n,hn⟩:=h.la
    have hnd:=hn.nd
    obtain⟨x,q,hxq⟩:∃x q,m.L.la.q=x::q:=by
     cases hq2:m.L.la.q with
     |nil=>rw[hq2] at hq;simp at hq
     |cons x q=>exact⟨x,q,rfl⟩
    have hst:=h.sb x q hxq
    have hu:∃u,u∈Lt.tasks m.L.la/\u∉m.L.la.q.map Prod.fst:=by
     unfold Lt.tasks at hnd ⊢
     by_cases hw:0<=m.L.la.wr
     .rw[lu hw] at hnd ⊢
      refine⟨m.L.la.wr,by simp,λhm=>?_⟩
      have:=(nH.1 hnd).1
      exact this (nK m.L.la.rd hm)
     .rw[lz hw] at hnd ⊢
      have hw1:m.L.la.wr = -1:=by have:=hn.wr;omega
      have hrd:m.L.la.rd≠[]:=λhr=>by
       have:Lt.openB m.L.la x.2=true:=Lt.openB_iff.2 ⟨hw1,λ_=>hr⟩
       rw[hst] at this;cases this
      obtain⟨u,us,hr⟩:=List.exists_cons_of_ne_nil hrd
      refine⟨u,by rw[hr];simp,λhm=>?_⟩
      rw[mw,nJ] at hnd
      exact hnd.2.2 u (by rw[hr];simp) u hm I
    obtain⟨u,hu1,hu2⟩:=hu
    obtain⟨v,d,rfl,hd,hp⟩:=h.tk u hu1
    exact⟨v,d,hd,hmay v d hd (by rcases hp with hp|hp|⟨a,hp⟩<;>rw[hp]<;>simp) (by rw[h.ld0 (by omega)];simp) hu2⟩
   .exact⟨t,c,hc,hmay t c hc hi (by rw[h.ld0 (by omega)];simp) hq⟩
theorem Inv.step {m:HM} (h:Inv m) (p:Int) (hS:∀c∈m.cs,Yn m.L c):Inv (kF m p)/\mu (kF m p)<=mu m/\(m.cs.all Cl.ended=false->mu (kF m p)<mu m)/\(kF m p).pk<=m.pk+1:=by
 rcases stepH_cases h p with⟨e,hr⟩|⟨t,c,hc,h0,hpre,e⟩
 .rw[e]
  refine⟨h,lJ _,λhe=>?_,oS _⟩
  obtain⟨t,c,hc,hm⟩:=h.toInv0.goes he
  have hlt:t<m.T.n:=by have:=(lR.1 hc).1;have:=h.tn;omega
  have hmem:t∈Sc.kG m.T:=by
   unfold Sc.kG
   refine oD.2 ⟨lQ.2 hlt,?_⟩
   rw[h.told t hlt]
   unfold stI
   rw[lu (by unfold mayI;rw[hc];exact hm)];rfl
  rw[hr] at hmem;cases hmem
 .have hi:=h.toInv0.client hc hpre (hS c (mQ hc))
  have hmu:mu (m.client t)<mu m:=by
   unfold mu
   rw[client_cs hc]
   exact TH hc (Yo hpre (h.ops c (mQ hc)).2.2)
  rw[e]
  exact⟨h.tell hc h0 hi p _,Nat.le_of_lt hmu,λ_=>hmu,lJ _⟩
end Lo
open Lo (Lf)
def eL (L:Lf):Hm:=⟨L.M,L.s,L.las,L.rds⟩
def ePh (t:Int) (o:Opn):Lo.Ph->Ph
 |.idle=>.idle
 |.rd a=>.rd ⟨t,kOf o,(a:Int),0,0,!decide (a=1),false,ms0,false,kv0 16,false⟩
 |.wr a=>.wr ⟨(a:Int),!decide (a=0),none,0⟩
 |.rm a=>.wr ⟨4,true,some ((a:Int),true,0),0⟩
def eC (t:Int) (c:Lo.Cl):Cl:=⟨c.ops,c.nx,ePh t c.op c.ph⟩
theorem cj (n:Nat) (t:Int):(List.replicate n Lt.newL).any (λl=>decide (t∈l.q.map Prod.fst))=false:=by
 rw[List.any_eq_false]
 intro l hl
 rw[(mU.1 hl).2]
 simp[Lt.newL]
theorem Oj (L:Lf) (t:Int):(eL L).may t=L.mayH t:=by
 unfold Hm.may Lf.mayH
 show (!(L.la::List.replicate (L.n-1) Lt.newL).any (λl=>decide (t∈l.q.map Prod.fst))&&L.M.may t)=_
 rw[List.any_cons,cj,Bool.or_false]
theorem cn (L:Lf) (t:Int):mput 0 t L.rds=[(0,t)]:=by
 unfold Lf.rds
 split<;>rfl
theorem cq (L:Lf):BP 0 L.rds=[]:=by
 unfold Lf.rds
 split<;>rfl
theorem gq (L:Lf) (t:Int):(L.pin t).2.rds=if (L.pin t).1=3 then mput 0 t L.rds else L.rds:=by
 rw[cn]
 unfold Lf.pin
 split
 .rfl
 .split<;>rfl
theorem Yp {L:Lf} (h:L.Ok) {t:Int} (ht:tkB t) (hl:t∉L.ld):(eL L).pin t ((0:Nat):Int)=((L.pin t).1,eL (L.pin t).2):=by
 have hp:=h.pin ht hl
 have hr:=gq L t
 have hs:(L.pin t).2.s=L.s/\(L.pin t).2.las=L.las:=by unfold Lf.pin;split<;>(try split)<;>exact⟨rfl,rfl⟩
 show ((L.M.pin t 0).1,(⟨(L.M.pin t 0).2,L.s,L.las,if (L.M.pin t 0).1=3 then mput 0 t L.rds else L.rds⟩:Hm))=_
 rw[hp]
 show ((L.pin t).1,(⟨(L.pin t).2.M,L.s,L.las,if (L.pin t).1=3 then mput 0 t L.rds else L.rds⟩:Hm))=((L.pin t).1,⟨(L.pin t).2.M,(L.pin t).2.s,(L.pin t).2.las,(L.pin t).2.rds⟩)
 rw[<-hr,hs.1,hs.2]
theorem TI {L:Lf} (h:L.Ok) (h1:L.r.st=1):(eL L).load 0 ndL=eL L.fill:=by
 have hp:L.M.fill 0 ndL=((L.ld,true),L.fill.M):=h.fill h1
 show (⟨(L.M.fill 0 ndL).2,L.s,L.las,BP 0 L.rds⟩:Hm)=⟨L.fill.M,L.s,L.las,[]⟩
 rw[hp,cq]
theorem Qk {L:Lf} (h:L.Ok) (h2:L.r.st=2):(eL L).M.frI 0 2=some 0:=by
 show L.M.frI 0 2=_
 rw[h.frI1 2 (by decide),lu h2]
theorem Hi {L:Lf} (h:L.Ok) (h2:L.r.st=2):(eL L).fi 0=0:=by unfold Hm.fi;rw[Qk h h2];rfl
theorem Iu {L:Lf} (h:L.Ok) (h2:L.r.st=2):(eL L).nd 0=L.r.nd:=by unfold Hm.nd;rw[Hi h h2];rfl
theorem TJ {L:Lf} (h:L.Ok) (h2:L.r.st=2) (t:Int) (w:Bool):(eL L).take ((eL L).fi 0) t w=eL (L.take t w):=by rw[Hi h h2];rfl
theorem TK (L:Lf):L.unpin.s=L.s/\L.unpin.la=L.la/\L.unpin.n=L.n/\L.unpin.rt=L.rt:=by unfold Lf.unpin;split<;>exact⟨rfl,rfl,rfl,rfl⟩
theorem Lg {L:Lf} (h:L.Ok) (h2:L.r.st=2) (t:Int):(eL L).leave 0 t 0=eL (L.leave t):=by
 have hu:(L.M.unpin 0).2=(L.drop t).unpin.M:=by rw[h.unpin h2];unfold Lf.unpin Lf.drop;split<;>rfl
 obtain⟨a,b,c,d⟩:=TK (L.drop t)
 show (⟨(L.M.unpin 0).2,L.s,(Lt.dropL L.la t).2::List.replicate (L.n-1) Lt.newL,L.rds⟩:Hm)=⟨(L.drop t).unpin.M,(L.drop t).unpin.s,(L.drop t).unpin.la::List.replicate ((L.drop t).unpin.n-1) Lt.newL,match (L.drop t).unpin.rt with|none=>[]|some t=>[(0,t)]⟩
 rw[hu,a,b,c,d];rfl
theorem cr {L:Lf} (h:L.Ok) (h2:L.r.st=2) (es:List En):(eL L).setN 0 (Lo.lfd es)=eL (L.setN es):=by
 show (⟨(L.M.setN 0 (Lo.lfd es)).2,L.s,L.las,L.rds⟩:Hm)=_
 rw[h.setN h2];rfl
theorem Iv {L:Lf} (h:L.Ok) {t:Int} (ht:tkB t) (hl:t∉L.ld) (h0:L.r.st≠0) (hc:L.cl=0\/L.ct=t):(eL L).claim t=(true,eL (L.claim t)):=by
 show ((L.M.claim t).1,(⟨(L.M.claim t).2,L.s,L.las,L.rds⟩:Hm))=_
 rw[h.claim ht hl h0 hc];rfl
theorem TL {L:Lf} (h:L.Ok) {t:Int} (hc:L.cl=0\/L.ct=t):(eL L).give t=eL L.give:=by
 show (⟨L.M.give t,L.s,L.las,L.rds⟩:Hm)=_
 rw[h.give hc];rfl
theorem Qm (l:List En) (m:Ms) (s:Int):Bs l (m.num s)=Bs l m:=by
 unfold Ms.num
 split
 .rfl
 .rfl
theorem Qo (es:List En) (m:Ms) (s:Int):Dd (Lo.lfd es) (m.num s)=Lo.lfd (Bs es m):=by
 show (⟨true,Bs es (m.num s),[],[],[]⟩:Nd)=_
 rw[Qm];rfl
theorem TM (m:Ms) (s:Int):(m.num s).key=m.key:=by unfold Ms.num;split<;>rfl
theorem MZ {L:Lf} (h:L.Ok):L.M.claims L.ct=L.cl:=by
 show (L.r::L.rest).countP (isC L.ct)=_
 rw[List.countP_cons_of_neg (by simp[isC,h.r3])]
 unfold Lf.rest
 rw[List.countP_append,List.countP_replicate,List.countP_replicate]
 simp[isC,Lo.cf,BL]
theorem Ga {L:Lf} (h:L.Ok) (h2:L.r.st=2):((eL L).M.frI 0 2).isSome=true:=by rw[Qk h h2];rfl
theorem J2 {L:Lf} {c:Lo.Cl} (hm:c.ph≠.idle->L.mayH t=true) (hn:c.ph≠.idle):t∉L.ld:=Lo.may_ld (hm hn)
theorem ju (ht:tkB t) {L:Lf} (h:L.Ok) {c:Lo.Cl} (hp:Lo.preC t L c) (hm:c.ph≠.idle->L.mayH t=true) (hS:c.ph=.rm 10->L.s.left<2):preC t sq (eL L) (eC t c):=by
 obtain⟨ops,nx,ph⟩:=c
 cases ph with
 |idle=>exact hp
 |rd a =>
  match a,hp with
  |1,_=>exact⟨rfl,h.s0,lK _⟩
  |2,hp=>exact⟨rfl,h.s0,by show Co ((0:Nat):Int) L.rds=some t;unfold Lf.rds;rw[hp.1];rfl,h.b0⟩
  |3,hp=>exact⟨rfl,Ga h hp⟩
  |5,hp =>
   obtain⟨es,e,hr,hf⟩:=h.nd hp.1
   refine⟨rfl,rfl,Ga h hp.1,.inr ?_⟩
   show ((eL L).nd 0).kids=[]/\BG ((eL L).nd 0).es/\De ((eL L).lat ((eL L).fi 0)) t=true
   rw[Iu h hp.1,Hi h hp.1,e]
   exact⟨rfl,hr,hp.2⟩
 |wr a =>
  match a,hp with
  |0,_=>exact⟨rfl,h.s0⟩
  |1,hp=>exact⟨rfl,h.s0,by show Co ((0:Nat):Int) L.rds=some t;unfold Lf.rds;rw[hp.1];rfl,h.b0⟩
  |2,hp=>exact⟨rfl,Ga h hp⟩
  |3,hp =>
   obtain⟨es,e,hr,hf⟩:=h.nd hp.1
   refine⟨rfl,Ga h hp.1,by rw[Hi h hp.1];exact hp.2.1,by rw[Hi h hp.1];show De L.la t=true;unfold De;rw[od hp.2.1,Bool.true_or],?_⟩
   rw[Iu h hp.1,e]
   rw[lu (show (Lo.lfd es).leaf=true from rfl)]
   refine⟨hr,?_,λhft=>?_⟩
   .show BG (Bs es _)
    exact El hr (λx hx=>(DJ hf x hx).1) (by rw[TM];exact hp.2.2)
   .rw[Qo] at hft ⊢
    exact Oe hft
 |rm a =>
  have hl:=J2 hm (by simp)
  match a,hp with
  |1,hp =>
   obtain⟨es,e,hr,hf⟩:=h.nd hp.1
   exact⟨1,rfl,Ga h hp.1,.inl ⟨rfl,by rw[Iu h hp.1,e];rfl,by rw[Iu h hp.1];exact hp.2⟩⟩
  |6,hp=>exact⟨6,rfl,Ga h hp.1,.inr (.inl ⟨rfl,by rw[Iv h ht hl (by rw[hp.1];decide) hp.2.1]⟩)⟩
  |7,hp=>exact⟨7,rfl,Ga h hp.1,.inr (.inr (.inl ⟨rfl,by rw[Iv h ht hl (by rw[hp.1];decide) hp.2.1]⟩))⟩
  |10,hp =>
   obtain⟨h2,hc,hct,hhs⟩:=hp
   have hls:=hS rfl
   refine⟨10,rfl,Ga h h2,.inr (.inr (.inr ⟨rfl,?_,λ_=>?_,λhn=>absurd hls hn⟩))⟩
   .show 2<=L.M.claims t
    rw[<-hct,MZ h,hc];exact lJ _
   .rw[TL h (.inr hct),Hi h h2]
    exact⟨Qk h.give_ok h2,hhs⟩
theorem cu {L:Lf} (h:L.Ok) (h2:L.r.st=2) (r:Rdr) (hat:r.at'=5) (hb:r.blk=0) (ha:r.any=false):rdS (eL L) r=(eL (L.leave r.t),{r with v:=(AN (Lo.lfe L) r.k).1,f:=(AN (Lo.lfe L) r.k).2,at':=6,pin:=false},true):=by
 obtain⟨es,e,_,_⟩:=h.nd h2
 obtain⟨t,k,a,blk,par,pin,abv,m,any,v,f⟩:=r
 dsimp only at hat hb ha
 subst hat;subst hb;subst ha
 unfold rdS
 rw[lz (show ¬(5:Int)=1 by decide),lz (show ¬(5:Int)=2 by decide),lz (show ¬(5:Int)=3 by decide),lz (show ¬(5:Int)=4 by decide)]
 dsimp only
 have hnd:(eL L).nd ((0:Nat):Int)=L.r.nd:=Iu h h2
 rw[hnd]
 have hk:L.r.nd.kids[ET L.r.nd.piv k]?=none:=by rw[e];rfl
 rw[hk]
 have hfi:(eL L).fi ((0:Nat):Int)=0:=Hi h h2
 rw[hfi]
 have hlv:(eL L).leave 0 t ((0:Nat):Int)=eL (L.leave t):=Lg h h2 t
 rw[hlv]
 rfl
theorem D9 {L:Hm} {c:Cl} (hp:c.ph=.rd r) (hq:rdS L r=(L2,r2,false)):kE t sq L c=(L2,{c with ph:=.rd r2},false,[]):=by
 unfold kE;rw[hp];dsimp only;rw[hq,lz (show ¬(false=true) from pt)]
theorem M0 {L:Hm} {c:Cl} (hp:c.ph=.rd r) (hq:rdS L r=(L2,r2,true)):kE t sq L c=(L2,c.done,false,[evD t c ⟨0,r2.f,r2.v⟩]):=by
 unfold kE;rw[hp];dsimp only;rw[hq,lu rfl]
theorem DL {L:Hm} {c:Cl} (hp:c.ph=.wr v) (hq:wrS t L ((mOf c.op).num sq) v=(L2,v2,inn)) (h5:v2.a≠5):kE t sq L c=(L2,{c with ph:=.wr v2},false,[]):=by
 unfold kE;rw[hp];dsimp only;rw[hq,lz h5]
theorem Je {L:Hm} {c:Cl} (hp:c.ph=.wr v) (hq:wrS t L ((mOf c.op).num sq) v=(L2,v2,inn)) (h5:v2.a=5):kE t sq L c=(L2,c.done,inn,[evD t c ⟨v2.e,false,kv0 16⟩]):=by
 unfold kE;rw[hp];dsimp only;rw[hq,lu h5]
theorem gr (ht:tkB t) {L:Lf} (h:L.Ok) {c:Lo.Cl} (hp:Lo.preC t L c) (hm:c.ph≠.idle->L.mayH t=true) (hS:c.ph=.rm 10->L.s.left<2):kE t sq (eL L) (eC t c)=(eL (Lo.kE t L c).1,eC t (Lo.kE t L c).2.1,(Lo.kE t L c).2.2.1,(Lo.kE t L c).2.2.2):=by
 obtain⟨ops,nx,ph⟩:=c
 cases ph with
 |idle =>
  unfold Lo.kE kE
  dsimp only
  show (if BH (Lo.Cl.op ⟨ops,nx,.idle⟩)=true then _ else _)=_
  by_cases hT:BH (Lo.Cl.op ⟨ops,nx,.idle⟩)=true
  .rw[lu hT,lu hT];rfl
  .rw[lz hT,lz hT]
   by_cases h4:(Lo.Cl.op ⟨ops,nx,.idle⟩).kind=4
   .simp only[h4,mA]
    show (eL L,(⟨ops,nx,if (Lo.Cl.op ⟨ops,nx,.idle⟩).kind=4 then _ else _⟩:Cl),false,_)=_
    rw[lu h4];rfl
   .simp only[h4,nz]
    show (eL L,(⟨ops,nx,if (Lo.Cl.op ⟨ops,nx,.idle⟩).kind=4 then _ else _⟩:Cl),false,_)=_
    rw[lz h4];rfl
 |rd a =>
  have hl:=J2 hm (by simp)
  match a,hp with
  |1,_ =>
   have hq:rdS (eL L) ⟨t,kOf (Lo.Cl.op ⟨ops,nx,.rd 1⟩),1,0,0,false,false,ms0,false,kv0 16,false⟩=(eL (L.pin t).2,⟨t,kOf (Lo.Cl.op ⟨ops,nx,.rd 1⟩),((if (L.pin t).1=3 then 2 else 3:Nat):Int),0,0,true,false,ms0,false,kv0 16,false⟩,false):=by
    unfold rdS
    simp only[mA]
    rw[Yp h ht hl]
    refine Prod.ext I (Prod.ext ?_ I)
    show Rdr.pinned _ (L.pin t).1=_
    unfold Rdr.pinned Lf.pin
    split
    .rfl
    .split<;>rfl
   refine (D9 (c:=eC t ⟨ops,nx,.rd 1⟩) I hq).trans ?_
   show _=(eL (L.pin t).2,eC t ⟨ops,nx,.rd (if (L.pin t).1=3 then 2 else 3)⟩,false,[])
   by_cases h3:(L.pin t).1=3<;>simp only[h3,mA,nz]<;>rfl
  |2,hp =>
   refine D9 (c:=eC t ⟨ops,nx,.rd 2⟩) I (r2:=⟨t,kOf (Lo.Cl.op ⟨ops,nx,.rd 2⟩),3,0,0,true,false,ms0,false,kv0 16,false⟩) ?_
   show ((eL L).load 0 ndL,_,_)=_
   rw[TI h hp.2];rfl
  |3,hp =>
   refine D9 (c:=eC t ⟨ops,nx,.rd 3⟩) I (r2:=⟨t,kOf (Lo.Cl.op ⟨ops,nx,.rd 3⟩),5,0,0,true,false,ms0,false,kv0 16,false⟩) ?_
   show ((eL L).take ((eL L).fi 0) t false,_,_)=_
   rw[TJ h hp];rfl
  |5,hp=>exact M0 (c:=eC t ⟨ops,nx,.rd 5⟩) rfl (cu h hp.1 _ rfl rfl rfl)
 |wr a =>
  have hl:=J2 hm (by simp)
  match a,hp with
  |0,_ =>
   have hq:wrS t (eL L) ((mOf (Lo.Cl.op ⟨ops,nx,.wr 0⟩)).num sq) ⟨0,false,none,0⟩=(eL (L.pin t).2,⟨((if (L.pin t).1=3 then 1 else 2:Nat):Int),true,none,0⟩,false):=by
    unfold wrS
    simp only[mA]
    rw[Yp h ht hl]
    refine Prod.ext I (Prod.ext ?_ I)
    show (⟨(Ja (L.pin t).1).1,(Ja (L.pin t).1).2,none,0⟩:Wv)=_
    unfold Ja Lf.pin
    split
    .rfl
    .split<;>rfl
   refine (DL (c:=eC t ⟨ops,nx,.wr 0⟩) I hq (by dsimp only;split<;>decide)).trans ?_
   show _=(eL (L.pin t).2,eC t ⟨ops,nx,.wr (if (L.pin t).1=3 then 1 else 2)⟩,false,[])
   by_cases h3:(L.pin t).1=3<;>simp only[h3,mA,nz]<;>rfl
  |1,hp =>
   refine DL (inn:=false) (c:=eC t ⟨ops,nx,.wr 1⟩) I (v2:=⟨2,true,none,0⟩) ?_ (by decide)
   show ((eL L).load 0 ndL,_,_)=_
   rw[TI h hp.2];rfl
  |2,hp =>
   refine DL (inn:=false) (c:=eC t ⟨ops,nx,.wr 2⟩) I (v2:=⟨3,true,none,0⟩) ?_ (by decide)
   show ((eL L).take ((eL L).fi 0) t true,_,_)=_
   rw[TJ h hp];rfl
  |3,hp =>
   obtain⟨es,e,hr,hf⟩:=h.nd hp.1
   have hes:Lo.lfe L=es:=by unfold Lo.lfe;rw[e];rfl
   have hlf:((eL L).nd 0).leaf=true:=by rw[Iu h hp.1,e];rfl
   have hin:Dd ((eL L).nd 0) ((mOf (Lo.Cl.op ⟨ops,nx,.wr 3⟩)).num sq)=Lo.lfd (Bs (Lo.lfe L) (mOf (Lo.Cl.op ⟨ops,nx,.wr 3⟩))):=by rw[Iu h hp.1,hes,e];exact Qo _ _ _
   by_cases hft:Cv (Lo.lfd (Bs (Lo.lfe L) (mOf (Lo.Cl.op ⟨ops,nx,.wr 3⟩))))=true
   .have hlo:Lo.kE t L ⟨ops,nx,.wr 3⟩=((L.setN (Bs (Lo.lfe L) (mOf (Lo.Cl.op ⟨ops,nx,.wr 3⟩)))).leave t,Lo.Cl.done ⟨ops,nx,.wr 3⟩,true,[Lo.evD t ⟨ops,nx,.wr 3⟩ BC]):=by
     show (if Cv (Lo.lfd (Bs (Lo.lfe L) (mOf (Lo.Cl.op ⟨ops,nx,.wr 3⟩))))=true then _ else _)=_
     rw[lu hft]
    rw[hlo]
    have hok:(L.setN (Bs (Lo.lfe L) (mOf (Lo.Cl.op ⟨ops,nx,.wr 3⟩)))).Ok:=h.setN_ok hp.1 (by rw[hes];exact El hr (λx hx=>(DJ hf x hx).1) hp.2.2) hft
    refine Je (c:=eC t ⟨ops,nx,.wr 3⟩) I (v2:=⟨5,false,none,0⟩) ?_ I
    show (if ((eL L).nd 0).leaf=true then if Cv (Dd ((eL L).nd 0) ((mOf (Lo.Cl.op ⟨ops,nx,.wr 3⟩)).num sq))=true then (((eL L).setN 0 (Dd ((eL L).nd 0) ((mOf (Lo.Cl.op ⟨ops,nx,.wr 3⟩)).num sq))).leave ((eL L).fi 0) t 0,(⟨5,false,none,0⟩:Wv),true) else _ else _)=_
    rw[lu hlf,hin,lu hft,cr h hp.1,Hi h hp.1,Lg hok hp.1]
   .have hlo:Lo.kE t L ⟨ops,nx,.wr 3⟩=(L,⟨ops,nx,.rm 1⟩,false,[]):=by
     show (if Cv (Lo.lfd (Bs (Lo.lfe L) (mOf (Lo.Cl.op ⟨ops,nx,.wr 3⟩))))=true then _ else _)=_
     rw[lz hft]
    rw[hlo]
    refine DL (inn:=false) (c:=eC t ⟨ops,nx,.wr 3⟩) I (v2:=⟨4,true,some (1,true,0),0⟩) ?_ (by decide)
    show (if ((eL L).nd 0).leaf=true then if Cv (Dd ((eL L).nd 0) ((mOf (Lo.Cl.op ⟨ops,nx,.wr 3⟩)).num sq))=true then _ else (eL L,(⟨4,true,some (1,true,0),0⟩:Wv),false) else _)=_
    rw[lu hlf,hin,lz hft]
 |rm a =>
  have hl:=J2 hm (by simp)
  match a,hp with
  |1,hp=>exact DL (inn:=false) (c:=eC t ⟨ops,nx,.rm 1⟩) rfl (v2:=⟨4,true,some (6,true,0),0⟩) rfl (by decide)
  |6,hp =>
   refine DL (inn:=false) (c:=eC t ⟨ops,nx,.rm 6⟩) I (v2:=⟨4,true,some (7,true,0),0⟩) ?_ (by decide)
   show (((eL L).claim t).2,_,_)=_
   rw[Iv h ht hl (by rw[hp.1];decide) hp.2.1];rfl
  |7,hp =>
   refine DL (inn:=false) (c:=eC t ⟨ops,nx,.rm 7⟩) I (v2:=⟨4,true,some (10,true,0),0⟩) ?_ (by decide)
   show (((eL L).claim t).2,_,_)=_
   rw[Iv h ht hl (by rw[hp.1];decide) hp.2.1];rfl
  |10,hp =>
   obtain⟨h2,hc,hct,hhs⟩:=hp
   have hls:=hS rfl
   refine Je (c:=eC t ⟨ops,nx,.rm 10⟩) I (v2:=⟨5,false,none,3⟩) ?_ I
   show (if L.s.left<2 then (((eL L).give t).leave ((eL L).fi 0) t 0,(⟨5,false,none,3⟩:Wv),false) else _)=_
   rw[lu hls,TL h (.inr hct),Hi h h2,Lg h.give_ok h2];rfl
def eM (m:Lo.HM):HM:=⟨eL m.L,m.cs.mapIdx (λi c=>eC (i:Int) c),m.nf,m.sq,m.pk,m.ev,m.T⟩
theorem Fx (m:Lo.HM) (i:Nat):(eM m).cs[i]?=(m.cs[i]?).map (λc=>eC (i:Int) c):=pB
theorem R0 (m:Lo.HM):(eM m).cs.length=m.cs.length:=List.length_mapIdx
theorem R1 {β:Type} (f:Nat->α->β) (l:List α) (i:Nat) (c:α):(l.mapIdx f).set i (f i c)=(l.set i c).mapIdx f:=lY (λj=>by
 rw[pB,oC,oC,pB,List.length_mapIdx]
 by_cases e:i=j
 .subst e
  rw[lu rfl,lu rfl]
  split<;>rfl
 .rw[lz e,lz e])
theorem Ol (t:Int) (c:Lo.Cl):(eC t c).ph.isI=decide (c.ph=.idle):=by
 unfold eC ePh
 cases c.ph<;>rfl
theorem Lh (t:Int) (c:Lo.Cl):(eC t c).ended=c.ended:=by
 unfold Cl.ended Lo.Cl.ended
 rw[Ol];rfl
theorem R2 (t:Int) (L:Lf) (c:Lo.Cl):mayC t (eL L) (eC t c)=Lo.mayC t L c:=by
 obtain⟨ops,nx,ph⟩:=c
 cases ph with
 |idle=>rfl
 |rd a=>exact Oj L t
 |wr a=>exact Oj L t
 |rm a=>exact Oj L t
theorem Iw {L:Lf} (h:L.Ok):(eL L).look.leaf=true/\(eL L).look.Sm 1000/\(L.r.st=2->(eL L).look.es=Lo.lfe L)/\(L.r.st≠2->(eL L).look.es=[]):=by
 by_cases h2:L.r.st=2
 .obtain⟨es,e,hr,hf⟩:=h.nd h2
  have hl:(eL L).look=Lo.lfd es:=by
   unfold Hm.look;rw[Qk h h2];exact e
  rw[hl]
  exact⟨rfl,Oe hf,λ_=>by unfold Lo.lfe;rw[e],λhn=>absurd h2 hn⟩
 .have hf:(eL L).M.frI 0 2=none:=by
   show L.M.frI 0 2=_
   rw[h.frI1 2 (by decide),lz h2]
  have hl:(eL L).look=ndL:=by unfold Hm.look;rw[hf]
  rw[hl]
  exact⟨rfl,Kw _,λhn=>absurd hn h2,λ_=>rfl⟩
theorem J3 {L:Lf} (h:L.Ok):DK (eL L):=by
 obtain⟨h1,h2,_,_⟩:=Iw h
 exact⟨rfl,h2.mono (by decide),h.s0,λ_=>h.b0⟩
theorem TN {L:Lf} (h:L.Ok):DF (eL L).look=false:=by unfold DF;rw[(Iw h).1];rfl
theorem gu (m:Lo.HM) (h:m.L.Ok) (i:Nat):mayI (eM m) i=Lo.mayI m i:=by
 unfold mayI Lo.mayI
 rw[Fx]
 cases m.cs[i]? with
 |none=>show (_&&DF (eL m.L).look)=false;rw[TN h,oP]
 |some c=>exact R2 _ _ _
theorem ek (m:Lo.HM) (h:m.L.Ok) (i:Nat):stI (eM m) i=Lo.stI m i:=by
 unfold stI Lo.stI
 rw[gu m h,Fx]
 cases m.cs[i]? with
 |none=>rfl
 |some c =>
  show (if _ then _ else if (eC (i:Int) c).ended=true then _ else _)=_
  rw[Lh]
theorem Om (m:Lo.HM) (h:m.L.Ok):∀(k:Nat) (T:Sc.Tab),kC (eM m) k T=Lo.kC m k T
 |0,T=>rfl
 |k+1,T=>by
  show Sc.kJ (kC (eM m) k T) _ _=Sc.kJ (Lo.kC m k T) _ _
  rw[Om m h k T,ek m h]
theorem Vt {m:Lo.HM} {t:Nat} {c:Lo.Cl} (hc:m.cs[t]?=some c) (ht:tkB (t:Int)) (h:m.L.Ok) (hp:Lo.preC (t:Int) m.L c) (hm:c.ph≠.idle->m.L.mayH (t:Int)=true) (hS:c.ph=.rm 10->m.L.s.left<2):(eM m).client t=eM (m.client t):=by
 have h1:(eM m).cs[t]?=some (eC (t:Int) c):=by rw[Fx,hc];rfl
 have hs:=gr (sq:=m.sq) ht h hp hm hS
 unfold HM.client Lo.HM.client
 rw[h1,hc]
 dsimp only
 show (⟨(kE (t:Int) m.sq (eL m.L) (eC (t:Int) c)).1,(m.cs.mapIdx (λi c=>eC (i:Int) c)).set t (kE (t:Int) m.sq (eL m.L) (eC (t:Int) c)).2.1,m.nf,Jb (kE (t:Int) m.sq (eL m.L) (eC (t:Int) c)).2.2.1 m.sq,m.pk,m.ev++(kE (t:Int) m.sq (eL m.L) (eC (t:Int) c)).2.2.2,m.T⟩:HM)=_
 rw[hs]
 unfold eM
 dsimp only
 rw[<-R1 (λi c=>eC (i:Int) c)]
theorem R3 {m:Lo.HM} (h:Lo.Inv m) {t:Nat} {c:Lo.Cl} (hc:m.cs[t]?=some c):tkB (t:Int)=true:=by
 have h1:=(lR.1 hc).1
 have h2:=h.n8
 unfold tkB
 rw[od (show (0:Int)<=(t:Int) by omega),od (show (t:Int)<8 by omega)];rfl
theorem Yq {m:Lo.HM} (h:Lo.Inv m) (hg:∀(t:Nat) (c:Lo.Cl),m.cs[t]?=some c->c.ph=.rm 10->m.L.mayH (t:Int)=true->¬m.L.s.left<2->preC (t:Int) m.sq (eL m.L) (eC (t:Int) c)):(eM m).Pre:=λt ht=>by
 obtain⟨c,hc,hp,hm⟩:=h.run ht
 refine⟨eC (t:Int) c,by rw[Fx,hc];rfl,?_,λhi=>?_⟩
 .by_cases e:c.ph=.rm 10/\¬m.L.s.left<2
  .exact hg t c hc e.1 (hm (by rw[e.1];simp)) e.2
  .exact ju (R3 h hc) h.lok hp hm (λe1=>pA (λe2=>e ⟨e1,e2⟩))
 .have hn:c.ph≠.idle:=λe=>by rw[Ol,od e] at hi;cases hi
  show (eL m.L).may (t:Int)=true
  rw[Oj];exact hm hn
theorem TO {m:Lo.HM} (h:Lo.Inv m) (p:Int) (h':(Lo.kF m p).L.Ok) (hS:∀c,m.cs[Sc.whoM m.T p]?=some c->c.ph=.rm 10->m.L.s.left<2):kF (eM m) p=eM (Lo.kF m p):=by
 unfold kF
 unfold Lo.kF at h' ⊢
 show (if Sc.kG m.T=[] then eM m else _)=_
 by_cases hr:Sc.kG m.T=[]
 .rw[lu hr,lu hr]
 .rw[lz hr] at h' ⊢
  rw[lz hr]
  obtain⟨c,hc,hp,hm⟩:=h.run (Sc.who_mem p hr)
  have hcl:({eM m with T:=Sc.kD m.T p,pk:=m.pk+1}:HM).client (Sc.whoM m.T p)=eM (({m with T:=Sc.kD m.T p,pk:=m.pk+1}:Lo.HM).client (Sc.whoM m.T p)) :=
   Vt (m:={m with T:=Sc.kD m.T p,pk:=m.pk+1}) hc (R3 h hc) h.lok hp hm (hS c hc)
  show HM.setT (({eM m with T:=Sc.kD m.T p,pk:=m.pk+1}:HM).client (Sc.whoM m.T p)) (kC (({eM m with T:=Sc.kD m.T p,pk:=m.pk+1}:HM).client (Sc.whoM m.T p)) m.T.n (Sc.kD m.T p))=_
  rw[hcl,Om (({m with T:=Sc.kD m.T p,pk:=m.pk+1}:Lo.HM).client (Sc.whoM m.T p)) h'];rfl
def Yr (nb nf:Nat):Lf:=⟨nf,st1 nb,BL,[],0,0,Lt.newL,none⟩
theorem cw (h:1<=nf):eL (Yr nb nf)=Od nb nf:=by
 obtain⟨k,rfl⟩:∃k,nf=k+1:=⟨nf-1,by omega⟩
 unfold eL Od Lf.M Lf.las Lf.rds Lf.rest Yr mo0
 simp[lC]
namespace Lo
def ndF (L:Lf):Nd:=if L.r.st=2 then L.r.nd else ndL
def mapL (L:Lf):List En:=(ndF L).es
def cl0 (l:List Opn):Cl:=⟨l,0,.idle⟩
def hm0 (nb nf fl:Nat) (ls:List (List Opn)):HM:=⟨Yr nb nf,ls.map cl0,fl,1,0,[],Sc.newM (ls.length+(fl+1))⟩
def hmS (nb nf fl:Nat) (ls:List (List Opn)):HM:=(hm0 nb nf fl ls).setT (kC (hm0 nb nf fl ls) (ls.length+(fl+1)) (Sc.newM (ls.length+(fl+1))))
theorem lf00_ok (h1:1<=nb) (h5:5<=nf):(Yr nb nf).Ok:=by
 refine⟨h5,lK _,?_,⟨bkL,?_,rfl⟩,.inl rfl,λh=>by cases h⟩
 .show ((List.replicate nb false).set 0 true)[0]?=some true
  rw[oU (by rw[oy];omega)]
 .show (((List.replicate nb Bk.zero).set 0 Bk.zero).set 0 bkL)[0]?=some bkL
  rw[oU (by rw[nU,oy];omega)]
theorem hmS_inv (h1:1<=nb) (h5:5<=nf) (h8:ls.length+(fl+1)<=8) (hok:∀l∈ls,∀o∈l,o.key.size<=9223372036854775807/\(o.kind=1\/o.kind=2\/o.kind=3\/o.kind=4)):Inv (hmS nb nf fl ls):=by
 have hcs:∀(t:Nat) (c:Cl),(ls.map cl0)[t]?=some c->∃l∈ls,c=cl0 l:=λt c hc=>by
  rw[lS] at hc
  cases hx:ls[t]? with
  |none=>rw[hx] at hc;cases hc
  |some l=>rw[hx] at hc;cases hc;exact⟨l,mQ hx,rfl⟩
 have hnl:(Sc.newM (ls.length+(fl+1))).st.length=(Sc.newM (ls.length+(fl+1))).n:=oy ..
 refine⟨⟨λc hc=>?_,lf00_ok h1 h5,⟨0,Lt.new_ok⟩,λw q h=>(by cases h),?_,λt c hc=>?_,λ_=>rfl,λu hu=>(by cases hu),λhs=>(by cases hs),λu hu=>(by cases hu),λ_=>rfl⟩,?_,?_,λi hi=>?_⟩
 .obtain⟨l,hl,rfl⟩:=lP.1 hc
  exact⟨λo ho=>hok l hl o ho,lK _,λh=>absurd I h⟩
 .show (ls.map cl0).length<=8;rw[mB];omega
 .obtain⟨l,_,rfl⟩:=hcs t c hc
  trivial
 .show (kC _ _ _).n=(ls.map cl0).length+_;rw[tellT_n,mB];rfl
 .show (kC _ _ _).st.length=(kC _ _ _).n
  rw[tellT_n];exact (tellT_st (hm0 nb nf fl ls) 0 _ _ (lJ _) hnl).1
 .have hi2:i<ls.length+(fl+1):=by
   have:i<(kC (hm0 nb nf fl ls) (ls.length+(fl+1)) (Sc.newM (ls.length+(fl+1)))).n:=hi
   rw[tellT_n] at this;exact this
  show (kC _ _ _).st.getD i 0=stI (hm0 nb nf fl ls) i
  rw[(tellT_st (hm0 nb nf fl ls) i (ls.length+(fl+1)) (Sc.newM (ls.length+(fl+1))) (lJ _) hnl).2,lu hi2]
  rw[lz]
  show ¬(List.replicate _ (0:Int)).getD i 0=2
  rw[om,mO]
  split<;>decide
theorem mu_le:∀{ls:List (List Opn)},(∀l∈ls,l.length<=24)->((ls.map cl0).map muC).sum<=216*ls.length
 |[],_=>by simp
 |l::ls,h=>by
  have ih:=mu_le (ls:=ls) (λx hx=>h x (nG _ hx))
  have h1:=h l (ns ..)
  have e:muC (cl0 l)=9*l.length:=by unfold muC cl0;simp
  simp only[ma,pC,kQ,e]
  omega
theorem mapL_at {L:Lf} (h:L.r.st=2):mapL L=lfe L:=by unfold mapL ndF lfe;rw[lu h]
theorem mapL_no {L:Lf} (h:L.r.st≠2):mapL L=[]:=by unfold mapL ndF;rw[lz h];rfl
theorem Vu (L:Lf):mapL L.unpin=mapL L:=by unfold Lf.unpin;split<;>rfl
theorem Jf (L:Lf) (t:Int):mapL (L.leave t)=mapL L:=(Vu _).trans rfl
theorem Qp {L:Lf} {c:Cl} (hL:L.Ok) (hp:preC t L c):(c.ph=.wr 3/\L.r.st=2/\Cv (lfd (Bs (lfe L) (mOf c.op)))=true/\mapL (kE t L c).1=Bs (mapL L) (mOf c.op)/\(kE t L c).2.2=(true,[evD t c BC])/\(kE t L c).2.1=c.done)\/(mapL (kE t L c).1=mapL L/\(c.ph=.wr 3->L.r.st=2/\Cv (lfd (Bs (lfe L) (mOf c.op)))=false)):=by
 obtain⟨ops,nx,ph⟩:=c
 have aN:mapL (L.pin t).2=mapL L:=by
  unfold Lf.pin
  split
  .rename_i h0
   have e1:=mapL_no (L:=L) (by rw[h0];decide)
   rw[e1]
   exact mapL_no (by show (1:Int)≠2;decide)
  .split
   .rfl
   .rfl
 cases ph with
 |idle =>
  refine .inr ⟨?_,λh=>by cases h⟩
  unfold kE;dsimp only;split<;>rfl
 |rd a =>
  match a,hp with
  |1,_=>exact .inr ⟨aN,λh=>by cases h⟩
  |2,hp=>exact .inr ⟨by show mapL L.fill=_;rw[mapL_no (L:=L) (by rw[hp.2];decide)];rfl,λh=>by cases h⟩
  |3,_=>exact .inr ⟨rfl,λh=>by cases h⟩
  |5,_=>exact .inr ⟨Jf _ _,λh=>by cases h⟩
 |wr a =>
  match a,hp with
  |0,_=>exact .inr ⟨aN,λh=>by cases h⟩
  |1,hp=>exact .inr ⟨by show mapL L.fill=_;rw[mapL_no (L:=L) (by rw[hp.2];decide)];rfl,λh=>by cases h⟩
  |2,_=>exact .inr ⟨rfl,λh=>by cases h⟩
  |3,hp =>
   by_cases hf:Cv (lfd (Bs (lfe L) (mOf (Cl.op ⟨ops,nx,.wr 3⟩))))=true
   .have e:kE t L ⟨ops,nx,.wr 3⟩=((L.setN (Bs (lfe L) (mOf (Cl.op ⟨ops,nx,.wr 3⟩)))).leave t,Cl.done ⟨ops,nx,.wr 3⟩,true,[evD t ⟨ops,nx,.wr 3⟩ BC]):=by
     show (if Cv (lfd (Bs (lfe L) (mOf (Cl.op ⟨ops,nx,.wr 3⟩))))=true then _ else _)=_
     rw[lu hf]
    rw[e]
    refine .inl ⟨rfl,hp.1,hf,?_,rfl,rfl⟩
    show mapL ((L.setN _).leave t)=_
    rw[Jf,mapL_at hp.1,mapL_at (show (L.setN (Bs (lfe L) (mOf (Cl.op ⟨ops,nx,.wr 3⟩)))).r.st=2 from hp.1)]
    rfl
   .have e:kE t L ⟨ops,nx,.wr 3⟩=(L,⟨ops,nx,.rm 1⟩,false,[]):=by
     show (if Cv (lfd (Bs (lfe L) (mOf (Cl.op ⟨ops,nx,.wr 3⟩))))=true then _ else _)=_
     rw[lz hf]
    rw[e]
    exact .inr ⟨rfl,λ_=>⟨hp.1,m9.2 hf⟩⟩
 |rm a =>
  match a,hp with
  |1,_=>exact .inr ⟨rfl,λh=>by cases h⟩
  |6,_=>exact .inr ⟨rfl,λh=>by cases h⟩
  |7,_=>exact .inr ⟨rfl,λh=>by cases h⟩
  |10,_=>exact .inr ⟨Jf _ _,λh=>by cases h⟩
theorem client_L {m:HM} {t:Nat} {c:Cl} (hc:m.cs[t]?=some c):(m.client t).L=(kE (t:Int) m.L c).1:=by unfold HM.client;rw[hc]
theorem client_ev {m:HM} {t:Nat} {c:Cl} (hc:m.cs[t]?=some c):(m.client t).ev=m.ev++(kE (t:Int) m.L c).2.2.2:=by unfold HM.client;rw[hc]
def cnt (m:HM):Nat:=(m.cs.map (·.nx)).sum
def tot (m:HM):Nat:=(m.cs.map (·.ops.length)).sum
theorem TP:∀{l:List Cl} {t:Nat} {c c':Cl},l[t]?=some c->((l.set t c').map (·.nx)).sum+c.nx=(l.map (·.nx)).sum+c'.nx
 |[],t,c,c',h=>by simp at h
 |x::l,0,c,c',h=>by simp at h;subst h;simp;omega
 |x::l,t+1,c,c',h=>by
  have:=TP (l:=l) (t:=t) (c:=c) (c':=c') (by simpa using h)
  simp only[nO,ma,pC];omega
theorem TQ:∀{l:List Cl} {t:Nat} {c c':Cl},l[t]?=some c->c'.ops=c.ops->((l.set t c').map (·.ops.length)).sum=(l.map (·.ops.length)).sum
 |[],t,c,c',h,_=>by simp at h
 |x::l,0,c,c',h,e=>by simp at h;subst h;simp[e]
 |x::l,t+1,c,c',h,e=>by
  have:=TQ (l:=l) (t:=t) (c:=c) (c':=c') (by simpa using h) e
  simpa using this
theorem Ys:∀{l:List Cl},(∀c∈l,c.nx<=c.ops.length)->(l.map (·.nx)).sum<=(l.map (·.ops.length)).sum
 |[],_=>by simp
 |x::l,h=>by
  have:=Ys (l:=l) (λc hc=>h c (nG _ hc))
  have:=h x (ns ..)
  simp;omega
theorem Yt:∀{l:List Cl} {t:Nat} {c:Cl},l[t]?=some c->c.nx<c.ops.length->(∀c∈l,c.nx<=c.ops.length)->(l.map (·.nx)).sum+1<=(l.map (·.ops.length)).sum
 |[],t,c,h,_,_=>by simp at h
 |x::l,0,c,h,hn,hl=>by
  simp at h;subst h
  have:=Ys (l:=l) (λc hc=>hl c (nG _ hc))
  simp;omega
 |x::l,t+1,c,h,hn,hl=>by
  have:=Yt (l:=l) (t:=t) (c:=c) (by simpa using h) hn (λc hc=>hl c (nG _ hc))
  have:=hl x (ns ..)
  simp;omega
theorem M1 (t:Int) (L:Lf) (c:Cl):c.nx<=(kE t L c).2.1.nx:=by
 unfold kE
 split<;>(try split)<;>first|exact lJ _|exact oS _
theorem lput_len (l:List En) (m:Ms):(Bs l m).length<=l.length+1:=by
 unfold Bs
 have hn:(CY l m).length<=1:=by unfold CY;split<;>simp
 rw[lp,lp,k9,lk]
 omega
theorem cx {L:Lf} {c:Cl} (hL:L.Ok) (hp:preC t L c):(mapL (kE t L c).1).length+c.nx<=(mapL L).length+(kE t L c).2.1.nx:=by
 have h0:=M1 t L c
 rcases Qp hL hp with⟨_,_,_,h4,_,h6⟩|⟨h1,_⟩
 .rw[h4,h6]
  have:=lput_len (mapL L) (mOf c.op)
  show _+c.nx<=_+(c.nx+1)
  omega
 .rw[h1];omega
def Few (m:HM):Prop:=(mapL m.L).length<=cnt m
theorem Few.step {m:HM} (h:Few m) (hi:Inv m) (p:Int):Few (kF m p)/\cnt m<=cnt (kF m p)/\tot (kF m p)=tot m:=by
 rcases stepH_cases hi p with⟨e,_⟩|⟨t,c,hc,_,hp,e⟩
 .rw[e];exact⟨h,lJ _,rfl⟩
 .rw[e]
  have h1:=cx hi.lok hp
  have h2:=TP (c':=(kE (t:Int) m.L c).2.1) hc
  have h3:=M1 (t:Int) m.L c
  have e1:cnt {m.client t with T:=kC (m.client t) m.T.n (Sc.kD m.T p),pk:=m.pk+1}=((m.cs.set t (kE (t:Int) m.L c).2.1).map (·.nx)).sum:=by
   show ((m.client t).cs.map (·.nx)).sum=_
   rw[client_cs hc]
  have e2:tot {m.client t with T:=kC (m.client t) m.T.n (Sc.kD m.T p),pk:=m.pk+1}=tot m:=by
   show ((m.client t).cs.map (·.ops.length)).sum=_
   rw[client_cs hc]
   exact TQ hc (stepC_ops _ _ _)
  have e3:cnt m=(m.cs.map (·.nx)).sum:=rfl
  refine⟨?_,by rw[e1,e3];omega,e2⟩
  show (mapL (m.client t).L).length<=_
  rw[e1,client_L hc]
  have h4:(mapL m.L).length<=cnt m:=h
  omega
end Lo
theorem Qq (h:e∈Bs l m):e∈l\/e∈CY l m:=by
 unfold Bs at h
 rcases mT.1 h with h|h
 .rcases mT.1 h with h|h
  .exact .inl (kZ h)
  .exact .inr h
 .exact .inl (List.mem_of_mem_drop h)
theorem Qr (o:Opn):vck (vOf o)=true:=by
 unfold vOf
 split
 .rename_i h
  have hl:=ES o.val
  have ht:(pad (byt o.val) 16).take o.val.size=byt o.val:=by
   unfold pad
   rw[nX (by omega),lI (by omega)]
  unfold vck C2
  refine od ⟨by show (0:Int)<=(o.val.size:Int);omega,by show (o.val.size:Int)<=16;omega,?_⟩
  show pad ((pad (byt o.val) 16).take ((o.val.size:Int)).toNat) 16=pad (byt o.val) 16
  rw[mV,ht]
 .decide
theorem J4 (h:e∈CY l (mOf o)):kck e.key=true/\vck e.val=true:=by
 unfold CY at h
 split at h
 .rename_i h2
  simp only[nq] at h
  subst h
  refine⟨EU o,?_⟩
  unfold Cp at h2 ⊢
  by_cases h1:(mOf o).kind=1
  .rw[lu h1]
   show vck (if o.kind=1 then vOf o else kv0 16)=true
   split
   .exact Qr o
   .decide
  .rw[lz h1] at h2 ⊢
   by_cases h3:(mOf o).kind=3
   .rw[lu h3];exact Jv _
   .rw[lz h3] at h2;cases h2
 .cases h
theorem cy (h:BG l) {i j:Nat} {a b:En} (hij:i<j) (ha:l[i]?=some a) (hb:l[j]?=some b):Bq a.key b.key<0:=by
 obtain⟨h1,rfl⟩:=lR.1 ha
 obtain⟨h2,rfl⟩:=lR.1 hb
 exact o5.1 h i j h1 h2 hij
theorem Yu (hr:BG l) (hk:∀e∈l,kck e.key=true/\vck e.val=true):lck l=true:=by
 unfold lck
 rw[np]
 intro i hi
 have hi:=lQ.1 hi
 obtain⟨e,he⟩:∃e,l[i]?=some e:=⟨_,kY hi⟩
 have h1:=hk e (mQ he)
 unfold E9
 rw[he]
 dsimp only
 rw[h1.1,h1.2,o9,o9]
 cases i with
 |zero=>rfl
 |succ j =>
  obtain⟨d,hd⟩:=gE l j
  simp only[Nat.add_sub_cancel,hd]
  exact od (cy hr (Nat.lt_succ_self j) hd he)
theorem Yv:∀{l:List En},(∀e∈l,kck e.key=true/\vck e.val=true)->lby l<=26*(l.length:Int)
 |[],_=>by simp[lby]
 |e::l,h=>by
  have ih:=Yv (l:=l) (λx hx=>h x (nG _ hx))
  have h1:=h e (ns ..)
  have h2:=IX h1.1
  have h3:=IY h1.2
  unfold lby lsz at *
  simp only[ma,pC,kQ]
  omega
theorem cz (hr:BG l) (hk:∀e∈l,kck e.key=true/\vck e.val=true) (h9:l.length<=9):Cv (Lo.lfd l)=true:=by
 unfold Cv
 have e1:lck (Lo.lfd l).es=true:=Yu hr hk
 have e2:lby (Lo.lfd l).es<=248:=by
  have:=Yv hk
  show lby l<=248
  omega
 rw[e1,od e2];rfl
theorem cC (h:Cv (Lo.lfd l)) (hr:BG l) (h8:l.length<=8) (o:Opn):Cv (Lo.lfd (Bs l (mOf o)))=true :=
 cz (El hr (λx hx=>(DJ h x hx).1) (EU o)) (λe he=>by
  rcases Qq he with h1|h1
  .exact DJ h e h1
  .exact J4 h1) (by have:=Lo.lput_len l (mOf o);omega)
namespace Lo
theorem Vv {L:Lf} (hL:L.Ok) (c:Cl):Yn L c:=λ_ h2=>by
 obtain⟨es,e,hr,hf⟩:=hL.nd h2
 have hes:lfe L=es:=by unfold lfe;rw[e];rfl
 rw[hes,e]
 rcases k6 es.length 9 with h|h
 .exact .inl (cC hf hr (by omega) c.op)
 .exact .inr h
theorem Inv.go {m:HM} (h:Inv m) (p:Int):Inv (kF m p)/\mu (kF m p)<=mu m/\(m.cs.all Cl.ended=false->mu (kF m p)<mu m)/\(kF m p).pk<=m.pk+1:=h.step p (λc _=>Vv h.lok c)
theorem Inv0.full {m:HM} (h:Inv0 m) {t:Nat} {c:Cl} (hc:m.cs[t]?=some c) {a:Nat} (ha:c.ph=.rm a):9<=(mapL m.L).length/\m.L.r.st=2/\m.L.la.wr=(t:Int):=by
 have hv:=h.ci t c hc
 unfold CI at hv;rw[ha] at hv
 have k:m.L.r.st=2/\m.L.la.wr=(t:Int)/\9<=m.L.r.nd.es.length:=by
  split at hv<;>first|exact⟨hv.1,hv.2.1,hv.2.2.1⟩|(exact hv.elim)|simp_all
 exact⟨by rw[mapL_at k.1];exact k.2.2,k.1,k.2.1⟩
theorem Few.norm {m:HM} (h:Few m) (hi:Inv m) (ht:tot m<=9) {t:Nat} {c:Cl} (hc:m.cs[t]?=some c) (a:Nat):c.ph≠.rm a:=λe=>by
 have h1:=(hi.toInv0.full hc e).1
 have h2:(mapL m.L).length<=cnt m:=h
 have h3:=Yt hc ((hi.ops c (mQ hc)).2.2 (by rw[e];simp)) (λc hc=>(hi.ops c hc).2.1)
 have h4:(m.cs.map (·.ops.length)).sum<=9:=ht
 have h5:cnt m=(m.cs.map (·.nx)).sum:=rfl
 omega
theorem Few.run {m:HM} (h:Few m) (hi:Inv m) (ht:tot m<=9) (p:Int):Few (kF m p)/\Inv (kF m p)/\tot (kF m p)<=9/\mu (kF m p)<=mu m/\(m.cs.all Cl.ended=false->mu (kF m p)<mu m):=by
 obtain⟨h1,_,h3⟩:=h.step hi p
 obtain⟨a,b,c,_⟩:=hi.go p
 exact⟨h1,a,by rw[h3];exact ht,b,c⟩
theorem hmS_few (nb nf fl:Nat) (ls:List (List Opn)):Few (hmS nb nf fl ls):=lK _
end Lo
theorem Yw (h1:1<=nb) (h5:5<=nf):eM (Lo.hmS nb nf fl ls)=hmS nb nf fl ls:=by
 have h:=mf (show 1<=5 by decide) h5
 have hcs:(ls.map Lo.cl0).mapIdx (λi c=>eC (i:Int) c)=ls.map cl0:=by
  apply lY
  intro i
  rw[pB,lS,lS]
  cases ls[i]?<;>rfl
 have h0:eM (Lo.hm0 nb nf fl ls)=hm0 nb nf fl ls:=by
  show (⟨eL (Yr nb nf),(ls.map Lo.cl0).mapIdx (λi c=>eC (i:Int) c),fl,1,0,[],Sc.newM (ls.length+(fl+1))⟩:HM)=_
  rw[cw h,hcs];rfl
 have h1:=Om (Lo.hm0 nb nf fl ls) (Lo.lf00_ok h1 h5) (ls.length+(fl+1)) (Sc.newM (ls.length+(fl+1)))
 unfold hmS Lo.hmS
 rw[<-h0,h1];rfl
def oA:Opn:=⟨1,⟨#[97]⟩,⟨#[49]⟩,0,by decide,by decide⟩
def oB:Opn:=⟨3,⟨#[97]⟩,⟨#[]⟩,1,by decide,by decide⟩
def awL:List (List Opn):=[[oA],[oB]]
def aw0:Lo.HM:=Lo.hmS 4 9 0 awL
def Cx:Nat->Lo.HM->Lo.HM
 |0,m=>m
 |k+1,m=>Lo.kF (Cx k m) (k:Int)
theorem j8:(Cx 60 aw0).cs.all Lo.Cl.ended=true/\(Cx 60 aw0).ev.length=4/\(Cx 60 aw0).sq=3/\(Lo.mapL (Cx 60 aw0).L).length=1:=by decide +kernel
theorem j9:((Cx 60 aw0).L.r.st=0\/(Cx 60 aw0).L.r.st=2)/\(Cx 60 aw0).L.r.pins=0/\(Cx 60 aw0).L.cl=0/\Lt.idleB (Cx 60 aw0).L.la=true:=by decide +kernel
theorem ke:((Lo.mapL (Cx 60 aw0).L).map (λe=>e.val.n)).all (λn=>decide (0<n))=true:=by decide +kernel
theorem kg {w:World} {v:Value} {s0 s1:Sv} {l0 l1:List Opn} (h:RdV w v C6 [s0,s1]) (h0:RdV w s0.v Opn.enc l0) (h1:RdV w s1.v Opn.enc l1):RRo w v [s0,s1] [l0,l1]:=⟨h,rfl,λi s l e1 e2=>by
 match i with
 |0=>cases e1;cases e2;exact h0
 |1=>cases e1;cases e2;exact h1
 |i+2=>simp at e1⟩
theorem kh (e:En):e.c[9]?=some (.int .i64 e.val.n):=by
 unfold En.c
 rw[lx (by rw[Kv.ko];decide),Kv.ko];rfl
theorem Yx:∀l∈awL,∀o∈l,o.key.size<=9223372036854775807/\(o.kind=1\/o.kind=2\/o.kind=3\/o.kind=4):=λl hl o ho=>by
 simp[awL] at hl
 rcases hl with rfl|rfl
 .simp at ho;subst ho;exact⟨by decide,.inl rfl⟩
 .simp at ho;subst ho;exact⟨by decide,.inr (.inr (.inl rfl))⟩
theorem cD {m:Lo.HM} (h:Lo.Inv m) (p:Int):(Lo.kF m p).pk<=m.pk+1:=by
 rcases Lo.stepH_cases h p with⟨e,_⟩|⟨t,c,hc,_,_,e⟩
 .rw[e];exact oS _
 .rw[e];exact lJ _
theorem HX:∀i:Nat,Lo.Inv (Cx i aw0)/\Lo.Few (Cx i aw0)/\Lo.tot (Cx i aw0)<=9/\(Cx i aw0).pk<=i
 |0=>⟨Lo.hmS_inv (by decide) (by decide) (by decide) Yx,Lo.hmS_few _ _ _ _,by decide,lJ 0⟩
 |i+1=>by
  obtain⟨h1,h2,h3,h4⟩:=HX i
  obtain⟨a,b,c,_,_⟩:=h2.run h1 h3 (i:Int)
  exact⟨b,a,c,by have:=cD h1 (i:Int);show (Lo.kF _ _).pk<=_;omega⟩
theorem Qs (m:Lo.HM):(eM m).cs.all Cl.ended=m.cs.all Lo.Cl.ended:=by
 rw[mR,np,np]
 constructor
 .intro h c hc
  obtain⟨i,hi⟩:=oJ.1 hc
  have:=h (eC (i:Int) c) (mQ (by rw[Fx,hi];rfl))
  rwa[Lh] at this
 .intro h c hc
  obtain⟨i,hi⟩:=oJ.1 hc
  rw[Fx] at hi
  cases hx:m.cs[i]? with
  |none=>rw[hx] at hi;cases hi
  |some d=>rw[hx] at hi;cases hi;rw[Lh];exact h d (mQ hx)
theorem Qu {L:Lo.Lf} (h:L.Ok):(eL L).look.es=Lo.mapL L:=by
 obtain⟨_,_,h3,h4⟩:=Iw h
 by_cases h2:L.r.st=2
 .rw[h3 h2,Lo.mapL_at h2]
 .rw[h4 h2,Lo.mapL_no h2]
theorem gv {L:Lo.Lf} (h1:L.r.st=0\/L.r.st=2) (h2:L.r.pins=0) (h3:L.cl=0) (hI:Lt.idleB L.la):Yg (eL L):=by
 refine⟨λv hv=>?_,λl hl=>?_,rfl⟩
 .rcases kN.1 (show v∈L.r::L.rest from hv) with e|e
  .rw[e];exact⟨h1,h2⟩
  .unfold Lo.Lf.rest at e
   rw[h3] at e
   rw[(mU.1 (show v∈List.replicate (L.n-1-0) BL from by simpa using e)).2]
   exact⟨.inl rfl,rfl⟩
 .rcases kN.1 (show l∈L.la::List.replicate (L.n-1) Lt.newL from hl) with e|e
  .rw[e];exact hI
  .rw[(mU.1 e).2];decide
theorem Li :Con prog 17 [] Tr [] (λ_:Unit=>.bool true) Tr (λ_=>[]):=by
 intro w hE hH
 refine E0 func17 I hH ?_
 refine Cs I (Ak I (Cs I (Lq I (AP (Opn.c oA) I I (λw=>by kernel_rfl)) (l_e I (Ax (sz:=4) [.tmp 6] I I I I I U40 Z43 I zeroValue43 I (λba=>Lq I (AP (Opn.c oB) I I (λw=>by kernel_rfl)) (l_e I (Ax (sz:=4) [.tmp 8] I I I I I U40 Z43 I zeroValue43 I (λbb=>l_e I (Ax (sz:=1) [.tmp 7,.tmp 9] I I I I I U25 Z40 I zeroValue40 I (λbo=>Lq I (AP ([.int .i64 ((4:Nat):Int),.int .i64 ((9:Nat):Int),.int .i64 ((0:Nat):Int),.slice (some ⟨bo,0,none⟩) 2 2]) I I (λw=>by kernel_rfl)) (l_e I (Ig [_,_,_] (HA:=[]) (Yd (vs:=[⟨some ⟨ba,0,none⟩,1,1⟩,⟨some ⟨bb,0,none⟩,1,1⟩]) (ls:=awL) (nb:=4) (nf:=9) (fl:=0) (by decide) (by decide) (by decide) (by decide) (by decide) (by decide) (by decide) (λl hl=>by simp[awL] at hl;rcases hl with rfl|rfl<;>simp) (λl hl o ho=>by have:=(Yx l hl o ho).2;omega)) rfl rfl rfl call18 rfl (λ_ h=>kg (AY (h.at 0 rfl) C6 [⟨some ⟨ba,0,none⟩,1,1⟩,⟨some ⟨bb,0,none⟩,1,1⟩] rfl rfl) (AY (h.at 2 rfl) Opn.enc [oA] rfl rfl) (AY (h.at 1 rfl) Opn.enc [oB] rfl rfl)) (λz hz=>Lm I (Mv 3 I (Ak I (Af (Cs I (Mv 3 I (Av (Av (Av (Sb 17 false I (I) (Lm I (Lq I (DS I U24 I I) (Mv 2 I (Sb 21 false I (I) (Lm I (l_e I (Ee [] (MX hz) I call19 Tt ?_))))))))))))))))))))))))))))))
 intro _ _
 refine Pw (St _ _ (HC.H z (hmS 4 9 0 awL))) ?_
 refine Lq I (DS I underlying47 I I) (Lq I (Qz I) (Nk (Sb 25 false I (I) (Aa I (Ae (Ks (Cs I (Ak I (Aj ?_)))))))))
 have e0:eM (Cx 0 aw0)=hmS 4 9 0 awL:=Yw (by decide) (by decide)
 rw[<-e0] at hz
 refine Pre.world (St w [] (HC.H z (eM (Cx 0 aw0)))) (λ_ h=>by rw[e0];exact h) ?_
 refine Cy (λ(i:Nat) (z:HC)=>[(1,ptV z.bH),(3,.int .i64 (i:Int))]) (λ(i:Nat) (z:HC)=>St w [] (HC.H z (eM (Cx i aw0)))) (λ(i:Nat) (z:HC)=>i<=60/\HOk z (eM (Cx i aw0)) (2*i)) (λ(i:Nat) (z:HC)=>60-i) (0) (z) ⟨by decide,hz⟩ (Si I) Ih (λi z hp=>Af (Af ?_))
 obtain⟨hi,hk⟩:=hp
 obtain⟨r1,r2,r3,r4⟩:=HX i
 refine Cr I (Mv 2 I (Nk (CB 27 I (λhlt=>?_) (λhlt=>?_))))
 .refine Ah I (Ae (Ks (Aj (Cr I (Mv 2 I ?_)))))
  have hst:kF (eM (Cx i aw0)) (i:Int)=eM (Cx (i+1) aw0):=TO r1 _ (HX (i+1)).1.lok (λc hc e=>absurd e (r2.norm r1 r3 hc 10))
  have hs:=It hk (by omega) (by show (Cx i aw0).pk<20000;omega) (Yq r1 (λt c hc e _ _=>absurd e (r2.norm r1 r3 hc 10))) (i:Int) (by rw[hst];exact J3 (HX (i+1)).1.lok)
  rw[hst] at hs
  refine l_e I (Ee [] (hs) I call13 Tt ?_)
  rintro y ⟨hy1,hy2⟩
  refine Pw (St _ _ (HC.H y (eM (Cx (i+1) aw0)))) ?_
  refine AB (Aw (Kt (Cr I (Lm I (Lq I (Qi I) (Las I (AB (Sv' 1 (ptV y.bH) I (by rw[hy1]) ?_))))))))
  exact AE ((i+1,y)) (by dsimp only;omega) ⟨by dsimp only;omega,hy2⟩ (Si I) (λ_ h=>h)
 .have hi60:i=60:=by omega
  subst hi60
  obtain⟨a1,a2,a3,a4⟩:=j8
  obtain⟨b1,b2,b3,b4⟩:=j9
  have hlm:(eM (Cx 60 aw0)).L.look.es=Lo.mapL (Cx 60 aw0).L:=Qu (HX 60).1.lok
  refine Aa I (AO (Ab (Ab (Am (Kt (Cs I (Lm I (l_e I (Ee [] (MX hk) I call19 Tt (λ_ _=>Pw (St _ _ (HC.H z (eM (Cx 60 aw0)))) ?_))))))))))
  have hz:=j7 hk (J3 (HX 60).1.lok) (Iw (HX 60).1.lok).1
  rw[hlm] at hz
  refine l_e I (Ee [] (hz) I call20 Tt (λvm _=>Pre.world (St _ _ (_::HC.H z (eM (Cx 60 aw0)))) Ih (Ak I (Cs I (Lm I ?_)))))
  obtain⟨e0,he0⟩:∃e,(Lo.mapL (Cx 60 aw0).L)[0]?=some e:=⟨_,kY (by omega)⟩
  have hc0:0<e0.val.n:=by
   have h9:=np.1 ke _ (lP.2 ⟨e0,mQ he0,rfl⟩)
   exact oh h9
  refine l_e I (Ee [_] (RZ hk) I call12 Tt (λ_ _=>Pre.world (St _ _ (_::HC.H z (eM (Cx 60 aw0)))) Ih (Sv' 37 (.bool true) I (by rw[Qs,a1]) (Mv 2 I (l_e I (Ee [_] (TE hk) I call15 Tt (λve _=>Pre.world (St _ _ (_::_::HC.H z (eM (Cx 60 aw0)))) Ih (Lq I (AJ I U34 I (Hrd 1 I)) (Mv 3 I (Sb 44 true I (by first|rfl|exact od (by omega)|(simp only[mS];omega)) (Lm I (l_e I (Ee [_,_] (jY hk) I call47 Tt (λ_ _=>Pre.world (St _ _ (_::_::HC.H z (eM (Cx 60 aw0)))) Ih ?_))))))))))))))
  refine Mv 3 I (Sb 49 true I (by first|rfl|exact od (by omega)|(simp only[mS];omega)) (Lm I (Lq I (AJ I U49 I (Hrd 0 I)) (Mv 3 I (Sb 54 true I (by first|rfl|exact od (by omega)|(simp only[mS];omega)) (Lm I (Lq I (Ar 0 I U49 Z79 I (Hrd 0 I) I I) (Lfa U79 I Z56 I (Lfa U56 I Z3 I (Lq I (AI 0 9 I G3 I I (Hrd 0 I) he0 (kh e0)) (Lq I (BQ I I I) (Mv 2 I (Sb 62 true I (by first|rfl|exact od (by omega)|(simp only[mS];omega)) (Lm I (l_e I (Ee [_,_] (MX hk) I call19 Tt (λ_ _=>Pre.world (St _ _ (_::_::HC.H z (eM (Cx 60 aw0)))) Ih ?_)))))))))))))))))
  refine l_e I (Ee [_,_] (jt hk (gv b1 b2 b3 b4)) I call48 Tt (λ_ _=>Pre.world (St _ _ (_::_::HC.H z (eM (Cx 60 aw0)))) Ih ?_))
  exact Lq I (Qy I) (Ak I (Ag (Ao I I (λ_ h=>⟨(),rfl,T0,h.kv⟩))))
theorem Vx (k:Kv 16) (z:Int):Con prog 164 [.agg k.c.toArray,.int .u64 z] Tr [] (λ_:Unit=>.agg (CX k z).c.toArray) Tr (λ_=>[]):=Hx (λw _=>Uh k.n k.b z w k.len k.wb)
theorem Vy (z:Int) (h0:0<=z) (h1:z<18446744073709551616):Con prog 163 [.int .u64 z] Tr [] (λ_:Unit=>.agg (Kr z).c.toArray) Tr (λ_=>[]):=Hx (λw _=>Mj z w h0 h1)
theorem BZ {m:Nat} (ha:tx a=a.b.take m) (hb:tx b=b.b.take k) (hm:m<=8) (hk:k<=8) (him:i<m) (hik:i<k) (e:Dn (tx a) (tx b)=Dn ((tx a).drop i) ((tx b).drop i)) :
 Dn (tx a) (tx b)=if a.b.getD i 0<b.b.getD i 0 then -1 else if b.b.getD i 0<a.b.getD i 0 then 1 else Dn ((tx a).drop (i+1)) ((tx b).drop (i+1)):=by
 have h1:∀{c:Kv 8} {n:Nat},tx c=c.b.take n->n<=8->i<n->(tx c).drop i=c.b.getD i 0::(tx c).drop (i+1):=λ{c n} h hn hi=>by
  have hl:(tx c).length=n:=by rw[h];simp[c.len];omega
  rw[kV (by omega)]
  congr 1
  have hc:i<c.b.length:=by rw[c.len];omega
  rw[om,kY hc]
  simp only[h,List.getElem_take,lV]
 rw[e,h1 ha hm him,h1 hb hk hik,Dn]
theorem cE {m:Nat} (hm:(tx a).length=m) (hk:(tx b).length=k) (e:Dn (tx a) (tx b)=Dn ((tx a).drop i) ((tx b).drop i)) :
 (m<=i->k<=i->Bq a b=0)/\(m<=i->i<k->Bq a b = -1)/\(i<m->k<=i->Bq a b=1):=by
 unfold Bq
 have hz:∀{l:List Int},l.length<=i->l.drop i=[]:=λh=>List.drop_eq_nil_of_le h
 have hc:∀{l:List Int},i<l.length->∃x t,l.drop i=x::t:=λ{l} h=>⟨l[i],l.drop (i+1),kV h⟩
 refine⟨λh1 h2=>?_,λh1 h2=>?_,λh1 h2=>?_⟩
 .rw[e,hz (by omega),hz (by omega)];rfl
 .obtain⟨x,t,hx⟩:=hc (l:=tx b) (by omega)
  rw[e,hz (by omega),hx];rfl
 .obtain⟨x,t,hx⟩:=hc (l:=tx a) (by omega)
  rw[e,hx,hz (l:=tx b) (by omega)];rfl
theorem Eu {l:List Int} {m:Nat} (h:l.length=m):(kc n l).length=m+1:=by simp[h]
theorem TR {m:Int} {l k:List Int} {d:Nat} (h:l.length=d) (h':k.length=d):Sep.splice (kc n l) 0 (kc m k)=kc m k:=Sep.ku (by rw[Eu h,Eu h'])
theorem Qv {m:Nat} {b:UInt8} (hb:s[i]?=some b) (h:i<m):(kc n ((byt s).take i++List.replicate (m-i) 0)).set (0+1+i*1) (.int .u8 (b.toNat:Int))=kc n ((byt s).take (i+1)++List.replicate (m-(i+1)) 0):=by
 rw[eW]
 congr 1
 have hs:i<s.size:=by
  rcases k6 i s.size with h|h
  .exact h
  .rw[getElem?_neg s i (by omega)] at hb;cases hb
 have hl:i<(byt s).length:=by rw[ES];exact hs
 have e:(byt s)[i]?=some (b.toNat:Int):=by
  rw[getElem?_pos s i hs] at hb
  unfold byt
  rw[lS,ow,ox hs]
  exact congrArg (λz:Option UInt8=>z.map (λb=>(b.toNat:Int))) hb
 rw[nT,e,m6 _ _ (by simp;omega)]
 rw[show m-i=(m-(i+1))+1 from by omega,lC]
 simp[show min i (byt s).length=i by omega]
theorem Vz (h:s.size<=8):kc (s.size:Int) ((byt s).take s.size++List.replicate (8-s.size) 0)=(kof s h).c:=by
 show _=kc (((byt s).length:Nat):Int) (byt s++List.replicate (8-(byt s).length) 0)
 rw[ES,lI (by rw[ES];exact lJ _)]
theorem VA (h:s.size<=16):kc (s.size:Int) ((byt s).take s.size++List.replicate (16-s.size) 0)=(vof s h).c:=by
 show _=kc (s.size:Int) (byt s++List.replicate (16-(byt s).length) 0)
 rw[ES,lI (by rw[ES];exact lJ _)]
theorem Qw {m:Nat} (h:s.size<=m) (hi:i<=s.size):((byt s).take i++List.replicate (m-i) 0).length=m:=by
 have:=ES s;simp;omega
theorem Yy (h:i<s.size):∃b,s[i]?=some b:=⟨s[i]'h,getElem?_pos s i h⟩
theorem gw {v:Kv 16} {t:Bool} (hm:m.kind=1\/m.kind=2\/m.kind=3):rap v t m=Cp v t m:=by
 unfold rap Cp
 rcases hm with h|h|h
 .rw[lu h,lu h]
 .rw[lz (by omega),lu h,lz (by omega),lz (by omega)]
 .have h1:¬m.kind=1:=by omega
  have h2:¬m.kind=2:=by omega
  simp only[lz h1,lz h2,lu h]
  cases t with
  |true=>rfl
  |false=>simp only[ny,nz];rw[iA m.wy]
theorem Lj (a b:Kv 8) (ha:kck a) (hb:kck b):Con prog 62 [.agg a.c.toArray,.agg b.c.toArray] Tr [] (λ_:Unit=>.int .i64 (Bq a b)) Tr (λ_=>[]):=by
 intro w hE hH
 obtain⟨m,hm,hm8,hta,htal,_⟩:=DU ha
 obtain⟨q,hq,hq8,htb,htbl,_⟩:=DU hb
 refine E0 func62 I hH (Cs I (l_e I (AT I I I I (λba=>Ce a.c I (l_e I (AT I I I I (λbb=>Ce b.c I (Ak I (Af (Cs I (Ak I (Aj ?_))))))))))))
 refine A0 (λ(i:Nat)=>[(2,ptV ba),(3,ptV bb),(5,.int .i64 (i:Int))]) (λ(i:Nat)=>St w [] [Ad bb 77 b.c,Ad ba 77 a.c]) (λ(i:Nat)=>i<=8/\Dn (tx a) (tx b)=Dn ((tx a).drop i) ((tx b).drop i)) (λ(i:Nat)=>8-i) (0) ⟨lK _,rfl⟩ (Si I) Ih (λi hp=>Af (Af ?_))
 obtain⟨hi,he⟩:=hp
 obtain⟨e1,e2,e3⟩:=cE htal htbl he
 refine Cr I (Mv 2 I (Nk (CB 7 I (λh0=>?_) (λh0=>?_))))
 .refine Ah I (Ae (Ks (Aj (Aj (Cs I (Lm I (Lfa U77 I Z3 I (Lo G3 1 I (Mv 2 I (CB 15 I (λh1=>?_) (λh1=>?_)))))))))))
  .refine Lm I (Lfa U77 I Z3 I (Lo G3 0 I (Mv 2 I (Ak I (CB 10 I (λh2=>?_) (λh2=>?_))))))
   .exact Ah I (Cs I (Ak I (Ag (As (As (Ac (Ac (As (Ac (Ao I I (λ_ h=>⟨(),congrArg Ei (by first|exact (e1 (by omega) (by omega)).symm|exact (e2 (by omega) (by omega)).symm|exact (e3 (by omega) (by omega)).symm|(unfold Bq;rw[BZ hta htb hm8 hq8 (by omega) (by omega) he,lu (by omega)])|(unfold Bq;rw[BZ hta htb hm8 hq8 (by omega) (by omega) he,lz (by omega),lu (by omega)])),T0,h.kv⟩)))))))))))
   .refine Aa I (Cs I (Lm I (Lfa U77 I Z3 I (Lo G3 1 I (Lq I (Qg I) (Ak I (CB 21 I (λh3=>?_) (λh3=>?_))))))))
    .exact Ah I (Cs I (Ak I (Ag (As (As (Ac (Ac (As (Ac (Ao I I (λ_ h=>⟨(),congrArg Ei (by first|exact (e1 (by omega) (by omega)).symm|exact (e2 (by omega) (by omega)).symm|exact (e3 (by omega) (by omega)).symm|(unfold Bq;rw[BZ hta htb hm8 hq8 (by omega) (by omega) he,lu (by omega)])|(unfold Bq;rw[BZ hta htb hm8 hq8 (by omega) (by omega) he,lz (by omega),lu (by omega)])),T0,h.kv⟩)))))))))))
    .refine Aa I (Cs I (Lm I (Lfa U77 I Z3 I (Lo G3 0 I (Lq I (Qg I) (Ak I (CB 26 I (λh4=>?_) (λh4=>?_))))))))
     .exact Ah I (Cs I (Ak I (Ag (As (As (Ac (Ac (As (Ac (Ao I I (λ_ h=>⟨(),congrArg Ei (by first|exact (e1 (by omega) (by omega)).symm|exact (e2 (by omega) (by omega)).symm|exact (e3 (by omega) (by omega)).symm|(unfold Bq;rw[BZ hta htb hm8 hq8 (by omega) (by omega) he,lu (by omega)])|(unfold Bq;rw[BZ hta htb hm8 hq8 (by omega) (by omega) he,lz (by omega),lu (by omega)])),T0,h.kv⟩)))))))))))
     .refine Aa I (Af (Do8 (rg 10) 0 _ I St.drawn Ih (Dm I (Dfa U77 I Z75 I (Dq I (Be i I U75 Z5 I I I) (Dq I (Al I G5 I (Hat 1 I) (Gw a.len)) (Dm I (Dfa U77 I Z75 I (Dq I (Be i I U75 Z5 I I I) (Dq I (Al I G5 I (Hat 0 I) (Gw b.len)) (Md 2 I (AL (Kt (CB 31 I (λh6=>?_) (λh6=>?_)))))))))))))))
      .exact Ah I (Cs I (Ak I (Ag (As (As (Ac (Ac (As (Ac (Ao I I (λ_ h=>⟨(),congrArg Ei (by first|exact (e1 (by omega) (by omega)).symm|exact (e2 (by omega) (by omega)).symm|exact (e3 (by omega) (by omega)).symm|(unfold Bq;rw[BZ hta htb hm8 hq8 (by omega) (by omega) he,lu (by omega)])|(unfold Bq;rw[BZ hta htb hm8 hq8 (by omega) (by omega) he,lz (by omega),lu (by omega)])),T0,h.kv⟩)))))))))))
      .refine Aa I (Af (Do8 (rg 10) 0 _ I St.drawn Ih (Dm I (Dfa U77 I Z75 I (Dq I (Be i I U75 Z5 I I I) (Dq I (Al I G5 I (Hat 1 I) (Gw a.len)) (Dm I (Dfa U77 I Z75 I (Dq I (Be i I U75 Z5 I I I) (Dq I (Al I G5 I (Hat 0 I) (Gw b.len)) (Dq I (BQ I I I) (Das I (AL (Kt (CB 41 I (λh8=>?_) (λh8=>?_))))))))))))))))
       .exact Ah I (Cs I (Ak I (Ag (As (As (Ac (Ac (As (Ac (Ao I I (λ_ h=>⟨(),congrArg Ei (by first|exact (e1 (by omega) (by omega)).symm|exact (e2 (by omega) (by omega)).symm|exact (e3 (by omega) (by omega)).symm|(unfold Bq;rw[BZ hta htb hm8 hq8 (by omega) (by omega) he,lu (by omega)])|(unfold Bq;rw[BZ hta htb hm8 hq8 (by omega) (by omega) he,lz (by omega),lu (by omega)])),T0,h.kv⟩)))))))))))
       .refine Aa I (Ae (Aw (Aw (Kt (Cr I (Lm I (Lq I (Qi I) (Las I (AB ?_)))))))))
        exact AE (i+1) (by omega) ⟨by omega,by rw[BZ hta htb hm8 hq8 (by omega) (by omega) he,lz (by omega),lz (by omega)]⟩ (Si I) (λ_ h=>h)
  .refine Mv 5 I (Ak I (Aa I (Cs I (Lm I (Lfa U77 I Z3 I (Lo G3 1 I (Lq I (Qg I) (Ak I (CB 21 I (λh9=>?_) (λh9=>?_))))))))))
   .exact Ah I (Cs I (Ak I (Ag (As (As (Ac (Ac (As (Ac (Ao I I (λ_ h=>⟨(),congrArg Ei (by first|exact (e1 (by omega) (by omega)).symm|exact (e2 (by omega) (by omega)).symm|exact (e3 (by omega) (by omega)).symm|(unfold Bq;rw[BZ hta htb hm8 hq8 (by omega) (by omega) he,lu (by omega)])|(unfold Bq;rw[BZ hta htb hm8 hq8 (by omega) (by omega) he,lz (by omega),lu (by omega)])),T0,h.kv⟩)))))))))))
   .refine Aa I (Cs I (Lm I (Lfa U77 I Z3 I (Lo G3 0 I (Lq I (Qg I) (Ak I (CB 26 I (λh10=>?_) (λh10=>?_))))))))
    .exact Ah I (Cs I (Ak I (Ag (As (As (Ac (Ac (As (Ac (Ao I I (λ_ h=>⟨(),congrArg Ei (by first|exact (e1 (by omega) (by omega)).symm|exact (e2 (by omega) (by omega)).symm|exact (e3 (by omega) (by omega)).symm|(unfold Bq;rw[BZ hta htb hm8 hq8 (by omega) (by omega) he,lu (by omega)])|(unfold Bq;rw[BZ hta htb hm8 hq8 (by omega) (by omega) he,lz (by omega),lu (by omega)])),T0,h.kv⟩)))))))))))
    .refine Aa I (Af (Do8 (rg 10) 0 _ I St.drawn Ih (Dm I (Dfa U77 I Z75 I (Dq I (Be i I U75 Z5 I I I) (Dq I (Al I G5 I (Hat 1 I) (Gw a.len)) (Dm I (Dfa U77 I Z75 I (Dq I (Be i I U75 Z5 I I I) (Dq I (Al I G5 I (Hat 0 I) (Gw b.len)) (Md 2 I (AL (Kt (CB 31 I (λh12=>?_) (λh12=>?_)))))))))))))))
     .exact Ah I (Cs I (Ak I (Ag (As (As (Ac (Ac (As (Ac (Ao I I (λ_ h=>⟨(),congrArg Ei (by first|exact (e1 (by omega) (by omega)).symm|exact (e2 (by omega) (by omega)).symm|exact (e3 (by omega) (by omega)).symm|(unfold Bq;rw[BZ hta htb hm8 hq8 (by omega) (by omega) he,lu (by omega)])|(unfold Bq;rw[BZ hta htb hm8 hq8 (by omega) (by omega) he,lz (by omega),lu (by omega)])),T0,h.kv⟩)))))))))))
     .refine Aa I (Af (Do8 (rg 10) 0 _ I St.drawn Ih (Dm I (Dfa U77 I Z75 I (Dq I (Be i I U75 Z5 I I I) (Dq I (Al I G5 I (Hat 1 I) (Gw a.len)) (Dm I (Dfa U77 I Z75 I (Dq I (Be i I U75 Z5 I I I) (Dq I (Al I G5 I (Hat 0 I) (Gw b.len)) (Dq I (BQ I I I) (Das I (AL (Kt (CB 41 I (λh14=>?_) (λh14=>?_))))))))))))))))
      .exact Ah I (Cs I (Ak I (Ag (As (As (Ac (Ac (As (Ac (Ao I I (λ_ h=>⟨(),congrArg Ei (by first|exact (e1 (by omega) (by omega)).symm|exact (e2 (by omega) (by omega)).symm|exact (e3 (by omega) (by omega)).symm|(unfold Bq;rw[BZ hta htb hm8 hq8 (by omega) (by omega) he,lu (by omega)])|(unfold Bq;rw[BZ hta htb hm8 hq8 (by omega) (by omega) he,lz (by omega),lu (by omega)])),T0,h.kv⟩)))))))))))
      .refine Aa I (Ae (Aw (Aw (Kt (Cr I (Lm I (Lq I (Qi I) (Las I (AB ?_)))))))))
       exact AE (i+1) (by omega) ⟨by omega,by rw[BZ hta htb hm8 hq8 (by omega) (by omega) he,lz (by omega),lz (by omega)]⟩ (Si I) (λ_ h=>h)
 .exact Aa I (AO (Ab (Ab (Am (Kt (Cs I (Ak I (Ag (Ao I I (λ_ h=>⟨(),congrArg Ei (by first|exact (e1 (by omega) (by omega)).symm),T0,h.kv⟩))))))))))
theorem FQ (s:ByteArray) (hs:s.size<=8):Con prog 67 [.string s] Tr [] (λ_:Unit=>.tuple #[.agg (kof s hs).c.toArray,.int .i64 0]) Tr (λ_=>[]):=by
 intro w hE hH
 have hzl:(List.replicate 8 (0:Int)).length=8:=oy ..
 refine E0 func67 I hH ?_
 refine Cs I (l_e I (Au I I I zeroValue77 (λbr=>Ce (kc 0 (List.replicate 8 0)) I (Ak I (Cs I (Lq I (AP (kc 0 (List.replicate 8 0)) I I (λw=>by kernel_rfl)) (l_e I (Au I I I zeroValue77 (λbk=>Ce (kc 0 (List.replicate 8 0)) I (l_e I (SA Z77 I NQ (AR (TR hzl hzl) (Ns (Cs I (Lm I (Lq I (FA I U9 I) (Lq I (BQ I I I) (Nk (Sf 9 I (by omega) (Aa I (Ae (Kt (Cs I (Lm I (Lq I (FA I U9 I) (Lfa U77 I Z3 I (l_e I (AG I I Z3 I I I (by rw[Eu hzl];decide) (AR (iB) (Ns (Cs I (Ak I ?_))))))))))))))))))))))))))))))))
 refine Aj ?_
 refine A0 (λ(i:Nat)=>[(0,.string s),(2,ptV br),(3,.int .i64 0),(4,ptV bk),(5,.int .i64 (i:Int))]) (λ(i:Nat)=>St w [] [Ad bk 77 (kc (s.size:Int) ((byt s).take i++List.replicate (8-i) 0)),Ad br 77 (kc 0 (List.replicate 8 0))]) (λ(i:Nat)=>i<=s.size) (λ(i:Nat)=>s.size-i) (0) (lK _) (Si I) Ih (λi hi=>Af (Af ?_))
 have hll:=Qw hs hi
 refine Cr I (Mv 2 I (Lq I (FA I U9 I) (Lq I (Ql I) (Nk (CB 17 I (λh1=>?_) (λh1=>?_))))))
 .obtain⟨b,hb⟩:=Yy (s:=s) (i:=i) (by omega)
  refine Ah I (Ae (Ks (Aj (Cr I (Mv 3 I (Lq I (O0 i _ I U9 I I I hb) (Lfa U77 I Z75 I (Lq I (Be i I U75 Z5 I I I) (l_e I (AG I I Z5 I I I (by rw[Eu hll];show 0+1+i*1<9;omega) (AR (Qv hb (by omega)) (AB (Aw (Kt (Cr I (Lm I (Lq I (Qi I) (Las I (AB ?_)))))))))))))))))))
  exact AE (i+1) (by omega) (by omega) (Si I) (λ_ h=>h)
 .have hie:i=s.size:=by omega
  subst hie
  rw[Vz hs]
  exact Aa I (AO (Ab (Ab (Am (Kt (Cs I (Lq I (Cq ((kof s hs).c) G77 Z77 0 I (Bb _) (Kv.ko _)) (AM (l_e I (Az I I Z77 I I (Kv.ko _) (Kv.one _) (by rw[Kv.ko,Eu hzl];decide) (AR (Sep.ku (by rw[Kv.ko,Eu hzl])) (Ak I (Ag (BM I (AK I G77 Z77 (Hat 0 I) (Kv.ko _)) (id I) (λ_ h=>⟨(),rfl,T0,h.kv⟩)))))))))))))))
theorem M3 (s:ByteArray) (hs:s.size<=16):Con prog 69 [.string s] Tr [] (λ_:Unit=>.tuple #[.agg (vof s hs).c.toArray,.int .i64 0]) Tr (λ_=>[]):=by
 intro w hE hH
 have hzl:(List.replicate 16 (0:Int)).length=16:=oy ..
 refine E0 func69 I hH ?_
 refine Cs I (l_e I (Au I I I zeroValue56 (λbr=>Ce (kc 0 (List.replicate 16 0)) I (Ak I (Cs I (Lq I (AP (kc 0 (List.replicate 16 0)) I I (λw=>by kernel_rfl)) (l_e I (Au I I I zeroValue56 (λbk=>Ce (kc 0 (List.replicate 16 0)) I (l_e I (SA Z56 I NQ (AR (TR hzl hzl) (Ns (Cs I (Lm I (Lq I (FA I U9 I) (Lq I (BQ I I I) (Nk (Sf 9 I (by omega) (Aa I (Ae (Kt (Cs I (Lm I (Lq I (FA I U9 I) (Lfa U56 I Z3 I (l_e I (AG I I Z3 I I I (by rw[Eu hzl];decide) (AR (iB) (Ns (Cs I (Ak I ?_))))))))))))))))))))))))))))))))
 refine Aj ?_
 refine A0 (λ(i:Nat)=>[(0,.string s),(2,ptV br),(3,.int .i64 0),(4,ptV bk),(5,.int .i64 (i:Int))]) (λ(i:Nat)=>St w [] [Ad bk 56 (kc (s.size:Int) ((byt s).take i++List.replicate (16-i) 0)),Ad br 56 (kc 0 (List.replicate 16 0))]) (λ(i:Nat)=>i<=s.size) (λ(i:Nat)=>s.size-i) (0) (lK _) (Si I) Ih (λi hi=>Af (Af ?_))
 have hll:=Qw hs hi
 refine Cr I (Mv 2 I (Lq I (FA I U9 I) (Lq I (Ql I) (Nk (CB 17 I (λh1=>?_) (λh1=>?_))))))
 .obtain⟨b,hb⟩:=Yy (s:=s) (i:=i) (by omega)
  refine Ah I (Ae (Ks (Aj (Cr I (Mv 3 I (Lq I (O0 i _ I U9 I I I hb) (Lfa U56 I sizeOf54 I (Lq I (Be i I underlying54 Z5 I I I) (l_e I (AG I I Z5 I I I (by rw[Eu hll];show 0+1+i*1<17;omega) (AR (Qv hb (by omega)) (AB (Aw (Kt (Cr I (Lm I (Lq I (Qi I) (Las I (AB ?_)))))))))))))))))))
  exact AE (i+1) (by omega) (by omega) (Si I) (λ_ h=>h)
 .have hie:i=s.size:=by omega
  subst hie
  rw[VA hs]
  exact Aa I (AO (Ab (Ab (Am (Kt (Cs I (Lq I (Cq ((vof s hs).c) G56 Z56 0 I (Bb _) (Kv.ko _)) (AM (l_e I (Az I I Z56 I I (Kv.ko _) (Kv.one _) (by rw[Kv.ko,Eu hzl];decide) (AR (Sep.ku (by rw[Kv.ko,Eu hzl])) (Ak I (Ag (BM I (AK I G56 Z56 (Hat 0 I) (Kv.ko _)) (id I) (λ_ h=>⟨(),rfl,T0,h.kv⟩)))))))))))))))
theorem QA (v:Kv 16) (t:Bool) (m:Ms):Con prog 115 [.agg v.c.toArray,.bool t,.agg m.c.toArray] Tr [] (λ_:Unit=>.tuple #[.agg (rap v t m).1.c.toArray,.bool (rap v t m).2]) Tr (λ_=>[]):=by
 intro w hE hH
 refine E0 func115 I hH (Cs I (l_e I (AT I I I I (λbv=>Ce v.c I (l_e I (AT I I I I (λbm=>Ce m.c I (l_e I (Au I I I zeroValue56 (λbr=>Ce (kv0 16).c I (Ak I (Af (Cs I (Lfa B8 I Z3 I (Lo G3 1 I (Nk (Aj (Cs I (Lq I (Qe I) (Ak I (CB 10 I (λh1=>?_) (λh1=>?_))))))))))))))))))))))
 .refine Ah I (Cs I (Lfa B8 I Z56 I (Lq I (Cq (m.val.c) G56 Z56 1 I (Ms.val_part _) (Kv.ko _)) (l_e I (Az I I Z56 I I (Kv.ko _) (Kv.one _) (by simp only[Kv.ko,Ms.ko];decide) (Ce m.val.c (Sep.ku (by simp only[Kv.ko,Ms.ko])) (Ak I (Ag (As (Ac (BM I (AK I G56 Z56 (Hat 0 I) (Kv.ko _)) (id I) ?_)))))))))))
  exact λ_ h=>⟨(),congrArg (λz:Kv 16×Bool=>Ending.returned (Value.tuple #[.agg (Kv.c z.1).toArray,.bool z.2])) (show (m.val,true)=rap v t m from by
   unfold rap
   simp_all),T0,h.kv⟩
 .refine Aa I (Cs I (Lq I (Qe I) (Ak I (CB 14 I (λh2=>?_) (λh2=>?_)))))
  .refine Ah I (Cs I (Lq I (AP ((kv0 16).c) I I (λw=>by kernel_rfl)) (l_e I (Az I I Z56 I I (Kv.ko _) (Kv.one _) (by simp only[Kv.ko,Ms.ko];decide) (Ce (kv0 16).c (Sep.ku (by simp only[Kv.ko,Ms.ko])) (Ak I (Ag (As (Ac (BM I (AK I G56 Z56 (Hat 0 I) (Kv.ko _)) (id I) ?_))))))))))
   exact λ_ h=>⟨(),congrArg (λz:Kv 16×Bool=>Ending.returned (Value.tuple #[.agg (Kv.c z.1).toArray,.bool z.2])) (show ((kv0 16),false)=rap v t m from by
    unfold rap
    simp_all),T0,h.kv⟩
  .refine Aa I (Ae (Aw (Ks (Cs I (Mv 2 I (Nk (CB 18 I (λh3=>?_) (λh3=>?_))))))))
   .refine Ah I (Cs I (Lfa B8 I Z41 I (Lq I (Al I G41 I (Hat 1 I) (Ms.by_part _)) (l_e I (E1 (Vy _ (Rl m.wy).1 (Rl m.wy).2) I call163 Tt (λ_ _=>l_e I (Az I I Z56 I I (Kv.ko _) (Kv.one _) (by simp only[Kv.ko,Ms.ko];decide) (Ce (Kr m.by').c (Sep.ku (by simp only[Kv.ko,Ms.ko])) (Ak I (Ag (Ac (BM I (AK I G56 Z56 (Hat 0 I) (Kv.ko _)) (id I) ?_))))))))))))
    exact λ_ h=>⟨(),congrArg (λz:Kv 16×Bool=>Ending.returned (Value.tuple #[.agg (Kv.c z.1).toArray,.bool z.2])) (show ((Kr m.by'),true)=rap v t m from by
     unfold rap
     simp_all),T0,h.kv⟩
   .refine Aa I (Ae (Kt (Cs I (Lq I (Cq (v.c) G56 Z56 2 I (Bb _) (Kv.ko _)) (Lfa B8 I Z41 I (Lq I (Al I G41 I (Hat 1 I) (Ms.by_part _)) (l_e I (E1 (Vx v _) I call164 Tt (λ_ _=>l_e I (Az I I Z56 I I (Kv.ko _) (Kv.one _) (by simp only[Kv.ko,Ms.ko];decide) (Ce (CX v m.by').c (Sep.ku (by simp only[Kv.ko,Ms.ko])) (Ak I (Ag (BM I (AK I G56 Z56 (Hat 0 I) (Kv.ko _)) (id I) ?_))))))))))))))
    exact λ_ h=>⟨(),congrArg (λz:Kv 16×Bool=>Ending.returned (Value.tuple #[.agg (Kv.c z.1).toArray,.bool z.2])) (show ((CX v m.by'),true)=rap v t m from by
     unfold rap
     simp_all),T0,h.kv⟩
theorem DA (k:Kv 8):Bq k k=0:=O8 _
theorem Yz (l:List En) (m:Ms):(CY l m).length<=1:=by unfold CY;split<;>simp
theorem YA (hs:BG l) {i:Nat} {e:En} {k:Kv 8} (he:l[i]?=some e) (hk:e.key=k):AN l k=(e.val,true):=by
 have hp:Cd l k=i:=S8 (Nat.le_of_lt (lR.1 he).1) (λj d hj hd=>by rw[<-hk];exact Px.1 hs j i d e hj hd he) (λd hd=>by rw[he] at hd;cases hd;rw[hk,DA];decide)
 unfold AN
 rw[hp,he]
 simp only[lu hk]
theorem YB {k:Kv 8} (h:∀e∈l,e.key≠k):AN l k=(kv0 16,false):=by
 unfold AN
 cases he:l[Cd l k]? with
 |none=>rfl
 |some e=>simp only[lz (h e (mQ he))]
theorem Lk (ha:kck a) (hb:kck b) (h:Bq a b=0):a=b:=by
 have h1:=Gu h
 obtain⟨m,hm,hm8,_,hl,hb1⟩:=DU ha
 obtain⟨q,hq,hq8,_,hl2,hb2⟩:=DU hb
 have:m=q:=by rw[<-hl,<-hl2,h1]
 subst this
 exact Kv.ext' (by rw[hm,hq]) (by rw[hb1,hb2,h1])
def M4 (l:List En) (k:Kv 8):Nat:=if lis l k=true then 1 else 0
def Da (l:List En) (m:Ms) (i:Nat):List En:=if i<=Cd l m.key then l.take i else l.take (Cd l m.key)++CY l m++(l.take i).drop (Cd l m.key+M4 l m.key)
theorem gx (l:List En) (m:Ms):Da l m 0=[]:=by unfold Da;rw[lu (lK _)];rfl
theorem cF (h:i<Cd l m.key) (he:l[i]?=some e):Da l m i++[e]=Da l m (i+1):=by
 unfold Da
 rw[lu (by omega),lu (by omega),nT,he];rfl
theorem YC:Da l m (Cd l m.key)=l.take (Cd l m.key):=by unfold Da;rw[lu (lJ _)]
theorem QB (hl:lis l m.key):Da l m (Cd l m.key)++CY l m=Da l m (Cd l m.key+1):=by
 rw[YC]
 unfold Da M4
 rw[lz (by omega),lu hl,px (by rw[k9];omega),nS]
theorem QC (hl:lis l m.key=false) (he:l[Cd l m.key]?=some e):Da l m (Cd l m.key)++CY l m++[e]=Da l m (Cd l m.key+1):=by
 rw[YC]
 unfold Da M4
 have hlt:=(lR.1 he).1
 rw[lz (by omega),lz (by rw[hl];decide),nB,nT,he]
 rw[nY (by rw[k9];omega),px (by rw[k9];omega)]
 simp
theorem cG (l:List En) (k:Kv 8):M4 l k<=1:=by unfold M4;split<;>omega
theorem cH (h:Cd l m.key<i) (he:l[i]?=some e):Da l m i++[e]=Da l m (i+1):=by
 have hg:=cG l m.key
 have hlt:=(lR.1 he).1
 unfold Da
 rw[lz (by omega),lz (by omega),nT,he,nY (by rw[k9];omega)]
 simp[mj]
theorem YD (h:Cd l m.key<l.length):Da l m l.length=Bs l m:=by
 unfold Da Bs M4
 rw[lz (by omega),oG]
theorem M5 (h:Cd l m.key=l.length):Da l m l.length++CY l m=Bs l m:=by
 unfold Da Bs
 rw[lu (by omega),h,px (by omega),nS]
theorem YE (l:List En) (m:Ms) (i:Nat):(Da l m i).length<=l.length+2:=by
 have h1:=JW l m.key
 unfold Da
 split
 .rw[k9];omega
 .unfold CY
  rw[lp,lp,k9,lk,k9]
  split<;>(try simp)<;>omega
theorem QD (h:(Cp (AN l m.key).1 (AN l m.key).2 m).2):CY l m=[⟨m.key,(Cp (AN l m.key).1 (AN l m.key).2 m).1⟩]:=by unfold CY;rw[lu h]
theorem TS (h:(Cp (AN l m.key).1 (AN l m.key).2 m).2=false):CY l m=[]:=by unfold CY;rw[lz (by rw[h];decide)]
theorem TT {m:Kv 8} (he:l[Cd l m]?=some e):lis l m=decide (e.key=m):=by unfold lis;rw[he]
theorem VB (k:Kv 16):∃a b c d e f g h i j l m n o p q:Int,k.b=[a,b,c,d,e,f,g,h,i,j,l,m,n,o,p,q]:=by
 obtain⟨n,b,len,_,_⟩:=k
 match b,len with
 |[a,b,c,d,e,f,g,h,i,j,l,m,n,o,p,q],_=>exact⟨a,b,c,d,e,f,g,h,i,j,l,m,n,o,p,q,rfl⟩
theorem M6 (key:Kv 8) (v:Kv 16) (w:World):(Instr.build 79 #[(0,.agg key.c.toArray),(1,.agg v.c.toArray)]).run prog w=.ok (.agg (⟨key,v⟩:En).c.toArray) w:=by
 obtain⟨a,b,c,d,e,f,g,h,hb⟩:=Gv key
 obtain⟨a1,a2,a3,a4,a5,a6,a7,a8,a9,b1,b2,b3,b4,b5,b6,b7,hv⟩:=VB v
 unfold En.c Kv.c
 rw[hb,hv]
 kernel_rfl
theorem VC {a b:List α} {x y:α} (h:a.take k=b.take k) (hx:a[k]?=some x) (hy:b[k]?=some y) (e:x=y):a.take (k+1)=b.take (k+1):=by
 subst e
 rw[nT,nT,hx,hy,h]
theorem Ll (l:List En) (k:Kv 8) (hs:BG l) (hn:l.length<=1000):Con prog 68 [va,.agg k.c.toArray] (λw=>RdV w va En.enc l) [] (λ_:Unit=>.tuple #[.agg (AN l k).1.c.toArray,.bool (AN l k).2]) Tr (λ_=>[]):=by
 intro w hl hH
 refine E0 func68 I hH (Cs I (l_e I (AT I I I I (λbk=>Ce k.c I (l_e I (Au I I I zeroValue56 (λbr=>Ce (kv0 16).c I (Ak I (Af (Cs I (Ak I (Aj ?_))))))))))))
 refine A0 (λ(i:Nat)=>[(0,va),(3,ptV bk),(4,ptV br),(5,.bool false),(6,.int .i64 (i:Int))]) (λ(i:Nat)=>St w [] [Ad br 56 (kv0 16).c,Ad bk 77 k.c]) (λ(i:Nat)=>i<=l.length/\∀j e,j<i->l[j]?=some e->e.key≠k) (λ(i:Nat)=>l.length-i) (0) ⟨lK _,λj e h=>absurd h (ov _)⟩ (Si I) Ih (λi hp=>Af (Af ?_))
 obtain⟨hi,hno⟩:=hp
 refine Cr I (Mv 2 I (Lq I (AJ I U49 I hl.kp) (Lq I (Ql I) (Nk (CB 10 I (λh1=>?_) (λh1=>?_))))))
 .obtain⟨x,hx⟩:=gE l i
  refine Ah I (Ae (Ks (Aj (Af (Do8 (rg 7) 1458 _ I St.drawn Ih (Md 2 I (Dq I (Ar i I U49 Z79 I hl.kp I I) (Dfa U79 I Z77 I (Dq I (BA (x.key.c) i 0 I G77 Z77 I I hl.kp hx (by decide) (En.kK _)) (Dq I (Cq (k.c) G77 Z77 1 I (Bb _) (Kv.ko _)) (d_t I (e_q I I (S0 (x.key) (k) I I I) (AL (Kt (CB 19 I (λh2=>?_) (λh2=>?_))))))))))))))))
  .have hf:=YA hs hx h2
   exact Ah I (Cs I (Mv 2 I (Lq I (Ar i I U49 Z79 I hl.kp I I) (Lfa U79 I Z56 I (Lq I (BA (x.val.c) i 9 I G56 Z56 I I hl.kp hx (by decide) (En.val_part _)) (l_e I (Az I I Z56 I I (Kv.ko _) (Kv.one _) (by simp only[Kv.ko];decide) (AR (show Sep.splice _ 0 (x.val).c=(x.val).c from Sep.ku (by simp only[Kv.ko])) (Ak I (Ag (As (Ac (Ac (As (Ac (BM I (AK I G56 Z56 (Hat 0 I) (Kv.ko _)) (id I) (λ_ h=>⟨(),by rw[hf],T0,h.kv⟩)))))))))))))))))
  .refine Aa I (Ae (Aw (Kt (Cr I (Lm I (Lq I (Qi I) (Las I (AB ?_))))))))
   exact AE (i+1) (by omega) ⟨by omega,λj e hj he=>by
    rcases o8.1 hj with h3|rfl
    .exact hno j e h3 he
    .rw[hx] at he;cases he;exact h2⟩ (Si I) (λ_ h=>h)
 .have hf:AN l k=(kv0 16,false):=YB (λe he=>by
   obtain⟨j,hj⟩:=List.getElem?_of_mem he
   exact hno j e (by have:=(lR.1 hj).1;omega) hj)
  exact Aa I (AO (Ab (Ab (Am (Kt (Cs I (Lq I (AP ((kv0 16).c) I I (λw=>by kernel_rfl)) (l_e I (Az I I Z56 I I (Kv.ko _) (Kv.one _) (by simp only[Kv.ko];decide) (AR (show Sep.splice _ 0 ((kv0 16)).c=((kv0 16)).c from Sep.ku (by simp only[Kv.ko])) (Ak I (Ag (BM I (AK I G56 Z56 (Hat 0 I) (Kv.ko _)) (id I) (λ_ h=>⟨(),by rw[hf],T0,h.kv⟩))))))))))))))
theorem Jg (l:List En) (m:Ms) (hs:BG l) (hn:l.length<=1000) (hck:∀e∈l,kck e.key=true) (hkm:kck m.key) (hm:m.kind=1\/m.kind=2\/m.kind=3):Con prog 70 [va,.agg m.c.toArray] (λw=>RdV w va En.enc l) [] (λv:Value=>v) Tr (λv=>[AA v 79 En.enc (Bs l m)]):=by
 intro w hl hH
 have hrm:(rap (AN l m.key).1 (AN l m.key).2 m)=Cp (AN l m.key).1 (AN l m.key).2 m:=gw hm
 have hpl:=JW l m.key
 have hnl:=Yz l m
 refine E0 func70 I hH ?_
 refine Cs I (l_e I (AT I I I I (λbm=>Ce m.c I (Ak I (Cs I (Lm I (Lfa B8 I Z77 I (Lq I (Cq (m.key.c) G77 Z77 0 I (Ms.kK _) (Kv.ko _)) (l_e I (E1 (Ll l m.key hs hn) I call68 hl.kp (λ_ _=>Lm I (Mv 2 I (l_e I (Au I I I zeroValue56 (λbo=>Ce (kv0 16).c I (l_e I (Az I I Z56 I I (Kv.ko _) (Kv.one _) (by simp only[Kv.ko];decide) (AR (show Sep.splice _ 0 ((AN l m.key).1).c=((AN l m.key).1).c from Sep.ku (by simp only[Kv.ko])) (Ak I (Cs I (Lq I (Cq ((AN l m.key).1.c) G56 Z56 0 I (Bb _) (Kv.ko _)) (Lm I (Lq I (Cq (m.c) Cm Bl 1 I (Br _) (Ms.ko _)) (l_e I (E1 (QA (AN l m.key).1 (AN l m.key).2 m) I call115 Tt (λ_ _=>Lm I (Mv 2 I (l_e I (Au I I I zeroValue56 ?_)))))))))))))))))))))))))))))
 intro bv
 refine Ce (kv0 16).c I (l_e I (Az I I Z56 I I (Kv.ko _) (Kv.one _) (by simp only[Kv.ko];decide) (AR (show Sep.splice _ 0 ((rap (AN l m.key).1 (AN l m.key).2 m).1).c=((rap (AN l m.key).1 (AN l m.key).2 m).1).c from Sep.ku (by simp only[Kv.ko])) (Ak I (Cs I (Ak I (Cs I (Ak I (Af (Cs I (Ak I (Aj (row0 79 En.enc none ?_)))))))))))))
 refine Cy (λ(i:Nat) (v:Value)=>[(0,va),(3,ptV bm),(7,ptV bv),(8,.bool (rap (AN l m.key).1 (AN l m.key).2 m).2),(9,v),(10,.bool (decide (Cd l m.key<i))),(11,.int .i64 (i:Int))]) (λ(i:Nat) (v:Value)=>St w [] [AA v 79 En.enc (Da l m i),Ad bv 56 ((rap (AN l m.key).1 (AN l m.key).2 m)).1.c,Ad bo 56 ((AN l m.key).1).c,Ad bm 154 m.c]) (λ(i:Nat) (v:Value)=>i<=l.length) (λ(i:Nat) (v:Value)=>l.length-i) (0) (.slice none 0 0) (lK _) (Sn I (Sn I (Sn I (Sn I (Sn I (Sub.consE I (by rw[oc (ov _)]) (Si I))))))) (λ_ h=>by rw[gx];exact h) (λi v hi=>Af (Af ?_))
 have hol:=YE l m i
 refine Cr I (Mv 2 I (Lq I (AJ I U49 I hl.kp) (Lq I (Ql I) (Nk (CB 30 I (λh1=>?_) (λh1=>?_))))))
 .obtain⟨x,hx⟩:=gE l i
  have hkx:=hck x (mQ hx)
  refine Ah I (Ae (Ks (Aj (Af (Do8 (rg 9) 17496 _ I St.drawn Ih (Md 2 I (Dq I (Ar i I U49 Z79 I hl.kp I I) (Dfa U79 I Z77 I (Dq I (BA (x.key.c) i 0 I G77 Z77 I I hl.kp hx (by decide) (En.kK _)) (Dfa B8 I Z77 I (Dq I (Cq (m.key.c) G77 Z77 3 I (Ms.kK _) (Kv.ko _)) (d_t I (E1 (Lj x.key m.key hkx hkm) I call62 Tt (λ_ _=>d_t I (e_q I I (AF I I) (AL (Ks (Cs I (Mv 3 I ?_)))))))))))))))))))
  rcases (show i<Cd l m.key\/i=Cd l m.key\/Cd l m.key<i by omega) with h3|h3|h3
  .have hc:=Ta h3 hx
   refine Sb 43 false I (by first|exact oc (by omega)|(simp;omega)) (Mv 3 I (Nk (Aa I (Ae (Kt (Cs I (Mv 2 I (Nk (Sb 56 true I (by first|exact od (by omega)|(simp;omega)) (Ah I (Cr I (Mv 3 I (Lq I (Ar i I U49 Z79 I hl.kp I I) (Lq I (AV i I G79 Z79 I I hl.kp hx) (l_e I (Ax (sz:=26) [.tmp 61] I I I I I U49 Z79 I zeroValue79 (by first|(simp[Value.cells,En.ko];done)|(simp[Value.cells];exact En.ko _)) (λb2=>AM (l_e I (Ap U49 U49 CK I (λ_ h=>AY (h.at 1 I) En.enc [x] I I) (by simp only[lp,kQ,ob];omega) (λv2=>Bt (cF h3 hx) (AM (Av (Las I (AB (Aw (Kt (Cr I (Lm I (Lq I (Qi I) (Las I (AB ?_)))))))))))))))))))))))))))))))
   exact AE ((i+1,v2)) (by dsimp only;omega) (by dsimp only;omega) (Sub.cons I (Sub.cons I (Sub.cons I (Sub.cons I (Sub.cons I (Sub.consE I (by first|rw[oc (by omega),oc (by omega)]|rw[od (by omega),od (by omega)]|rw[od (by omega)]) (Si I))))))) (λ_ h=>h)
  .have hc:=Ii hs (show Cd l m.key<=i by omega) hx
   refine Sb 43 true I (by first|exact od (by omega)|(simp;omega)) (Mv 3 I (Nk (Sb 46 true I (by rw[oc (by omega)];rfl) (Ah I (Af (Cs I (Lm I (Nk (Pre.caseB 47 I (λhis=>?_) (λhis=>?_))))))))))
   .rw[hrm] at his
    refine Ah I (Cr I (Lm I (Lfa B8 I Z77 I (Lq I (Cq (m.key.c) G77 Z77 3 I (Ms.kK _) (Kv.ko _)) (Lq I (Cq ((rap (AN l m.key).1 (AN l m.key).2 m).1.c) G56 Z56 1 I (Bb _) (Kv.ko _)) (Lq I (AP ((⟨m.key,(rap (AN l m.key).1 (AN l m.key).2 m).1⟩:En).c) I I (M6 _ _)) (l_e I (Ax (sz:=26) [.tmp 52] I I I I I U49 Z79 I zeroValue79 (by first|(simp[Value.cells,En.ko];done)|(simp[Value.cells];exact En.ko _)) (λb3=>AM (l_e I (Ap U49 U49 CK I (λ_ h=>AY (h.at 1 I) En.enc [(⟨m.key,(rap (AN l m.key).1 (AN l m.key).2 m).1⟩:En)] I I) (by simp only[lp,kQ,ob];omega) (λv2=>Bt (show _=Da l m i++CY l m from by rw[QD his,hrm]) (AM (Av (Ak I (Cr I (Ak I (Cs I (Mv 2 I (Nk ?_))))))))))))))))))))
    have hxl:=TT (m:=m.key) (h3▸hx)
    by_cases hz:Bq x.key m.key=0
    .have hlis:lis l m.key=true:=by rw[hxl];exact od (Lk hkx hkm hz)
     refine Sb 56 false I (by first|exact oc (by omega)|(simp;omega)) (Aa I (Ae (Aw (Kt (Cr I (Lm I (Lq I (Qi I) (Las I (AB (Bt (show Da l m i++CY l m=Da l m (i+1) from by rw[h3];exact QB hlis) ?_))))))))))
     exact AE ((i+1,v2)) (by dsimp only;omega) (by dsimp only;omega) (Sub.cons I (Sub.cons I (Sub.cons I (Sub.cons I (Sub.cons I (Sub.consE I (by first|rw[oc (by omega),oc (by omega)]|rw[od (by omega),od (by omega)]|rw[od (by omega)]) (Si I))))))) (λ_ h=>h)
    .have hlis:lis l m.key=false:=by rw[hxl];exact oc (λe=>hz (by rw[e];exact DA _))
     refine Sb 56 true I (by first|exact od (by omega)|(simp;omega)) (Ah I (Cr I (Mv 3 I (Lq I (Ar i I U49 Z79 I hl.kp I I) (Lq I (AV i I G79 Z79 I I hl.kp hx) (l_e I (Ax (sz:=26) [.tmp 61] I I I I I U49 Z79 I zeroValue79 (by first|(simp[Value.cells,En.ko];done)|(simp[Value.cells];exact En.ko _)) (λb4=>AM (l_e I (Ap U49 U49 CK I (λ_ h=>AY (h.at 1 I) En.enc [x] I I) (by simp only[lp,kQ,ob];omega) (λv3=>Bt (show Da l m i++CY l m++[x]=Da l m (i+1) from by rw[h3];exact QC hlis (h3▸hx)) (AM (Av (Las I (AB (Aw (Kt (Cr I (Lm I (Lq I (Qi I) (Las I (AB ?_))))))))))))))))))))))
     exact AE ((i+1,v3)) (by dsimp only;omega) (by dsimp only;omega) (Sub.cons I (Sub.cons I (Sub.cons I (Sub.cons I (Sub.cons I (Sub.consE I (by first|rw[oc (by omega),oc (by omega)]|rw[od (by omega),od (by omega)]|rw[od (by omega)]) (Si I))))))) (λ_ h=>h)
   .rw[hrm] at his
    refine Aa I (Ae (Kt (Cr I (Ak I (Cs I (Mv 2 I (Nk (Bt (show Da l m i=Da l m i++CY l m from by rw[TS his,nS]) ?_))))))))
    have hxl:=TT (m:=m.key) (h3▸hx)
    by_cases hz:Bq x.key m.key=0
    .have hlis:lis l m.key=true:=by rw[hxl];exact od (Lk hkx hkm hz)
     refine Sb 56 false I (by first|exact oc (by omega)|(simp;omega)) (Aa I (Ae (Aw (Kt (Cr I (Lm I (Lq I (Qi I) (Las I (AB (Bt (show Da l m i++CY l m=Da l m (i+1) from by rw[h3];exact QB hlis) ?_))))))))))
     exact AE ((i+1,v)) (by dsimp only;omega) (by dsimp only;omega) (Sub.cons I (Sub.cons I (Sub.cons I (Sub.cons I (Sub.cons I (Sub.consE I (by first|rw[oc (by omega),oc (by omega)]|rw[od (by omega),od (by omega)]|rw[od (by omega)]) (Si I))))))) (λ_ h=>h)
    .have hlis:lis l m.key=false:=by rw[hxl];exact oc (λe=>hz (by rw[e];exact DA _))
     refine Sb 56 true I (by first|exact od (by omega)|(simp;omega)) (Ah I (Cr I (Mv 3 I (Lq I (Ar i I U49 Z79 I hl.kp I I) (Lq I (AV i I G79 Z79 I I hl.kp hx) (l_e I (Ax (sz:=26) [.tmp 61] I I I I I U49 Z79 I zeroValue79 (by first|(simp[Value.cells,En.ko];done)|(simp[Value.cells];exact En.ko _)) (λb5=>AM (l_e I (Ap U49 U49 CK I (λ_ h=>AY (h.at 1 I) En.enc [x] I I) (by simp only[lp,kQ,ob];omega) (λv3=>Bt (show Da l m i++CY l m++[x]=Da l m (i+1) from by rw[h3];exact QC hlis (h3▸hx)) (AM (Av (Las I (AB (Aw (Kt (Cr I (Lm I (Lq I (Qi I) (Las I (AB ?_))))))))))))))))))))))
     exact AE ((i+1,v3)) (by dsimp only;omega) (by dsimp only;omega) (Sub.cons I (Sub.cons I (Sub.cons I (Sub.cons I (Sub.cons I (Sub.consE I (by first|rw[oc (by omega),oc (by omega)]|rw[od (by omega),od (by omega)]|rw[od (by omega)]) (Si I))))))) (λ_ h=>h)
  .have hc:=Ii hs (show Cd l m.key<=i by omega) hx
   have hc2:0<Bq x.key m.key:=by
    obtain⟨d,hd⟩:=gE l (Cd l m.key)
    have h4:=Ii hs (lJ _) hd
    have h5:=Px.1 hs _ _ d x h3 hd hx
    rcases Int.lt_trichotomy (Bq x.key m.key) 0 with h6|h6|h6
    .exact absurd h6 hc
    .have h7:=Lk hkx hkm h6
     rw[h7] at h5;exact absurd h5 h4
    .exact h6
   refine Sb 43 true I (by first|exact od (by omega)|(simp;omega)) (Mv 3 I (Nk (Sb 46 false I (by rw[od h3];rfl) (Aa I (Ae (Kt (Cs I (Mv 2 I (Nk (Sb 56 true I (by first|exact od (by omega)|(simp;omega)) (Ah I (Cr I (Mv 3 I (Lq I (Ar i I U49 Z79 I hl.kp I I) (Lq I (AV i I G79 Z79 I I hl.kp hx) (l_e I (Ax (sz:=26) [.tmp 61] I I I I I U49 Z79 I zeroValue79 (by first|(simp[Value.cells,En.ko];done)|(simp[Value.cells];exact En.ko _)) (λb6=>AM (l_e I (Ap U49 U49 CK I (λ_ h=>AY (h.at 1 I) En.enc [x] I I) (by simp only[lp,kQ,ob];omega) (λv2=>Bt (cH h3 hx) (AM (Av (Las I (AB (Aw (Kt (Cr I (Lm I (Lq I (Qi I) (Las I (AB ?_))))))))))))))))))))))))))))))))
   exact AE ((i+1,v2)) (by dsimp only;omega) (by dsimp only;omega) (Sub.cons I (Sub.cons I (Sub.cons I (Sub.cons I (Sub.cons I (Sub.consE I (by first|rw[oc (by omega),oc (by omega)]|rw[od (by omega),od (by omega)]|rw[od (by omega)]) (Si I))))))) (λ_ h=>h)
 .refine Aa I (AO (Ab (Ab (Am (Ks (Cs I (Mv 3 I ?_)))))))
  have hie:i=l.length:=by omega
  subst hie
  by_cases hpe:Cd l m.key<l.length
  .exact Sb 66 false I (by rw[od hpe];rfl) (Mv 2 I (Nk (Aa I (Ae (Kt (Cs I (Lm I (Ak I (Ag (Bt (YD hpe) (Pm [1] I (Av (AM (Av (AM (Av (Ao I I (λ_ h=>⟨v,rfl,T0,h⟩))))))))))))))))))
  .refine Sb 66 true I (by rw[oc hpe];rfl) (Mv 2 I (Nk (Pre.caseB 68 I (λhis=>?_) (λhis=>?_))))
   .rw[hrm] at his
    exact Ah I (Cr I (Lm I (Lfa B8 I Z77 I (Lq I (Cq (m.key.c) G77 Z77 3 I (Ms.kK _) (Kv.ko _)) (Lq I (Cq ((rap (AN l m.key).1 (AN l m.key).2 m).1.c) G56 Z56 1 I (Bb _) (Kv.ko _)) (Lq I (AP ((⟨m.key,(rap (AN l m.key).1 (AN l m.key).2 m).1⟩:En).c) I I (M6 _ _)) (l_e I (Ax (sz:=26) [.tmp 73] I I I I I U49 Z79 I zeroValue79 (by first|(simp[Value.cells,En.ko];done)|(simp[Value.cells];exact En.ko _)) (λb7=>AM (l_e I (Ap U49 U49 CK I (λ_ h=>AY (h.at 1 I) En.enc [(⟨m.key,(rap (AN l m.key).1 (AN l m.key).2 m).1⟩:En)] I I) (by simp only[lp,kQ,ob];omega) (λv2=>Bt (show _=Da l m l.length++CY l m from by rw[QD his,hrm]) (AM (Av (Ak I (Cs I (Lm I (Ak I (Ag (Bt (M5 (by omega)) (Pm [1] I (Av (AM (Av (AM (Av (Ao I I (λ_ h=>⟨v2,rfl,T0,h⟩))))))))))))))))))))))))))))
   .rw[hrm] at his
    exact Aa I (Ae (Kt (Cs I (Lm I (Ak I (Ag (Bt (show Da l m l.length=Da l m l.length++CY l m from by rw[TS his,nS]) (Bt (M5 (by omega)) (Pm [1] I (Av (AM (Av (AM (Av (Ao I I (λ_ h=>⟨v,rfl,T0,h⟩))))))))))))))))
theorem Ln {vb:Value} (la lb:List En) (hn:la.length<=1000):Con prog 23 [va,vb] (λw=>RdV w va En.enc la/\RdV w vb En.enc lb) [] (λ_:Unit=>.bool (decide (la=lb))) Tr (λ_=>[]):=by
 intro w hE hH
 obtain⟨ha,hb⟩:=hE
 refine E0 func23 I hH (Cs I (Ak I (Af (Cs I (Lm I (Lq I (AJ I U49 I ha.kp) (Lm I (Lq I (AJ I U49 I hb.kp) (Lq I (Qn I) (Nk (CB 10 I (λhl=>?_) (λhl=>?_))))))))))))
 .exact Ah I (Cs I (Ak I (Ag (Ac (Ao I I (λ_ h=>⟨(),congrArg Eb (oc (λe=>hl (by rw[e]))).symm,T0,h⟩))))))
 .refine Aa I (Ae (Ks (Cs I (Ak I (Aj ?_)))))
  refine A0 (λ(i:Nat)=>[(0,va),(1,vb),(5,.int .i64 (i:Int))]) (λ(i:Nat)=>St w [] []) (λ(i:Nat)=>i<=la.length/\la.take i=lb.take i) (λ(i:Nat)=>la.length-i) (0) ⟨lK _,rfl⟩ (Si I) Ih (λi hp=>Af (Af ?_))
  obtain⟨hi,ht⟩:=hp
  refine Cr I (Mv 2 I (Lq I (AJ I U49 I ha.kp) (Lq I (Ql I) (Nk (CB 14 I (λh1=>?_) (λh1=>?_))))))
  .obtain⟨x,hx⟩:=gE la i
   obtain⟨y,hy⟩:=gE lb i
   refine Ah I (Ae (Ks (Aj (Af (Do8 (rg 9) 13122 _ I St.drawn Ih (Md 2 I (Dq I (Ar i I U49 Z79 I ha.kp I I) (Dq I (AV i I G79 Z79 I I ha.kp hx) (Md 2 I (Dq I (Ar i I U49 Z79 I hb.kp I I) (Dq I (AV i I G79 Z79 I I hb.kp hy) (d_t I (e_q I I (iC (x) (y) I I I) (AL (Kt (CB 25 I (λhne=>?_) (λhne=>?_)))))))))))))))))
   .exact Ah I (Cs I (Ak I (Ag (As (Ac (Ac (As (Ac (Ao I I (λ_ h=>⟨(),congrArg Eb (oc (λe=>hne (by rw[e,hy] at hx;exact (Option.some.inj hx).symm))).symm,T0,h⟩))))))))))
   .refine Aa I (Ae (Aw (Kt (Cr I (Lm I (Lq I (Qi I) (Las I (AB ?_))))))))
    exact AE (i+1) (by omega) ⟨by omega,VC ht hx hy hne⟩ (Si I) (λ_ h=>h)
  .exact Aa I (AO (Ab (Ab (Am (Kt (Cs I (Ak I (Ag (Ao I I (λ_ h=>⟨(),congrArg Eb (od (by rw[lI (by omega),lI (by omega)] at ht;exact ht)).symm,T0,h⟩))))))))))
theorem Ans.v_part (a:Ans):(a.c.drop 2).take 17=a.v.c:=by
 unfold Ans.c;exact lI (by simp[Kv.ko])
theorem On (h:(8:Int)<o.key.size):BH o=true:=by unfold BH;rw[oc (show ¬o.key.size<=8 by omega)];rfl
theorem Oo (h:o.key.size<=8) (hk:o.kind=1):decide ((16:Int)<o.val.size)=BH o:=by
 unfold BH
 rw[od h,od hk]
 by_cases h2:o.val.size<=16
 .rw[od h2,oc (by omega)];rfl
 .rw[oc h2,od (by omega)];rfl
theorem Oq (h:o.key.size<=8) (hk:¬o.kind=1):false=BH o:=by unfold BH;rw[od h,oc hk];rfl
theorem Du (o:Opn):Con prog 64 [.agg o.c.toArray] Tr [] (λ_:Unit=>.bool (BH o)) Tr (λ_=>[]):=by
 intro w hE hH
 refine E0 func64 I hH (Cs I (l_e I (AT I I I I (λbo=>Ce o.c I (Ak I (Cs I (Lfa U43 I Z9 I (Lo G9 0 I (Lq I (FA I U9 I) (Lq I (BQ I I I) (Lm I (CB 7 I (λh1=>?_) (λh1=>?_)))))))))))))
 .exact Mv 10 I (Ak I (Ag (Ao I I (λ_ h=>⟨(),congrArg Eb (by first|exact (On (by omega)).symm|exact Oo (by omega) (by omega)|exact Oq (by omega) (by omega)),T0,h.kv⟩))))
 .refine Lfa U43 I Z3 I (Lo G3 0 I (Mv 2 I (CB 11 I (λh2=>?_) (λh2=>?_))))
  .exact Lfa U43 I Z9 I (Lo G9 0 I (Lq I (FA I U9 I) (Lq I (BQ I I I) (Mv 2 I (Ak I (Ag (Ao I I (λ_ h=>⟨(),congrArg Eb (by first|exact (On (by omega)).symm|exact Oo (by omega) (by omega)|exact Oq (by omega) (by omega)),T0,h.kv⟩))))))))
  .exact Mv 6 I (Ak I (Ag (Ao I I (λ_ h=>⟨(),congrArg Eb (by first|exact (On (by omega)).symm|exact Oo (by omega) (by omega)|exact Oq (by omega) (by omega)),T0,h.kv⟩))))
def Em (ops:List (List Opn)) (t nx:Nat):Opn:=(ops.getD t []).getD nx ⟨0,⟨#[]⟩,⟨#[]⟩,0,by decide,by decide⟩
def OpIn (ops:List (List Opn)) (t nx:Nat):Prop:=∃lo o,ops[t]?=some lo/\lo[nx]?=some o/\(o.kind=1\/o.kind=2\/o.kind=3\/o.kind=4)
structure AnsOk (o:Opn) (a:Ans):Prop where
 t:decide (a.code=2)=BH o
 c:a.code=0\/a.code=2\/a.code=3/\o.kind≠4
 f:a.f=true->o.kind=4/\a.code=0
 v:vck a.v=true
 z:a.f=true\/a.v=kv0 16
theorem AnsOk.wf {a:Ans} (h:AnsOk o a):(Lit.int .i64 a.code).wf=true:=by
 rcases h.c with e|e|⟨e,_⟩<;>rw[e]<;>decide
inductive EvS (ops:List (List Opn)) (s:List (Nat×Bool)):Evt->List (Nat×Bool)->Prop
 |b (t nx:Nat) (h:s[t]?=some (nx,false)) (ho:OpIn ops t nx):EvS ops s ⟨(t:Int),(nx:Int),false,BC⟩ (s.set t (nx,true))
 |d (t nx:Nat) (a:Ans) (h:s[t]?=some (nx,true)) (ho:OpIn ops t nx) (ha:AnsOk (Em ops t nx) a):EvS ops s ⟨(t:Int),(nx:Int),true,a⟩ (s.set t (nx+1,false))
inductive Pth (ops:List (List Opn)):List (Nat×Bool)->List Evt->List (Nat×Bool)->Prop
 |nil (s:List (Nat×Bool)):Pth ops s [] s
 |cons {s s1 s2:List (Nat×Bool)} {e:Evt} {ev:List Evt} (h:EvS ops s e s1) (r:Pth ops s1 ev s2):Pth ops s (e::ev) s2
theorem QE (o:Opn) (a:Ans) (ha:AnsOk o a) (hk:1<=o.kind/\o.kind<=4):Con prog 114 [.agg o.c.toArray,.agg a.c.toArray] Tr [] (λ_:Unit=>.bool true) Tr (λ_=>[]):=by
 intro w hE hH
 obtain⟨h1,h4⟩:=hk
 refine E0 func114 I hH ?_
 refine Cs I (l_e I (AT I I I I (λbo=>Ce o.c I (l_e I (AT I I I I (λba=>Ce a.c I (Ak I (Af (Af (Do8 (rg 16) 39858075 _ I St.drawn Ih (Dfa U43 I Z3 I (Dq I (Al I G3 I (Hat 1 I) I) (Md 2 I (Sf 8 I (by omega) (Dfa U43 I Z3 I (Dq I (Al I G3 I (Hat 1 I) I) (Dq I (BQ I I I) (Md 2 I (Sf 13 I (by omega) (Dfa U58 I Z44 I (Dq I (Al I G44 I (Hat 0 I) I) (Dq I (Qe I) (Dq I (Cq (o.c) G43 Z43 1 I (I) (I)) (d_e I (E1 (Du o) I call64 Tt (λ_ _=>Ai Ih (d_t I (e_q I I (ir I underlying4 I I) (d_t I (e_q I I (Qz I) (AL (Kt (Sb 20 false I (by rw[ha.t];simp) (Aa I (Ae (Ks (Cs I (Lfa U58 I Z44 I (Lo G44 0 I (Mv 2 I ?_))))))))))))))))))))))))))))))))))))))))
 refine Pre.caseB 24 I (λhc0=>?_) (λhc0=>?_)
 .try simp only[nr,Bool.not_eq_false',mS,m5] at hc0
  have hf:a.f=false:=by cases hf:a.f with|false=>rfl|true=>exact absurd (ha.f hf).2 hc0
  refine Lfa U58 I Z44 I (Lo G44 0 I (Mv 3 I (Pre.caseB 29 I (λhc2=>?_) (λhc2=>?_))))
  .try simp only[nr,Bool.not_eq_false',mS,m5] at hc2
   obtain⟨hc3,hk4⟩:=(ha.c.resolve_left hc0).resolve_left hc2
   refine Lfa U58 I Z44 I (Lo G44 0 I (Mv 2 I (Sb 33 false I (by rw[hc3];rfl) (Lfa U43 I Z3 I (Lo G3 1 I (Mv 3 I (Nk (Sf 38 I hk4 (Aa I (Ae (Ks (Cs I (Lfa U58 I Z4 I (Lo G4 0 I (Lm I (Sb 41 false I (by rw[hf]) (Mv 4 I ?_)))))))))))))))))
   exact Mv 5 I (Nk (Aa I (Ae (Kt (Cs I (Lfa U58 I Z56 I (Lq I (Cq (a.v.c) G56 Z56 0 I (Ans.v_part _) (Kv.ko _)) (l_e I (E1 (DV a.v) I call61 Tt (λ_ _=>Lm I (Sb 54 true I (ha.v) (Lfa U58 I Z4 I (Lo G4 0 I (Lm I (Sb 57 false I (by rw[hf]) (Lfa U58 I Z56 I (Lq I (Cq (a.v.c) G56 Z56 0 I (Ans.v_part _) (Kv.ko _)) (Lq I (AP ((kv0 16).c) I I (λw=>by kernel_rfl)) (Lq I (Ku (a.v) ((kv0 16)) I I I) (Mv 2 I (Ak I (Ag (Ao I I (λ_ h=>⟨(),congrArg Eb (od (ha.z.resolve_left (by rw[hf];decide))),T0,h.kv⟩))))))))))))))))))))))))
  .try simp only[nr,Bool.not_eq_false',mS,m5] at hc2
   refine Mv 9 I (Nk (Aa I (Ae (Ks (Cs I (Lfa U58 I Z4 I (Lo G4 0 I (Lm I (Sb 41 false I (by rw[hf]) (Mv 6 I ?_))))))))))
   exact Mv 3 I (Nk (Aa I (Ae (Kt (Cs I (Lfa U58 I Z56 I (Lq I (Cq (a.v.c) G56 Z56 0 I (Ans.v_part _) (Kv.ko _)) (l_e I (E1 (DV a.v) I call61 Tt (λ_ _=>Lm I (Sb 54 true I (ha.v) (Lfa U58 I Z4 I (Lo G4 0 I (Lm I (Sb 57 false I (by rw[hf]) (Lfa U58 I Z56 I (Lq I (Cq (a.v.c) G56 Z56 0 I (Ans.v_part _) (Kv.ko _)) (Lq I (AP ((kv0 16).c) I I (λw=>by kernel_rfl)) (Lq I (Ku (a.v) ((kv0 16)) I I I) (Mv 2 I (Ak I (Ag (Ao I I (λ_ h=>⟨(),congrArg Eb (od (ha.z.resolve_left (by rw[hf];decide))),T0,h.kv⟩))))))))))))))))))))))))
 .try simp only[nr,Bool.not_eq_false',mS,m5] at hc0
  refine Mv 14 I (Nk (Aa I (Ae (Ks (Cs I (Lfa U58 I Z4 I (Lo G4 0 I (Lm I (Pre.caseB 41 I (λhf=>?_) (λhf=>?_))))))))))
  .exact Lfa U43 I Z3 I (Lo G3 1 I (Mv 2 I (Sb 45 false I (by rw[(ha.f hf).1];rfl) (Lfa U58 I Z44 I (Lo G44 0 I (Mv 3 I (Nk (Sb 50 false I (by rw[hc0];rfl) (Aa I (Ae (Kt (Cs I (Lfa U58 I Z56 I (Lq I (Cq (a.v.c) G56 Z56 0 I (Ans.v_part _) (Kv.ko _)) (l_e I (E1 (DV a.v) I call61 Tt (λ_ _=>Lm I (Sb 54 true I (ha.v) (Lfa U58 I Z4 I (Lo G4 0 I (Lm I (Sb 57 true I (hf) (Mv 6 I (Ak I (Ag (Ao I I (λ_ h=>⟨(),rfl,T0,h.kv⟩)))))))))))))))))))))))))))
  .exact Mv 9 I (Nk (Aa I (Ae (Kt (Cs I (Lfa U58 I Z56 I (Lq I (Cq (a.v.c) G56 Z56 0 I (Ans.v_part _) (Kv.ko _)) (l_e I (E1 (DV a.v) I call61 Tt (λ_ _=>Lm I (Sb 54 true I (ha.v) (Lfa U58 I Z4 I (Lo G4 0 I (Lm I (Sb 57 false I (hf) (Lfa U58 I Z56 I (Lq I (Cq (a.v.c) G56 Z56 0 I (Ans.v_part _) (Kv.ko _)) (Lq I (AP ((kv0 16).c) I I (λw=>by kernel_rfl)) (Lq I (Ku (a.v) ((kv0 16)) I I I) (Mv 2 I (Ak I (Ag (Ao I I (λ_ h=>⟨(),congrArg Eb (od (ha.z.resolve_left (by rw[hf];decide))),T0,h.kv⟩))))))))))))))))))))))))
structure Ca where
 client:Int
 index:Int
 op:Opn
 from':Int
 to':Int
 a:Ans
namespace Ca
def c (e:Ca):List Value:=[.int .i64 e.client,.int .i64 e.index]++(e.op.c++([.int .i64 e.from',.int .i64 e.to']++e.a.c))
theorem ko (e:Ca):e.c.length=27:=by simp[c,Ans.ko,Opn.c]
theorem one (e:Ca):∀v∈e.c,v.oneCell'=true:=by
 intro v hv
 rcases mT.1 hv with hv|hv
 .simp only[kN,nt,nu] at hv
  rcases hv with rfl|rfl<;>rfl
 rcases mT.1 hv with hv|hv
 .exact Opn.one _ _ hv
 rcases mT.1 hv with hv|hv
 .simp only[kN,nt,nu] at hv
  rcases hv with rfl|rfl<;>rfl
 .exact Ans.one _ _ hv
theorem a_part (e:Ca):(e.c.drop 8).take 19=e.a.c:=by
 show (e.a.c).take 19=_
 exact lI (by rw[Ans.ko];exact lJ _)
def enc:Enc Ca:={sz:=27,f:=Ca.c,len:=ko,pos:=by decide,one:=one}
end Ca
def bef (a b:Ca):Bool:=decide (0<=a.to')&&decide (a.to'<b.from')
theorem VD (a b:Ca):Con prog 30 [.agg a.c.toArray,.agg b.c.toArray] Tr [] (λ_:Unit=>.bool (bef a b)) Tr (λ_=>[]):=by
 intro w hE hH
 refine E0 func30 I hH (Cs I (l_e I (AT I I I I (λba=>Ce a.c I (l_e I (AT I I I I (λbb=>Ce b.c I (Ak I (Cs I (Lfa U60 I Z3 I (Lo G3 1 I (Mv 2 I (CB 8 I (λh1=>?_) (λh1=>?_))))))))))))))
 .exact Lfa U60 I Z3 I (Lo G3 1 I (Lfa U60 I Z3 I (Lo G3 0 I (Mv 2 I (Ak I (Ag (Ao I I (λ_ h=>⟨(),congrArg Eb (by simp[bef,h1]),T0,h.kv⟩))))))))
 .exact Mv 6 I (Ak I (Ag (Ao I I (λ_ h=>⟨(),congrArg Eb (by simp[bef];omega),T0,h.kv⟩))))
def Ans.ks:List Sc:=[Sc.i .i64,Sc.b]++Kv.ks 16
theorem Ans.kinds {a:Ans} (h:(Lit.int .i64 a.code).wf):Kinds Ans.ks a.c:=by
 refine EX ⟨rfl,λj k v h1 h2=>?_⟩ (Kv.kinds a.v)
 match j with
 |0=>cases h1;cases h2;exact⟨_,rfl,h⟩
 |1=>cases h1;cases h2;exact⟨_,rfl⟩
 |j+2=>simp at h1
theorem Ans.c_inj {a b:Ans}:a.c=b.c↔(a.code=b.code/\a.f=b.f/\a.v=b.v):=by
 constructor
 .intro h
  simp only[Ans.c,kP,mw,List.cons.injEq,Value.int.injEq,Value.bool.injEq,true_and] at h
  exact⟨h.1,h.2.1,Kv.c_inj.1 h.2.2⟩
 .rintro⟨h1,h2,h3⟩
  unfold Ans.c;rw[h1,h2,h3]
section
variable {n:Nat} {L:Env} {X:World->Prop} {o:Oper}
theorem gy {x:Operand} (a:Ans) (ha:(Lit.int .i64 a.code).wf) (ho:o.op=.binOp .neq 58 x y u) (hx:ev L x=some (.agg a.c.toArray)) (hy:ev L y=some (.agg BC.c.toArray)):QOp prog n L X o (.bool (!decide (a.code=BC.code/\a.f=BC.f/\a.v=BC.v))) :=
 NI (d:=4) (ks:=Ans.ks) _ (by kernel_rfl) (by kernel_rfl) (by decide) (by kernel_rfl) (by kernel_rfl) (by kernel_rfl) ho hx hy (Ans.kinds ha) (Ans.kinds (by decide)) (by rw[Ans.c_inj,mS])
end
theorem Evt.a_part (e:Evt):(e.c.drop 3).take 19=e.a.c:=by
 unfold Evt.c;exact lI (by simp[Ans.ko])
theorem Pth.next {ops:List (List Opn)} {s e:List (Nat×Bool)} {l:List Evt} (h:Pth ops s (l.drop i) e) (hx:l[i]?=some x):∃s',EvS ops s x s'/\Pth ops s' (l.drop (i+1)) e:=by
 rw[kV (lR.1 hx).1,(lR.1 hx).2] at h
 cases h with
 |cons h r=>exact⟨_,h,r⟩
theorem OpIn.at' {ops:List (List Opn)} {t nx:Nat} (h:OpIn ops t nx):∃lo,ops[t]?=some lo/\lo[nx]?=some (Em ops t nx)/\1<=(Em ops t nx).kind/\(Em ops t nx).kind<=4:=by
 obtain⟨lo,o,h1,h2,h3⟩:=h
 have e:Em ops t nx=o:=by
  unfold Em
  rw[om,om,h1]
  show (lo[nx]?).getD _=o
  rw[h2];rfl
 rw[e];exact⟨lo,h1,h2,by omega,by omega⟩
abbrev Mc (s:List (Nat×Bool)):List Int:=s.map (λp=>((p.1+if p.2=true then 1 else 0:Nat):Int))
abbrev Me (s:List (Nat×Bool)):List Int:=s.map (λp=>((p.1:Nat):Int))
structure EvF (ops:List (List Opn)) (s s':List (Nat×Bool)) (x:Evt) (c k kb:Nat) (lo:List Opn) (o:Opn):Prop where
 cl:x.cl=(c:Int)
 ix:x.ix=(k:Int)
 hlo:ops[c]?=some lo
 ho:lo[k]?=some o
 k4:1<=o.kind/\o.kind<=4
 d:(Me s)[c]?=some (k:Int)
 b:(Mc s)[c]?=some (kb:Int)
 yes:x.d=true->kb=k+1/\AnsOk o x.a/\Mc s'=Mc s/\Me s'=(Me s).set c ((k+1:Nat):Int)
 no:x.d=false->k=kb/\x.a=BC/\Mc s'=(Mc s).set c ((k+1:Nat):Int)/\Me s'=Me s
theorem EvS.len {ops:List (List Opn)} {s:List (Nat×Bool)} (h:EvS ops s x s'):s'.length=s.length:=by cases h<;>exact nU ..
theorem EvS.f {ops:List (List Opn)} {s:List (Nat×Bool)} (h:EvS ops s x s'):∃c k kb lo o,EvF ops s s' x c k kb lo o:=by
 have same:∀{f:Nat×Bool->Int} {t:Nat} {p q:Nat×Bool},s[t]?=some p->f q=f p->(s.set t q).map f=s.map f:=λ{f t p q} h e=>by
  apply lY
  intro i
  rw[lS,lS,oC]
  split
  .rename_i h1
   subst h1
   rw[lu (lR.1 h).1,h]
   exact congrArg some e
  .rfl
 cases h with
 |b t nx h ho =>
  obtain⟨lo,h1,h2,h3⟩:=ho.at'
  exact⟨t,nx,nx,lo,_,rfl,rfl,h1,h2,h3,by unfold Me;rw[lS,h];rfl,by unfold Mc;rw[lS,h];rfl,λe=>(by cases e),λ_=>⟨rfl,rfl,m4 ..,same h rfl⟩⟩
 |d t nx a h ho ha =>
  obtain⟨lo,h1,h2,h3⟩:=ho.at'
  exact⟨t,nx,nx+1,lo,_,rfl,rfl,h1,h2,h3,by unfold Me;rw[lS,h];rfl,by unfold Mc;rw[lS,h];rfl,λ_=>⟨rfl,ha,same h rfl,m4 ..⟩,λe=>(by cases e)⟩
theorem QF {s:List (Nat×Bool)} (h:∀p∈s,p=(0,false)) {f:Nat×Bool->Int} (hf:f (0,false)=0) {n:Nat} (hn:s.length=n):List.replicate n (0:Int)=s.map f:=by
 subst hn
 induction s with
 |nil=>rfl
 |cons p s ih =>
  rw[ma,<-ih (λq hq=>h q (nG _ hq)),h p (ns ..),hf];rfl
theorem R4 (l:List Evt) (vs:List Sv) (ops:List (List Opn)) (hn:l.length<=65536) (hk:ops.length<=65536) (hm:∀o∈ops,o.length<=65536) {s0 s1:List (Nat×Bool)} (hp:Pth ops s0 l s1) (h0:∀p∈s0,p=(0,false)) (hs0:s0.length=ops.length):Con prog 66 [va,vo] (λw=>RdV w va Evt.enc l/\RRo w vo vs ops) [] (λ_:Unit=>.bool true) Tr (λ_=>[]):=by
 intro w hE hH
 obtain⟨hl,hO⟩:=hE
 have hvl:=hO.len
 refine E0 func66 I hH (Cs I (Ak I (Cs I (Lm I (Lq I (AJ I U25 I hO.o.kp) (l_e I (BR (AH .i64) 0 vs.length I I I U22 EA I I I I I I I (by simp only[eH];omega) (by omega) (λvb=>Ak I (Cs I (Lm I (Lq I (AJ I U25 I hO.o.kp) (l_e I (BR (AH .i64) 0 vs.length I I I U22 EA I I I I I I I (by simp only[eH];omega) (by omega) (λvd=>Ak I (Af (Cs I (Ak I (Aj (AM ?_)))))))))))))))))))
 refine Pre.world (St w [] [AA vb 3 (AH .i64) (Mc s0),AA vd 3 (AH .i64) (Me s0)]) (λ_ h=>by have e1:=QF h0 (f:=λp=>((p.1+if p.2=true then 1 else 0:Nat):Int)) I (n:=vs.length) (by omega);have e2:=QF h0 (f:=λp=>((p.1:Nat):Int)) I (n:=vs.length) (by omega);show St w [] [AA vb 3 (AH .i64) (List.map _ s0),AA vd 3 (AH .i64) (List.map _ s0)] _;rw[<-e1,<-e2];exact h) ?_
 refine Cy (λ(i:Nat) (s:List (Nat×Bool))=>[(0,va),(1,vo),(5,vb),(6,vd),(7,.int .i64 (i:Int))]) (λ(i:Nat) (s:List (Nat×Bool))=>St w [] [AA vb 3 (AH .i64) (Mc s),AA vd 3 (AH .i64) (Me s)]) (λ(i:Nat) (s:List (Nat×Bool))=>i<=l.length/\s.length=ops.length/\Pth ops s (l.drop i) s1) (λ(i:Nat) (s:List (Nat×Bool))=>l.length-i) (0) (s0) ⟨lK _,hs0,hp⟩ (Si I) Ih (λi s hpp=>Af (Af ?_))
 obtain⟨hi,hsl,hpi⟩:=hpp
 have hbl:(Mc s).length=s.length:=mB ..
 have hdl:(Me s).length=s.length:=mB ..
 refine Cr I (Mv 2 I (Lq I (AJ I U34 I hl.kp) (Lq I (Ql I) (Nk (CB 20 I (λh1=>?_) (λh1=>?_))))))
 .obtain⟨x,hx⟩:=gE l i
  obtain⟨s',he,hnx⟩:=hpi.next hx
  have hsl2:=he.len
  obtain⟨c,k,kb,lo,o,hc,hxk,hlo,ho,hk4,hkd,hkb,hyes,hno⟩:=he.f
  have hclt:=(lR.1 hlo).1
  have hklt:=(lR.1 ho).1
  have hlm:=hm lo (mQ hlo)
  obtain⟨sl,hs⟩:∃s,vs[c]?=some s:=⟨_,kY (by omega)⟩
  have hrd:=hO.i c sl lo hs hlo
  refine Ah I (Ae (Ks (Aj (Cs I (Mv 2 I (Lq I (Ar i I U34 Z71 I hl.kp I I) (Lfa U71 I Z3 I (Lq I (AI i 0 I G3 I I hl.kp hx I) (Ak I (Af (Cs I (Mv 3 I (Sf 30 I (by omega) (Mv 2 I (Lq I (AJ I U25 I hO.o.kp) (Mv 2 I (Nk (Sv' 8 (.int .i64 (c:Int)) I (by rw[hc]) ?_))))))))))))))))))
  refine Sf 35 I (by omega) (Aa I (Ae (Kt (Cs I (Mv 2 I (Lq I (Ar c I U22 Z3 I (Hrd 0 I) I I) (Lq I (AI c 0 I G3 I I (Hrd 0 I) hkb I) (Ak I (Af (Cs I (Mv 2 I (Lq I (Ar i I U34 Z71 I hl.kp I I) (Lfa U71 I Z4 I (Lq I (AI i 2 I G4 I I hl.kp hx I) (Nk (Pre.caseB 44 I (λhd=>?_) (λhd=>?_)))))))))))))))))
  .obtain⟨rfl,hans,hb2,hd2⟩:=hyes hd
   refine Ah I (Cr I (Mv 2 I (Lq I (Ar c I U22 Z3 I (Hrd 1 I) I I) (Lq I (AI c 0 I G3 I I (Hrd 1 I) hkd I) (Ak I (Af (Cs I (Mv 2 I (Lq I (Ar i I U34 Z71 I hl.kp I I) (Lfa U71 I Z3 I (Lq I (AI i 1 I G3 I I hl.kp hx I) (Mv 3 I (Sb 56 false I (by rw[hxk];simp) (Mv 3 I (Lq I (Ar c I U25 Z40 I hO.o.kp I I) (Lq I (AI c 0 I G40 I I hO.o.kp hs I) (Lq I (AJ I U40 I hrd.kp) ?_)))))))))))))))))
   refine Mv 2 I (Nk (Sf 64 I (by omega) (Aa I (Ae (Kt (Cs I (Mv 2 I (Lq I (Ar c I U25 Z40 I hO.o.kp I I) (Lq I (AI c 0 I G40 I I hO.o.kp hs I) (Lm I (Lq I (Ar k I U40 Z43 I hrd.kp I I) (Lq I (AV k I G43 Z43 I I hrd.kp ho) (l_e I (Au I I I zeroValue43 (λbo=>l_e I (SW Z43 I (Opn.one _) (Ns (Cs I (Mv 2 I (Lq I (Ar i I U34 Z71 I hl.kp I I) (Lfa U71 I Z4 I (Lq I (AI i 2 I G4 I I hl.kp hx I) (Nk (Sb 76 true I (hd) (Ah I (Af (Af (Do8 (rg 19) 1119214746 _ I St.drawn Ih (Md 2 I (Dq I (Ar c I U22 Z3 I (Hrd 2 I) I I) (Dq I (AI c 0 I G3 I I (Hrd 2 I) hkd I) (Md 2 I (Dq I (Ar c I U22 Z3 I (Hrd 1 I) I I) (Dq I (AI c 0 I G3 I I (Hrd 1 I) hkb I) ?_))))))))))))))))))))))))))))))))))
   refine Md 2 I (Sf 86 I (by omega) (Dq I (Cq (o.c) G43 Z43 0 I (I) (I)) (Md 2 I (Dq I (Ar i I U34 Z71 I hl.kp I I) (Dfa U71 I Z58 I (Dq I (Ez i 3 I G58 Z58 I I hl.kp hx (by decide)) (Sv' 92 (.agg x.a.c.toArray) I (by show Value.agg (((Evt.c x).drop 3).take 19).toArray=_;rw[Evt.a_part]) (d_t I (E1 (QE o x.a hans hk4) I call114 Tt (λ_ _=>d_t I (e_q I I (Qt I) (d_t I (e_q I I (Qz I) (AL (Kt (Sb 95 false I (I) (Aa I (Ae (Kt (Cs I (Mv 2 I (Lq I (Ar c I U22 Z3 I (Hrd 2 I) I I) (Lq I (AI c 0 I G3 I I (Hrd 2 I) hkd I) (Lq I (Qi I) (Lq I (Ar c I U22 Z3 I (Hrd 2 I) I I) (AX (l_e I ?_)))))))))))))))))))))))))))
   refine Ct c 0 (((k+1:Nat):Int)) I I Z3 I I I (kY (by omega)) (by decide) I ?_
   refine Nk (AO (Ab (Am (Kt (Cr I (Lm I (Lq I (Qi I) (Las I (AB (AM (Av (AM ?_))))))))))))
   exact AE ((i+1,s')) (by dsimp only;omega) ⟨by dsimp only;omega,by dsimp only;omega,hnx⟩ (Si I) (λ_ h=>by dsimp only;rw[hb2,hd2];exact h)
  .obtain⟨rfl,hans,hb2,hd2⟩:=hno hd
   refine Aa I (Ae (Ks (Cs I (Mv 2 I (Lq I (Ar i I U34 Z71 I hl.kp I I) (Lfa U71 I Z3 I (Lq I (AI i 1 I G3 I I hl.kp hx I) (Mv 3 I (Sb 56 false I (by rw[hxk];simp) (Mv 3 I (Lq I (Ar c I U25 Z40 I hO.o.kp I I) (Lq I (AI c 0 I G40 I I hO.o.kp hs I) (Lq I (AJ I U40 I hrd.kp) (Mv 2 I (Nk (Sf 64 I (by omega) (Aa I ?_)))))))))))))))))
   refine Ae (Kt (Cs I (Mv 2 I (Lq I (Ar c I U25 Z40 I hO.o.kp I I) (Lq I (AI c 0 I G40 I I hO.o.kp hs I) (Lm I (Lq I (Ar k I U40 Z43 I hrd.kp I I) (Lq I (AV k I G43 Z43 I I hrd.kp ho) (l_e I (Au I I I zeroValue43 (λbo=>l_e I (SW Z43 I (Opn.one _) (Ns (Cs I (Mv 2 I (Lq I (Ar i I U34 Z71 I hl.kp I I) (Lfa U71 I Z4 I (Lq I (AI i 2 I G4 I I hl.kp hx I) (Nk (Sb 76 false I (hd) (Aa I (Ae (Ks (Af (Do8 (rg 28) 22876749408240 _ I St.drawn Ih (Md 2 I (Dq I (Ar c I U22 Z3 I (Hrd 2 I) I I) (Dq I (AI c 0 I G3 I I (Hrd 2 I) hkd I) (Md 2 I (Dq I (Ar c I U22 Z3 I (Hrd 1 I) I I) ?_))))))))))))))))))))))))))))))
   refine Dq I (AI c 0 I G3 I I (Hrd 1 I) hkb I) (Md 2 I (Sb 111 false I (by simp) (Md 2 I (Dq I (Ar i I U34 Z71 I hl.kp I I) (Dfa U71 I Z58 I (Dq I (Ez i 3 I G58 Z58 I I hl.kp hx (by decide)) (Dq I (AP (BC.c) I I (λw=>by kernel_rfl)) (Sv' 116 (.agg BC.c.toArray) I (by show Value.agg (((Evt.c x).drop 3).take 19).toArray=_;rw[Evt.a_part,hans]) (d_t I (e_q I I (gy BC (by decide) I I I) (d_t I (e_q I I (Qz I) (d_t I (e_q I I (Bi I I) (Sb 120 false I (by first|exact oc (by omega)|decide|(simp;done)|(simp;omega)) (d_t I (e_q I I (Ba I U43 I Z3 I I) (d_t I (e_q I I (Al I G3 I (Hat 0 I) I) (d_t I (e_q I I (Ql I) ?_)))))))))))))))))))))
   refine d_t I (e_q I I (Qz I) (d_t I (e_q I I (Bi I I) (Sb 125 false I (by first|exact oc (by omega)|decide|(simp;done)|(simp;omega)) (d_t I (e_q I I (Ba I U43 I Z3 I I) (d_t I (e_q I I (Al I G3 I (Hat 0 I) I) (d_t I (e_q I I (BQ I I I) (d_t I (e_q I I (Qz I) (AL (Kt (Sb 129 false I (by first|exact oc (by omega)|decide|(simp;done)|(simp;omega)) (Aa I (Ae (Kt (Cr I (Mv 2 I (Lq I (Ar c I U22 Z3 I (Hrd 1 I) I I) (Lq I (AI c 0 I G3 I I (Hrd 1 I) hkb I) ?_))))))))))))))))))))))
   refine Lq I (Qi I) (Lq I (Ar c I U22 Z3 I (Hrd 1 I) I I) (AM (l_e I (Ct c 0 (((k+1:Nat):Int)) I I Z3 I I I (kY (by omega)) (by decide) I ?_))))
   refine AB (Aw (Kt (Cr I (Lm I (Lq I (Qi I) (Las I (AB (AM (Av ?_)))))))))
   exact AE ((i+1,s')) (by dsimp only;omega) ⟨by dsimp only;omega,by dsimp only;omega,hnx⟩ (Si I) (λ_ h=>by dsimp only;rw[hb2,hd2];exact h)
 .exact Aa I (AO (Ab (Ab (Am (Kt (Cs I (Ak I (Ag (Ao I I (λ_ h=>⟨(),rfl,T0,h.kv⟩))))))))))
def gz (ops:List (List Opn)) (e:Evt):Opn:=(ops.getD e.cl.toNat []).getD e.ix.toNat ⟨0,⟨#[]⟩,⟨#[]⟩,0,by decide,by decide⟩
def JN (ops:List (List Opn)) (i:Nat) (e:Evt):Ca:=⟨e.cl,e.ix,gz ops e,i,-1,BC⟩
def toC (c:Ca) (i:Nat):Ca:={c with to':=(i:Int)}
def CU (i:Nat) (e:Evt) (c:Ca):Ca:=if c.client=e.cl/\c.index=e.ix then {toC c i with a:=e.a} else c
def Lp (ops:List (List Opn)) (l:List Ca) (i:Nat) (e:Evt):List Ca:=if e.d=true then l.map (CU i e) else l++[JN ops i e]
def Bo (ops:List (List Opn)) (evs:List Evt):Nat->List Ca
 |0=>[]
 |i+1=>match evs[i]? with|some e=>Lp ops (Bo ops evs i) i e|none=>Bo ops evs i
theorem HY {ops:List (List Opn)} {evs:List Evt} (h:evs[i]?=some x):Bo ops evs (i+1)=Lp ops (Bo ops evs i) i x:=by simp only[Bo,h]
theorem M7 (ops:List (List Opn)) (evs:List Evt):∀i,(Bo ops evs i).length<=i
 |0=>lJ _
 |i+1=>by
  have ih:=M7 ops evs i
  simp only[Bo]
  split
  .unfold Lp
   split
   .rw[mB];omega
   .rw[lp];simp;omega
  .omega
theorem gA (c:Ca) (i:Nat):(Ca.c c).set 7 (.int .i64 (i:Int))=Ca.c (toC c i):=rfl
theorem gB (c:Ca) (a:Ans):Sep.splice (Ca.c c) 8 (Ans.c a)=Ca.c {c with a:=a}:=by
 have e:∀c:Ca,Ca.c c=([.int .i64 c.client,.int .i64 c.index]++(c.op.c++[.int .i64 c.from',.int .i64 c.to']))++(c.a.c++[]):=λc=>by simp[Ca.c,mj]
 rw[e,e]
 exact Sep.splice_mid (a:=[.int .i64 c.client,.int .i64 c.index]++(c.op.c++[.int .i64 c.from',.int .i64 c.to'])) (b:=c.a.c) (c:=[]) (vs:=a.c) (k:=8) I (by rw[Ans.ko,Ans.ko])
def YF (ops:List (List Opn)) (l:List Evt):Prop:=∀x∈l,(Lit.int .i64 x.a.code).wf=true/\∃(c k:Nat) (lo:List Opn) (o:Opn),x.cl=(c:Int)/\x.ix=(k:Int)/\ops[c]?=some lo/\lo[k]?=some o/\gz ops x=o
theorem J5 {l:List α} {c:Nat} {x:α} (h:l[c]?=some x):l.set c x=l:=by
 refine lY (λj=>?_)
 rw[oC]
 split
 .rename_i hj;subst hj;have:=(lR.1 h).1;rw[lu this,h]
 .rfl
theorem YG {f:Ca->Ca} {l:List Ca} {y:Ca} (h:l[j]?=some y):((l.take j).map f++l.drop j).set j (f y)=(l.take (j+1)).map f++l.drop (j+1):=by
 have hj:=(lR.1 h).1
 have hd:l.drop j=y::l.drop (j+1):=by
  rw[<-(lR.1 h).2];exact kV hj
 rw[hd,m6 _ _ (by rw[mB,k9];omega),mB,k9,show j-min j l.length=0 from by omega,nT,h,mn]
 simp[mj]
theorem YH {b:Bool} (h1:b=true->Q) (h2:b=false->Q):Q:=by cases b;exact h2 rfl;exact h1 rfl
theorem bca (a b:Int) (o:Opn) (i:Nat) (w:World):(Instr.build 60 #[(0,.int .i64 a),(1,.int .i64 b),(2,.agg o.c.toArray),(3,.int .i64 (i:Int)),(4,.int .i64 (-1))]).run prog w=.ok (.agg (Ca.c ⟨a,b,o,(i:Int),-1,BC⟩).toArray) w:=by kernel_rfl
theorem QG (l:List Evt) (vs:List Sv) (ops:List (List Opn)) (hn:l.length<=65536) (hk:ops.length<=65536) (hm:∀o∈ops,o.length<=65536) {s0 s1:List (Nat×Bool)} (hp:Pth ops s0 l s1) (h0:∀p∈s0,p=(0,false)) (hs0:s0.length=ops.length) (hW:YF ops l):Con prog 29 [va,vo] (λw=>RdV w va Evt.enc l/\RRo w vo vs ops) [] (λv:Value=>v) Tr (λv=>[AA v 60 Ca.enc (Bo ops l l.length)]):=by
 intro w hE hH
 obtain⟨hl,hO⟩:=hE
 have hvl:=hO.len
 refine E0 func29 I hH (Cs I (Ak I (Cs I (Ak I (Af (Cs I (Mv 2 I (row0 60 Ca.enc none (l_e I (E1 (R4 l vs ops hn hk hm hp h0 hs0) I call66 (λ_ h=>⟨hl.keep h (by simp[dom]),hO.keep h⟩) (λ_ _=>Lq I (Qt I) (Nk (Sb 12 false I (I) (Aa I (Ae (Ks (Cs I (Ak I (Aj ?_)))))))))))))))))))
 refine Cy (λ(i:Nat) (v:Value)=>[(0,va),(1,vo),(5,v),(6,.int .i64 (i:Int))]) (λ(i:Nat) (v:Value)=>St w [] [AA v 60 Ca.enc (Bo ops l i)]) (λ(i:Nat) (v:Value)=>i<=l.length) (λ(i:Nat) (v:Value)=>l.length-i) (0) (.slice none 0 0) (lK _) (Si I) Ih (λi v hi=>Af (Af ?_))
 have hcl:=M7 ops l i
 refine Cr I (Mv 2 I (Lq I (AJ I U34 I hl.kp) (Lq I (Ql I) (Nk (CB 17 I (λh1=>?_) (λh1=>?_))))))
 .obtain⟨x,hx⟩:=gE l i
  have hcs:=HY (ops:=ops) hx
  obtain⟨_,c,k,lo,o,hc,hxk,hlo,ho,hop⟩:=hW x (mQ hx)
  have hclt:=(lR.1 hlo).1
  have hklt:=(lR.1 ho).1
  obtain⟨s,hs⟩:=gE vs c
  have hrd:=hO.i c s lo hs hlo
  refine Ah I (Ae (Ks (Aj (Cs I (Mv 2 I (Lq I (Ar i I U34 Z71 I hl.kp I I) (Lq I (AV i I isAgg71 Z71 I I hl.kp hx) (l_e I (Au I I I zeroValue71 (λbe=>l_e I (Az I I Z71 I I (Evt.ko _) (Evt.one _) (by show 0+(Evt.c x).length<=22;rw[Evt.ko];decide) (AR (show Sep.splice _ 0 x.c=x.c from Sep.ku (by rw[Evt.ko];rfl)) (Ns (Cs I (Lfa U71 I Z4 I (Lo G4 0 I (Lq I (Qt I) (Nk (YH (b:=x.d) (λhd=>?_) (λhd=>?_))))))))))))))))))))
  .have hcd:Bo ops l (i+1)=(Bo ops l i).map (CU i x):=by rw[hcs];unfold Lp;rw[lu hd]
   refine Sb 26 false I (by rw[hd];rfl) (Aa I (Ae (Kt (Cs I (Ak I (Aj (AM ?_)))))))
   refine Cy (λ(j:Nat) (v:Value)=>[(0,va),(1,vo),(5,v),(6,.int .i64 (i:Int)),(7,pV be),(8,.int .i64 (j:Int))]) (λ(j:Nat) (v:Value)=>St w [] [AA v 60 Ca.enc (((Bo ops l i).take j).map (CU i x)++(Bo ops l i).drop j),Ad be 71 x.c]) (λ(j:Nat) (v:Value)=>j<=(Bo ops l i).length) (λ(j:Nat) (v:Value)=>(Bo ops l i).length-j) (0) (v) (lK _) (Si I) Ih (λj v hj=>Af (Af ?_))
   have hll:(((Bo ops l i).take j).map (CU i x)++(Bo ops l i).drop j).length=(Bo ops l i).length:=by rw[lp,mB,k9,lk];omega
   refine Cr I (Mv 2 I (Lq I (AJ I U36 I (Hrd 0 I)) (Lq I (Ql I) (Nk (CB 48 I (λh2=>?_) (λh2=>?_))))))
   .obtain⟨y,hyo⟩:∃y,(Bo ops l i)[j]?=some y:=⟨_,kY (by omega)⟩
    have hy:(((Bo ops l i).take j).map (CU i x)++(Bo ops l i).drop j)[j]?=some y:=by rw[lx (by rw[mB,k9];omega),mB,k9,ly];rw[show j+(j-min j (Bo ops l i).length)=j from by omega];exact hyo
    have It:((Bo ops l i).take (j+1)).map (CU i x)++(Bo ops l i).drop (j+1)=(((Bo ops l i).take j).map (CU i x)++(Bo ops l i).drop j).set j (CU i x y):=by rw[<-YG hyo]
    refine Ah I (Ae (Ks (Aj (Af (Do8 (rg 18) 344373768 _ I St.drawn Ih (Md 2 I (Dq I (Ar j I U36 Z60 I (Hrd 0 I) I I) (Dfa U60 I Z3 I (Dq I (AI j 0 I G3 I I (Hrd 0 I) hy I) (Dfa U71 I Z3 I (Dq I (Al I G3 I (Hat 1 I) I) (Md 2 I (CB 59 I (λh3=>?_) (λh3=>?_))))))))))))))
    .refine Md 2 I (Dq I (Ar j I U36 Z60 I (Hrd 0 I) I I) (Dfa U60 I Z3 I (Dq I (AI j 1 I G3 I I (Hrd 0 I) hy I) (Dfa U71 I Z3 I (Dq I (Al I G3 I (Hat 1 I) I) (d_t I (e_q I I (Qe I) (d_t I (e_q I I (Qy I) (AL (Kt (CB 68 I (λh4=>?_) (λh4=>?_)))))))))))))
     .have hans:CU i x y={toC y i with a:=x.a}:=by unfold CU;rw[lu ⟨h3,h4⟩]
      have hls:((((Bo ops l i).take j).map (CU i x)++(Bo ops l i).drop j).set j (toC y i)).length=(((Bo ops l i).take j).map (CU i x)++(Bo ops l i).drop j).length:=nU
      refine Ah I (Cs I (Mv 3 I (Lq I (Ar j I U36 Z60 I (Hrd 0 I) I I) (Lfa U60 I Z3 I (l_e I (Ct j 7 ((toC y i)) I I Z3 I I I hy (by decide) (gA y i) (Nk (Cr I (Mv 2 I (Lfa U71 I Z58 I (Lq I (Cq (x.a.c) G58 Z58 1 I (Evt.a_part _) (Ans.ko _)) (Lq I (Ar j I U36 Z60 I (Hrd 0 I) I I) (Lfa U60 I Z58 I ?_)))))))))))))
      have hy2:((((Bo ops l i).take j).map (CU i x)++(Bo ops l i).drop j).set j (toC y i))[j]?=some (toC y i):=oU (by omega)
      refine l_e I (F5 j 8 ({toC y i with a:=x.a}:Ca) I I Z58 I I I hy2 (Ans.ko _) (by decide) (Ans.one _) (gB _ _) (Bt (List.set_set ..) (AB (Aw (Kt (Cr I (Lm I (Lq I (Qi I) (Las I (AB ?_))))))))))
      rw[hans] at It
      refine AM (AM ?_)
      exact AE ((j+1,v)) (by dsimp only;omega) (by dsimp only;omega) (Si I) (λ_ h=>by dsimp only;rw[It];exact h)
     .have hans:CU i x y=y:=by unfold CU;rw[lz (λe=>h4 e.2)]
      rw[hans,J5 hy] at It
      refine Aa I (Ae (Aw (Kt (Cr I (Lm I (Lq I (Qi I) (Las I (AB ?_))))))))
      exact AE ((j+1,v)) (by dsimp only;omega) (by dsimp only;omega) (Si I) (λ_ h=>by dsimp only;rw[It];exact h)
    .have hans:CU i x y=y:=by unfold CU;rw[lz (λe=>h3 e.1)]
     rw[hans,J5 hy] at It
     refine Md 8 I (d_t I (e_q I I (Qz I) (AL (Kt (Aa I (Ae (Aw (Kt (Cr I (Lm I (Lq I (Qi I) (Las I (AB ?_)))))))))))))
     exact AE ((j+1,v)) (by dsimp only;omega) (by dsimp only;omega) (Si I) (λ_ h=>by dsimp only;rw[It];exact h)
   .have hje:j=(Bo ops l i).length:=by omega
    have hfin:((Bo ops l i).take j).map (CU i x)++(Bo ops l i).drop j=Bo ops l (i+1):=by rw[hcd,hje,oG,List.drop_length,nS]
    refine Aa I (AO (Ab (Ab (Am (Aw (Kt (Cr I (Lm I (Lq I (Qi I) (Las I (AB (AM (Av ?_)))))))))))))
    exact AE ((i+1,v)) (by dsimp only;omega) (by dsimp only;omega) (Si I) (λ_ h=>by dsimp only;rw[<-hfin];exact h)
  .have hcd:Bo ops l i++[JN ops i x]=Bo ops l (i+1):=by rw[hcs];unfold Lp;rw[lz (by rw[hd];decide)]
   have hcn:JN ops i x=⟨x.cl,x.ix,o,i,-1,BC⟩:=by unfold JN;rw[hop]
   refine Sb 26 true I (by rw[hd];rfl) (Ah I (Af (Do8 (rg 19) 1076168025 (λw2=>RdV w2 vo C6 vs/\RdV w2 s.v Opn.enc lo/\(Ad be 71 x.c).at w2) I St.drawn (λ_ h=>⟨hO.o.keep h (by simp[dom]),hrd.keep h (by simp[dom]),h.at 0 rfl⟩) (Dm I (Dfa U71 I Z3 I (Dq I (Al I G3 I (λ_ h=>h.2.2) I) (Dfa U71 I Z3 I (Dq I (Al I G3 I (λ_ h=>h.2.2) I) (Dm I (Dfa U71 I Z3 I (Dq I (Al I G3 I (λ_ h=>h.2.2) I) (Dq I (Ar c I U25 Z40 I (λ_ h=>h.1) I hc) (Dq I (AI c 0 I G40 I I (λ_ h=>h.1) hs I) (Dfa U71 I Z3 I (Dq I (Al I G3 I (λ_ h=>h.2.2) I) (Dq I (Ar k I U40 Z43 I (λ_ h=>h.2.1) I hxk) (Dq I (AV k I G43 Z43 I I (λ_ h=>h.2.1) ho) (Dm I (Dq I (AP ((JN ops i x).c) I I (λw=>(by rw[hcn];exact bca _ _ _ _ w))) (d_e I (Ax (sz:=27) [.tmp 42] I I I I I U36 Z60 I zeroValue60 (by simp[Value.cells,Ca.ko]) (λb3=>Ai (λ_ h=>⟨hO.o.keep h (by simp[dom]),hrd.keep h (by simp[dom]),h.at 1 rfl⟩) (AX (d_t I (Ap U36 U36 eJ I (λ_ h=>AY (h.at 1 I) Ca.enc [(JN ops i x)] I I) (by simp only[lp,kQ,ob];omega) ?_)))))))))))))))))))))))))
   intro v2
   refine Bt (hcd) (AM (Av (d_t I (e_q I I (AF I I) (AL (Kt (AO (Ab (Am (Kt (Cr I (Lm I (Lq I (Qi I) (Las I (AB (AM (Av ?_)))))))))))))))))
   exact AE ((i+1,v2)) (by dsimp only;omega) (by dsimp only;omega) (Si I) (λ_ h=>h)
 .have hie:i=l.length:=by omega
  subst hie
  exact Aa I (AO (Ab (Ab (Am (Kt (Cs I (Lm I (Ak I (Ag (Ao I I (λ_ h=>⟨v,rfl,T0,h⟩)))))))))))
theorem R5 {v:Int} (hn:0<n):(if v.tmod n<0 then v.tmod n+n else v.tmod n)=v%n:=by
 have h1:=Int.tmod_lt_of_pos v hn
 have h2 : -n<v.tmod n:=Int.lt_tmod_of_pos v hn
 have h3:=Int.mul_tdiv_add_tmod v n
 have key:∀r:Int,0<=r->r<n->(∃q,v=n*q+r)->r=v%n:=by
  rintro r hr0 hr1 ⟨q,hq⟩
  rw[hq,Int.mul_add_emod_self_left,Int.emod_eq_of_lt hr0 hr1]
 split
 .exact key _ (by omega) (by omega) ⟨v.tdiv n-1,by rw[Int.mul_sub];omega⟩
 .exact key _ (by omega) (by omega) ⟨v.tdiv n,by omega⟩
theorem FT (v n:Int) (hn:0<n) (hn2:n<=4611686018427387904):Con prog 27 [.int .i64 v,.int .i64 n] Tr [] (λ_:Unit=>.int .i64 (v%n)) Tr (λ_=>[]):=by
 intro w hE hH
 have h1:=Int.tmod_lt_of_pos v hn
 have h2 : -n<v.tmod n:=Int.lt_tmod_of_pos v hn
 have h3:=R5 (v:=v) hn
 refine E0 func27 I hH (Cs I (Ak I (Cs I (Mv 2 I (Lq I (V8 I I I (by omega)) (Ak I (Af (Cs I (Mv 2 I (Nk (CB 10 I (λh=>?_) (λh=>?_))))))))))))
 .rw[lu h] at h3
  exact Ah I (Cr I (Mv 2 I (Lq I (Bh I I I) (Ak I (Cs I (Lm I (Ak I (Ag (Ao I I (λ_ h=>⟨(),congrArg Ei h3,T0,h⟩))))))))))
 .rw[lz h] at h3
  exact Aa I (Ae (Kt (Cs I (Lm I (Ak I (Ag (Ao I I (λ_ h=>⟨(),congrArg Ei h3,T0,h⟩))))))))
theorem Ix (k:Kv 8):Con prog 60 [.agg k.c.toArray] Tr [] (λ_:Unit=>.bool (kck k)) Tr (λ_=>[]):=by
 intro w hE hH
 refine E0 func60 I hH (Cs I (l_e I (AT I I I I (λbk=>Ce k.c I (Ak I (Af (Cs I (Lfa U77 I Z3 I (Lo G3 0 I (Mv 2 I (CB 7 I (λh1=>?_) (λh1=>?_))))))))))))
 .rw[Wq h1]
  exact Mv 4 I (Nk (Ah I (Cs I (Ak I (Ag (Ac (Ao I I (λ_ h=>⟨(),rfl,T0,h.kv⟩))))))))
 .refine Lfa U77 I Z3 I (Lo G3 0 I (Lq I (BQ I I I) (Lq I (Qz I) (Nk (CB 11 I (λh2=>?_) (λh2=>?_))))))
  .rw[Ws h2]
   exact Ah I (Cs I (Ak I (Ag (Ac (Ao I I (λ_ h=>⟨(),rfl,T0,h.kv⟩))))))
  .obtain⟨m,hm,hm16⟩:∃m:Nat,k.n=(m:Int)/\m<=8:=⟨k.n.toNat,by omega,by omega⟩
   refine Aa I (Ae (Ks (Cs I (Lfa U77 I Z3 I (Lo G3 0 I (Ak I (Aj ?_)))))))
   refine A0 (λ(i:Nat)=>[(1,pV bk),(3,.int .i64 (i:Int))]) (λ(i:Nat)=>St w [] [Ad bk 77 k.c]) (λ(i:Nat)=>i<=8/\m<=i/\∀j,m<=j->j<i->k.b.getD j 0=0) (λ(i:Nat)=>8-i) (m) ⟨hm16,lJ _,λj h1 h2=>by omega⟩ (Sn I (Sub.consE I (by rw[hm]) Sub.nil)) Ih (λi hp=>Af (Af ?_))
   obtain⟨hi,hmi,hz⟩:=hp
   refine Cr I (Mv 2 I (Nk (CB 15 I (λhil=>?_) (λhil=>?_))))
   .refine Ah I (Ae (Ks (Aj (Cs I (Lm I (Lfa U77 I Z75 I (Lq I (Be i I U75 Z5 I I I) (Lq I (Al I G5 I (Hat 0 I) (eU k (by omega))) (Lq I (Qn I) (Nk (CB 22 I (λhne=>?_) (λhne=>?_))))))))))))
    .have hf:kck k=false:=eV (i:=i) (by omega) (by omega) (by simpa using hne)
     rw[hf]
     exact Ah I (Cs I (Ak I (Ag (As (Ac (Ac (As (Ac (Ao I I (λ_ h=>⟨(),rfl,T0,h.kv⟩))))))))))
    .refine Aa I (Ae (Aw (Kt (Cr I (Lm I (Lq I (Qi I) (Las I (AB ?_))))))))
     exact AE (i+1) (by omega) ⟨by omega,by omega,λj h1 h2=>by
      rcases o8.1 h2 with h3|rfl
      .exact hz j h1 h3
      .simpa using hne⟩ (Si I) (λ_ h=>h)
   .have hf:kck k=true:=SS hm hm16 (λj h1 h2=>hz j h1 (by omega))
    rw[hf]
    exact Aa I (AO (Ab (Ab (Am (Kt (Cs I (Ak I (Ag (Ao I I (λ_ h=>⟨(),rfl,T0,h.kv⟩))))))))))
theorem gC (s:ByteArray) (hs:s.size<=8):Con prog 67 [.string s] Tr [] (λq:Kv 8=>.tuple #[.agg q.c.toArray,.int .i64 0]) (λq=>kck q=true) (λ_=>[]):=λw he hh=>(FQ s hs w he hh).mono (λe w' ⟨_,h1,h2,h3⟩=>⟨kof s hs,h1,Ww _ _ _,h3⟩)
theorem gD (s:ByteArray) (hs:s.size<=16):Con prog 69 [.string s] Tr [] (λq:Kv 16=>.tuple #[.agg q.c.toArray,.int .i64 0]) Tr (λ_=>[]):=λw he hh=>(M3 s hs w he hh).mono (λe w' ⟨_,h1,h2,h3⟩=>⟨vof s hs,h1,T0,h3⟩)
theorem BI (l:List Int):(strOfNums l).size=l.length:=by unfold strOfNums;simp[ByteArray.size]
theorem jv {k:Kv 8} (h:kck k):∃m:Nat,k.n=(m:Int)/\m<=8:=by unfold kck at h;have:=oh h;exact⟨k.n.toNat,by omega,by omega⟩
theorem jx {k:Kv 16} (h:vck k):∃m:Nat,k.n=(m:Int)/\m<=16:=by unfold vck at h;have:=oh h;exact⟨k.n.toNat,by omega,by omega⟩
theorem eo {d:Nat} (k:Kv d) {m:Nat}:(k.c.drop 1).take (m*(AH .u8).sz)=(AH .u8).flat (k.b.take m):=by
 rw[GV]
 show ((k.b.map (Value.int .u8))).take (m*1)=_
 rw[oq,List.map_take]
theorem YI (l:List Int) {d:Nat} (h:l.length<=d):(strOfNums l).size<=d:=by rw[BI];exact h
theorem YJ (k:Kv 8):Con prog 110 [.agg k.c.toArray] Tr [] (λt:ByteArray=>.string t) (λt=>t.size<=8) (λ_=>[]):=by
 intro w hE hH
 refine E0 func110 I hH (Cs I (l_e I (AT I I I I (λbk=>Ce k.c I (Ak I (Af (Cs I (Lq I (Cq (k.c) G77 Z77 0 I (Bb _) (Kv.ko _)) (l_e I (E1 (Ix k) I call60 Tt (λ_ _=>Lq I (Qt I) (Nk (CB 5 I (λh1=>?_) (λh1=>?_))))))))))))))
 .exact Ah I (Cs I (Ak I (Ag (Ac (Ao I I (λ_ h=>⟨.empty,rfl,by decide,h.kv⟩))))))
 .obtain⟨m,hm,hm8⟩:=jv h1
  have hkl:=k.len
  exact Aa I (Ae (Kt (Cs I (Lfa U77 I Z75 I (Lfa U77 I Z3 I (Lo G3 0 I (Lq I (Ew m I U75 Z5 I I hm (by omega)) (Lq I (E6 (l:=k.b.take m) I U23 U5 U9 I (λ_ h=>JT (h.at 0 I) (AH .u8) (k.b.take m) (by rw[k9];omega) (by omega) (eo k))) (Ak I (Ag (Ao I I (λ_ h=>⟨strOfNums (k.b.take m),rfl,YI _ (by rw[k9];omega),h.kv⟩))))))))))))
theorem YK (k:Kv 16):Con prog 112 [.agg k.c.toArray] Tr [] (λt:ByteArray=>.string t) (λt=>t.size<=16) (λ_=>[]):=by
 intro w hE hH
 refine E0 func112 I hH (Cs I (l_e I (AT I I I I (λbk=>Ce k.c I (Ak I (Af (Cs I (Lq I (Cq (k.c) G56 Z56 0 I (Bb _) (Kv.ko _)) (l_e I (E1 (DV k) I call61 Tt (λ_ _=>Lq I (Qt I) (Nk (CB 5 I (λh1=>?_) (λh1=>?_))))))))))))))
 .exact Ah I (Cs I (Ak I (Ag (Ac (Ao I I (λ_ h=>⟨.empty,rfl,by decide,h.kv⟩))))))
 .obtain⟨m,hm,hm8⟩:=jx h1
  have hkl:=k.len
  exact Aa I (Ae (Kt (Cs I (Lfa U56 I sizeOf54 I (Lfa U56 I Z3 I (Lo G3 0 I (Lq I (Ew m I underlying54 Z5 I I hm (by omega)) (Lq I (E6 (l:=k.b.take m) I U23 U5 U9 I (λ_ h=>JT (h.at 0 I) (AH .u8) (k.b.take m) (by rw[k9];omega) (by omega) (eo k))) (Ak I (Ag (Ao I I (λ_ h=>⟨strOfNums (k.b.take m),rfl,YI _ (by rw[k9];omega),h.kv⟩))))))))))))
theorem YL (v:Int):Con prog 113 [.int .i64 v] Tr [] (λk:Kv 16=>.agg k.c.toArray) Tr (λ_=>[]):=by
 intro w hE hH
 refine E0 func113 I hH (Cs I (l_e I (Au I I I zeroValue56 (λbr=>Ce (kv0 16).c I (Nk (Cs I (Lm I (l_e I (E1 (FT (v) 1099511627776 (by decide) (by decide)) I call27 Tt (λ_ _=>Ak I (Af ?_)))))))))))
 obtain⟨k,hk,hkb⟩:∃k:Nat,v%1099511627776=(k:Int)/\k<1099511627776:=⟨(v%1099511627776).toNat,by omega,by omega⟩
 refine Sv' 3 (.int .i64 (k:Int)) I (by rw[hk]) ?_
 obtain⟨n,hn,hn17⟩:∃n:Nat,(k:Int)%17=(n:Int)/\n<17:=⟨k%17,by omega,by omega⟩
 refine Cr I (Lm I (Lq I (Bm I I I) (Ak I (Af (Sv' 4 (.int .i64 (n:Int)) I (by rw[hn]) (Cr I (Lm I (l_e I (BR (AH .u8) 0 n I I I U23 Ju I I I I I I I (by simp only[Ur];omega) (by omega) (λvb=>Ak I (Af (Cs I (Ak I (Aj ?_))))))))))))))
 refine Cy (λ(i:Nat) (l:List Int)=>[(2,pV br),(3,.int .i64 (k:Int)),(4,.int .i64 (n:Int)),(5,vb),(6,.int .i64 (i:Int))]) (λ(i:Nat) (l:List Int)=>St w [] [AA vb 5 (AH .u8) l,Ad br 56 (kv0 16).c]) (λ(i:Nat) (l:List Int)=>i<=n/\l.length=n) (λ(i:Nat) (l:List Int)=>n-i) (0) (List.replicate n 0) ⟨lK _,by simp⟩ (Si I) Ih (λi l hp=>Af (Af ?_))
 obtain⟨hi,hl⟩:=hp
 refine Cr I (Mv 3 I (Nk (CB 17 I (λhil=>?_) (λhil=>?_))))
 .have hmul:(0:Int)<=(i:Int)*((k:Int)/4352)/\(i:Int)*((k:Int)/4352)<=17592186044416:=by
   have h1:(i:Int)*((k:Int)/4352)=((i*(k/4352):Nat):Int):=by rw[nR,Int.natCast_ediv];rfl
   have h2:i*(k/4352)<=16*1099511627776:=Nat.mul_le_mul (by omega) (by omega)
   rw[h1];omega
  refine Ah I (Ae (Ks (Aj (Cr I (Mv 3 I (Lq I (By I I I) (Mv 2 I (Lq I (By I I I) (Lq I (GN I I I) (Lq I (Bh I I I) (Lq I (Hp I U3 U5 I) (Lq I (Ar i I U23 Z5 I (Hrd 0 I) I I) (l_e I (Ct i 0 ((IntKind.u8.wrap ((k:Int)/17+(i:Int)*((k:Int)/4352)))) I I Z5 I I I (kY (by omega)) (by decide) I ?_))))))))))))))
  refine AB (Aw (Kt (Cr I (Lm I (Lq I (Qi I) (Las I (AB ?_)))))))
  exact AE ((i+1,l.set i (IntKind.u8.wrap ((k:Int)/17+(i:Int)*((k:Int)/4352))))) (by dsimp only;omega) ⟨by dsimp only;omega,by dsimp only;rw[nU];exact hl⟩ (Si I) (λ_ h=>h)
 .exact Aa I (AO (Ab (Ab (Am (Kt (Cs I (Lm I (Lq I (E6 I U23 U5 U9 I (Hrd 0 I)) (Av (l_e I (E1 (gD _ (by rw[BI];omega)) I call69 Tt (λky _=>Lm I (Mv 2 I (l_e I (Au I I I zeroValue56 (λbo=>Ce (kv0 16).c I (l_e I (Az I I Z56 I I (Kv.ko _) (Kv.one _) (by simp only[Kv.ko];decide) (AR (show Sep.splice _ 0 (ky).c=(ky).c from Sep.ku (by simp only[Kv.ko])) (Ak I (Cs I (Lq I (Cq (ky.c) G56 Z56 0 I (Bb _) (Kv.ko _)) (AM (l_e I (Az I I Z56 I I (Kv.ko _) (Kv.one _) (by simp only[Kv.ko];decide) (AR (show Sep.splice _ 0 (ky).c=(ky).c from Sep.ku (by simp only[Kv.ko])) (Nk (Ag (CJ I (AK I G56 Z56 (Hat 0 I) (Kv.ko _)) (λ_ h=>⟨ky,rfl,T0,h.kv⟩))))))))))))))))))))))))))))))
section
variable {P:Program} {n:Nat} {L:Env} {X:World->Prop} {o:Oper}
theorem q_addS {t:TypeId} {x:Operand} {p q:ByteArray} (ho:o.op=.binOp .add t x y u) (hx:ev L x=some (.string p)) (hy:ev L y=some (.string q)) (hb:p.size+q.size<=9223372036854775807):QOp P n L X o (.string (p++q)) :=
 CV ho hx hy (λw _=>by
  have h:(binOp .add t (.string p) (.string q)).run P w=.ok (.string (p++q)) w:=by
   have hb':¬((p.size+q.size:Nat):Int)>IntKind.i64.max:=by
    show ¬((p.size+q.size:Nat):Int)>9223372036854775807
    omega
   show (Go.Op.stringOp .add p q).run P w=_
   unfold Go.Op.stringOp
   simp only[lz hb'];rfl
  exact D1 I h)
end
theorem VE (z:Int):(Lit.int .u64 (IntKind.u64.wrap z)).wf=true:=by
 simp only[Lit.wf,mz,mS,kS]
 exact⟨by show (0:Int)<=_;omega,by show _<=(2^64-1:Int);omega⟩
theorem Lr {z:Int} (h0:0<=z) (h1:z<=65536):(Lit.int .i64 z).wf=true:=by
 simp only[Lit.wf,mz,mS]
 exact⟨by show (-2^63:Int)<=_;omega,by show _<=(2^63-1:Int);omega⟩
theorem gF (v:Int):Con prog 111 [.int .i64 v] Tr [] (λk:Kv 8=>.agg k.c.toArray) Tr (λ_=>[]):=by
 intro w hE hH
 refine E0 func111 I hH (Cs I (l_e I (Au I I I zeroValue77 (λbr=>Ce (kv0 8).c I (Nk (Cs I (Lm I (l_e I (E1 (FT (v) 1099511627776 (by decide) (by decide)) I call27 Tt (λ_ _=>Ak I (Cs I (Ak I (Af (Cs I (Lm I (Lq I (Bm I I I) (Nk ?_)))))))))))))))))
 obtain⟨k,hk,hkb⟩:∃k:Nat,v%1099511627776=(k:Int)/\k<1099511627776:=⟨(v%1099511627776).toNat,by omega,by omega⟩
 refine Sv' 3 (.int .i64 (k:Int)) I (by rw[hk]) ?_
 refine GQ (λ(s:ByteArray)=>[(2,ptV br),(4,.string s)]) (λ(s:ByteArray)=>St w [] [Ad br 77 (kv0 8).c]) (λ(s:ByteArray)=>s.size<=8) ?_ ?_
 .refine Aj (Af (Cs I (Lq I (Qe I) (Ak I (CB 25 I (λh1=>?_) (λh1=>?_))))))
  .refine Ah I (Ae (Kt (Ah I (Cr I (Lm I (Lq I (By I I I) (Lq I (Bm I I I) (Lq I (Bh I I I) (Lq I (Bu I U3 U5 I (BS)) (l_e I (Ax (sz:=1) [.tmp 33] I I I I I U23 Z5 I zeroValue5 I (λb2=>Lq I (E6 (l:=[97+(k:Int)/8%6]) I U23 U5 U9 I (λ_ h=>AY (h.at 0 I) (AH .u8) [97+(k:Int)/8%6] I I)) (Las I (AB (Aw (Av ?_))))))))))))))))
   exact Bc (_) (by first|(rw[BI];exact ng I)|(rw[pD,BI];simp only[kQ,ob];omega)) (Si I) (λ_ h=>h)
  .refine Aa I (Cs I (Lq I (Qe I) (Ak I (CB 25 I (λh3=>?_) (λh3=>?_)))))
   .refine Ah I (Ae (Kt (Ah I (Cr I (Lm I (Lq I (By I I I) (Lq I (Bm I I I) (Lq I (Bh I I I) (Lq I (Bu I U3 U5 I (BS)) (l_e I (Ax (sz:=1) [.tmp 33] I I I I I U23 Z5 I zeroValue5 I (λb4=>Lq I (E6 (l:=[97+(k:Int)/8%6]) I U23 U5 U9 I (λ_ h=>AY (h.at 0 I) (AH .u8) [97+(k:Int)/8%6] I I)) (Las I (AB (Aw (Av ?_))))))))))))))))
    exact Bc (_) (by first|(rw[BI];exact ng I)|(rw[pD,BI];simp only[kQ,ob];omega)) (Si I) (λ_ h=>h)
   .refine Aa I (Cr I (Lq I (Qe I) (Ak I (CB 25 I (λh5=>?_) (λh5=>?_)))))
    .refine Ah I (Cr I (Lm I (Lq I (By I I I) (Lq I (Bm I I I) (Lq I (Bh I I I) (Lq I (Bu I U3 U5 I (BS)) (l_e I (Ax (sz:=1) [.tmp 33] I I I I I U23 Z5 I zeroValue5 I (λb6=>Lq I (E6 (l:=[97+(k:Int)/8%6]) I U23 U5 U9 I (λ_ h=>AY (h.at 0 I) (AH .u8) [97+(k:Int)/8%6] I I)) (Las I (AB (Aw (Av ?_)))))))))))))
     exact Bc (_) (by first|(rw[BI];exact ng I)|(rw[pD,BI];simp only[kQ,ob];omega)) (Si I) (λ_ h=>h)
    .refine Aa I (Af (Cs I (Lq I (Qe I) (Ak I (CB 36 I (λh7=>?_) (λh7=>?_))))))
     .refine Ah I (Ae (Kt (Ah I (Cr I (Lm I (Lq I (By I I I) (Lq I (Bm I I I) (Lq I (Bh I I I) (Lq I (Bu I U3 U5 I (BS)) (Lm I (Lq I (By I I I) (Lq I (Bm I I I) (Lq I (Bh I I I) (Lq I (Bu I U3 U5 I (BS)) (l_e I (Ax (sz:=1) [.tmp 43,.tmp 48] I I I I I U23 Z5 I zeroValue5 I (λb8=>Lq I (E6 (l:=[97+(k:Int)/8%5,97+(k:Int)/40%4]) I U23 U5 U9 I (λ_ h=>AY (h.at 0 I) (AH .u8) [97+(k:Int)/8%5,97+(k:Int)/40%4] I I)) (Las I (AB (Aw (Av ?_)))))))))))))))))))))
      exact Bc (_) (by first|(rw[BI];exact ng I)|(rw[pD,BI];simp only[kQ,ob];omega)) (Si I) (λ_ h=>h)
     .refine Aa I (Cr I (Lq I (Qe I) (Ak I (CB 36 I (λh9=>?_) (λh9=>?_)))))
      .refine Ah I (Cr I (Lm I (Lq I (By I I I) (Lq I (Bm I I I) (Lq I (Bh I I I) (Lq I (Bu I U3 U5 I (BS)) (Lm I (Lq I (By I I I) (Lq I (Bm I I I) (Lq I (Bh I I I) (Lq I (Bu I U3 U5 I (BS)) (l_e I (Ax (sz:=1) [.tmp 43,.tmp 48] I I I I I U23 Z5 I zeroValue5 I (λb10=>Lq I (E6 (l:=[97+(k:Int)/8%5,97+(k:Int)/40%4]) I U23 U5 U9 I (λ_ h=>AY (h.at 0 I) (AH .u8) [97+(k:Int)/8%5,97+(k:Int)/40%4] I I)) (Las I (AB (Aw (Av ?_))))))))))))))))))
       exact Bc (_) (by first|(rw[BI];exact ng I)|(rw[pD,BI];simp only[kQ,ob];omega)) (Si I) (λ_ h=>h)
      .refine Aa I (Cs I (Lq I (Qe I) (Ak I (CB 51 I (λh11=>?_) (λh11=>?_)))))
       .refine Ah I (Cr I (Lm I (Lq I (By I I I) (Lq I (Bm I I I) (Lq I (Bh I I I) (Lq I (Bu I U3 U5 I (BS)) (Lm I (Lq I (By I I I) (Lq I (Bm I I I) (Lq I (Bu I U3 U5 I (BS)) (Lm I (Lq I (By I I I) (Lq I (Bm I I I) (Lq I (Bu I U3 U5 I (BS)) (Lm I (Lq I (By I I I) (Lq I (Bm I I I) (Lq I (Bh I I I) (Lq I (Bu I U3 U5 I (BS)) (l_e I (Ax (sz:=1) [.tmp 57,.const (.int .u8 0),.tmp 61,.tmp 65,.const (.int .u8 255),.const (.int .u8 120),.const (.int .u8 121),.tmp 70] I I I I I U23 Z5 I zeroValue5 I ?_)))))))))))))))))))))
        intro b12
        refine Lq I (E6 (l:=[97+(k:Int)/8%4,0,(k:Int)/32%256,(k:Int)/8192%4,255,120,121,97+(k:Int)/32768%3]) I U23 U5 U9 I (λ_ h=>AY (h.at 0 I) (AH .u8) [97+(k:Int)/8%4,0,(k:Int)/32%256,(k:Int)/8192%4,255,120,121,97+(k:Int)/32768%3] I I)) (Las I (AB (Aw (Av ?_))))
        exact Bc (_) (by first|(rw[BI];exact ng I)|(rw[pD,BI];simp only[kQ,ob];omega)) (Si I) (λ_ h=>h)
       .refine Aa I (Cs I (Lq I (Qe I) (Ak I (CB 73 I (λh13=>?_) (λh13=>?_)))))
        .refine Ah I (Cr I (Lm I (Lq I (By I I I) (Lq I (Bm I I I) (Lq I (Bh I I I) (Lq I (Bu I U3 U5 I (BS)) (Lm I (Lq I (By I I I) (Lq I (Bm I I I) (Lq I (Bh I I I) (Lq I (Bu I U3 U5 I (BS)) (l_e I (Ax (sz:=1) [.tmp 79,.const (.int .u8 108),.const (.int .u8 111),.const (.int .u8 110),.const (.int .u8 103),.const (.int .u8 101),.const (.int .u8 114),.tmp 84] I I I I I U23 Z5 I zeroValue5 I (λb14=>Lq I (E6 (l:=[98+(k:Int)/8%3,108,111,110,103,101,114,48+(k:Int)/24%9]) I U23 U5 U9 I (λ_ h=>AY (h.at 0 I) (AH .u8) [98+(k:Int)/8%3,108,111,110,103,101,114,48+(k:Int)/24%9] I I)) (Las I (AB (Aw (Av ?_))))))))))))))))))
         exact Bc (_) (by first|(rw[BI];exact ng I)|(rw[pD,BI];simp only[kQ,ob];omega)) (Si I) (λ_ h=>h)
        .refine Aa I (Cr I (Lm I (Lq I (By I I I) (Lq I (Bm I I I) (Lq I (Bu I U3 U5 I (BS)) (Lm I (Lq I (By I I I) (Lq I (Bm I I I) (Lq I (Bu I U3 U5 I (BS)) (l_e I (Ax (sz:=1) [.tmp 14,.tmp 18] I I I I I U23 Z5 I zeroValue5 I (λb15=>Lq I (E6 (l:=[(k:Int)/8%256,(k:Int)/2048%256]) I U23 U5 U9 I (λ_ h=>AY (h.at 0 I) (AH .u8) [(k:Int)/8%256,(k:Int)/2048%256] I I)) (Lm I (Lq I (By I I I) (Lq I (Bm I I I) (Lq I (Us (((k:Int)/524288%3).toNat) I U9 I I (by omega) (by rw[BI];simp only[kQ,ob];omega)) (Las I (AB (Aw (Av ?_))))))))))))))))))))
         exact Bc (_) (by first|(rw[BI];exact ng I)|(rw[pD,BI];simp only[kQ,ob];omega)) (Si I) (λ_ h=>h)
 .intro s hs8
  exact Cs I (Lm I (l_e I (E1 (gC s hs8) I call67 Tt (λky _=>Lm I (Mv 2 I (l_e I (Au I I I zeroValue77 (λbo=>Ce (kv0 8).c I (l_e I (Az I I Z77 I I (Kv.ko _) (Kv.one _) (by simp only[Kv.ko];decide) (AR (show Sep.splice _ 0 (ky).c=(ky).c from Sep.ku (by simp only[Kv.ko])) (Ak I (Cs I (Lq I (Cq (ky.c) G77 Z77 0 I (Bb _) (Kv.ko _)) (AM (l_e I (Az I I Z77 I I (Kv.ko _) (Kv.one _) (by simp only[Kv.ko];decide) (AR (show Sep.splice _ 0 (ky).c=(ky).c from Sep.ku (by simp only[Kv.ko])) (Nk (Ag (CJ I (AK I G77 Z77 (Hat 0 I) (Kv.ko _)) (λ_ h=>⟨ky,rfl,T0,h.kv⟩))))))))))))))))))))))
theorem TU (v:Int):Con prog 65 [.int .i64 v] Tr [] (λo:Opn=>.agg o.c.toArray) (λo=>1<=o.kind/\o.kind<=4/\o.key.size<=17) (λ_=>[]):=by
 intro w hE hH
 refine E0 func65 I hH (Cs I (l_e I (Au I I I zeroValue43 (λbr=>Ce [.int .i64 0,.string ⟨#[]⟩,.string ⟨#[]⟩,.int .u64 0] I (Nk (Cs I (Lm I (l_e I (E1 (FT (v) 1099511627776 (by decide) (by decide)) I call27 Tt (λ_ _=>Ak I (Af ?_)))))))))))
 obtain⟨k,hk,hkb⟩:∃k:Nat,v%1099511627776=(k:Int)/\k<1099511627776:=⟨(v%1099511627776).toNat,by omega,by omega⟩
 refine Sv' 3 (.int .i64 (k:Int)) I (by rw[hk]) (Cr I (Lm I (Lq I (Bm I I I) (Lq I (Bh I I I) (Lm I (Lq I (By I I I) (l_e I (E1 (gF _) I call111 Tt (λky _=>l_e I (E1 (YJ ky) I call110 Tt (λt ht=>Lq I (AP ([.int .i64 (1+(k:Int)%4),.string t,.string .empty,.int .u64 0]) I I (λw=>by kernel_rfl)) (l_e I (Au I I I zeroValue43 (λbo=>Ce [.int .i64 0,.string ⟨#[]⟩,.string ⟨#[]⟩,.int .u64 0] I (l_e I (Az rfl rfl Z43 rfl rfl rfl (by intro v hv;simp only[kN,nt,nu] at hv;rcases hv with rfl|rfl|rfl|rfl<;>rfl) (by show 0+4<=4;decide) (AR (I) (Ns (Cs I (Lfa U43 I Z3 I (Lo G3 0 I (Nk ?_))))))))))))))))))))))
 refine Dw (λ(tv:ByteArray) (b:Int)=>[(2,ptV br),(3,.int .i64 (k:Int)),(4,ptV bo)]) (λ(tv:ByteArray) (b:Int)=>St w [] [Ad bo 43 [.int .i64 (1+(k:Int)%4),.string t,.string tv,.int .u64 b],Ad br 43 [.int .i64 0,.string .empty,.string .empty,.int .u64 0]]) (λ(tv:ByteArray) (b:Int)=>tv.size<=16/\(Lit.int .u64 b).wf=true) ?_ ?_
 .refine Aj (Cs I (Lq I (Qe I) (Ak I (CB 17 I (λh1=>?_) (λh1=>?_)))))
  .refine Ah I (Cr I (Lm I (Lq I (By I I I) (l_e I (E1 (YL _) I call113 Tt (λvl _=>l_e I (E1 (YK vl) I call112 Tt (λtv htv=>Lfa U43 I Z9 I (l_e I (AG I I Z9 I I I (by show 2<4;decide) (Ce [.int .i64 (1+(k:Int)%4),.string t,.string tv,.int .u64 0] I (AB (Aw ?_)))))))))))))
   exact Bc ((tv,0)) ⟨htv,by show (Lit.int .u64 0).wf=true;decide⟩ (Si I) (λ_ h=>h)
  .refine Aa I (Cs I (Lq I (Qe I) (Ak I (CB 24 I (λh2=>?_) (λh2=>?_)))))
   .refine Ah I (Cr I (Lm I (Lq I (By I I I) (Lq I (Bu I U3 underlying41 I (E4)) (Lq I (dE I I I) (Lfa U43 I Z41 I (l_e I (AG I I Z41 I I I (by show 3<4;decide) (Ce [.int .i64 (1+(k:Int)%4),.string t,.string .empty,.int .u64 (IntKind.u64.wrap ((k:Int)/4096*4099))] I (AB (Aw ?_)))))))))))
    exact Bc ((.empty,(IntKind.u64.wrap ((k:Int)/4096*4099)))) ⟨by show ByteArray.size .empty<=16;decide,VE _⟩ (Si I) (λ_ h=>h)
   .refine Aa I (Ae (Aw ?_))
    exact Bc ((.empty,0)) ⟨by show ByteArray.size .empty<=16;decide,by show (Lit.int .u64 0).wf=true;decide⟩ (Si I) (λ_ h=>h)
 .intro tv b hm1
  obtain⟨htv,hbw⟩:=hm1
  refine Af (Cs I (Lm I (Lq I (By I I I) (Lq I (Bm I I I) (Lq I (Qe I) (Nk ?_))))))
  refine GQ (λ(t2:ByteArray)=>[(2,ptV br),(3,.int .i64 (k:Int)),(4,ptV bo)]) (λ(t2:ByteArray)=>St w [] [Ad bo 43 [.int .i64 (1+(k:Int)%4),.string t2,.string tv,.int .u64 b],Ad br 43 [.int .i64 0,.string .empty,.string .empty,.int .u64 0]]) (λ(t2:ByteArray)=>t2.size<=17) ?_ ?_
  .refine CB 34 I (λh3=>?_) (λh3=>?_)
   .refine Ah I (Cr I (Lfa U43 I Z9 I (Lo G9 0 I (Lq I (q_addS I I I (by show t.size+9<=_;omega)) (Lfa U43 I Z9 I (l_e I (AG I I Z9 I I I (by show 1<4;decide) (Ce [.int .i64 (1+(k:Int)%4),.string (t++(⟨#[49,50,51,52,53,54,55,56,57]⟩:ByteArray)),.string tv,.int .u64 b] I (AB ?_)))))))))
    exact Bc (t++(⟨#[49,50,51,52,53,54,55,56,57]⟩:ByteArray)) (by show ByteArray.size (_++_)<=17;rw[ByteArray.size_append];show t.size+9<=17;omega) (Si I) (λ_ h=>h)
   .refine Aa I (Ae ?_)
    exact Bc (t) (by omega) (Si I) (λ_ h=>h)
  .intro t2 ht2
   refine Af (Cs I (Lm I (Lq I (By I I I) (Lq I (Bm I I I) (Mv 2 I (CB 43 I (λh1=>?_) (λh1=>?_)))))))
   .refine Lfa U43 I Z3 I (Lo G3 0 I (Mv 2 I (Nk (CB 47 I (λh2=>?_) (λh2=>?_)))))
    .exact Ah I (Cr I (Lfa U43 I Z9 I (Lo G9 0 I (Lq I (q_addS I I I (by show tv.size+18<=_;omega)) (Lfa U43 I Z9 I (l_e I (AG I I Z9 I I I (by show 2<4;decide) (Ce [.int .i64 (1+(k:Int)%4),.string t2,.string (tv++(⟨#[115,101,118,101,110,116,101,101,110,32,98,121,116,101,115,32,46,46]⟩:ByteArray)),.int .u64 b] I (Nk (Cs I (Lq I (Cq ([.int .i64 (1+(k:Int)%4),.string t2,.string (tv++(⟨#[115,101,118,101,110,116,101,101,110,32,98,121,116,101,115,32,46,46]⟩:ByteArray)),.int .u64 b]) G43 Z43 0 I (I) (I)) (AM (l_e I (Az rfl rfl Z43 rfl rfl rfl (by intro v hv;simp only[kN,nt,nu] at hv;rcases hv with rfl|rfl|rfl|rfl<;>rfl) (by show 0+4<=4;decide) (Ce [.int .i64 (1+(k:Int)%4),.string t2,.string (tv++(⟨#[115,101,118,101,110,116,101,101,110,32,98,121,116,101,115,32,46,46]⟩:ByteArray)),.int .u64 b] I (Nk (Ag (CJ I (AK I G43 Z43 (Hat 0 I) (I)) (λ_ h=>⟨⟨(1+(k:Int)%4),t2,(tv++(⟨#[115,101,118,101,110,116,101,101,110,32,98,121,116,101,115,32,46,46]⟩:ByteArray)),b,Lr (by omega) (by omega),hbw⟩,rfl,⟨by show 1<=(1+(k:Int)%4);omega,by show (1+(k:Int)%4)<=4;omega,ht2⟩,h.kv⟩)))))))))))))))))))
    .exact Aa I (Ae (Kt (Cs I (Lq I (Cq ([.int .i64 (1+(k:Int)%4),.string t2,.string tv,.int .u64 b]) G43 Z43 0 I (I) (I)) (AM (l_e I (Az rfl rfl Z43 rfl rfl rfl (by intro v hv;simp only[kN,nt,nu] at hv;rcases hv with rfl|rfl|rfl|rfl<;>rfl) (by show 0+4<=4;decide) (Ce [.int .i64 (1+(k:Int)%4),.string t2,.string tv,.int .u64 b] I (Nk (Ag (CJ I (AK I G43 Z43 (Hat 0 I) (I)) (λ_ h=>⟨⟨(1+(k:Int)%4),t2,tv,b,Lr (by omega) (by omega),hbw⟩,rfl,⟨by show 1<=(1+(k:Int)%4);omega,by show (1+(k:Int)%4)<=4;omega,ht2⟩,h.kv⟩))))))))))))
   .exact Mv 4 I (Nk (Aa I (Ae (Kt (Cs I (Lq I (Cq ([.int .i64 (1+(k:Int)%4),.string t2,.string tv,.int .u64 b]) G43 Z43 0 I (I) (I)) (AM (l_e I (Az rfl rfl Z43 rfl rfl rfl (by intro v hv;simp only[kN,nt,nu] at hv;rcases hv with rfl|rfl|rfl|rfl<;>rfl) (by show 0+4<=4;decide) (Ce [.int .i64 (1+(k:Int)%4),.string t2,.string tv,.int .u64 b] I (Nk (Ag (CJ I (AK I G43 Z43 (Hat 0 I) (I)) (λ_ h=>⟨⟨(1+(k:Int)%4),t2,tv,b,Lr (by omega) (by omega),hbw⟩,rfl,⟨by show 1<=(1+(k:Int)%4);omega,by show (1+(k:Int)%4)<=4;omega,ht2⟩,h.kv⟩))))))))))))))
structure OpsR where
 vo:Value
 q0:Sv
 q1:Sv
 q2:Sv
 q3:Sv
 o0:List Opn
 o1:List Opn
 o2:List Opn
 o3:List Opn
def OpG (o:Opn):Prop:=1<=o.kind/\o.kind<=4/\o.key.size<=17
def OpsR.vs (b:OpsR) (n:Nat):List Sv:=[b.q0,b.q1,b.q2,b.q3].take n
def OpsR.ops (b:OpsR) (n:Nat):List (List Opn):=[b.o0,b.o1,b.o2,b.o3].take n
theorem R6 {i n:Nat} (h1:1<=n) (h4:n<=4) (a:(i:Int)%(n:Int)=((0:Nat):Int)/\0<n->Q) (b:(i:Int)%(n:Int)=((1:Nat):Int)/\1<n->Q) (c:(i:Int)%(n:Int)=((2:Nat):Int)/\2<n->Q) (d:(i:Int)%(n:Int)=((3:Nat):Int)/\3<n->Q):Q:=by
 have h:(i:Int)%(n:Int)=((i%n:Nat):Int):=by rw[Int.natCast_emod]
 have hlt:i%n<n:=lM _ (by omega)
 rw[h] at a b c d
 generalize i%n=j at a b c d hlt
 match j with
 |0=>exact a ⟨rfl,hlt⟩
 |1=>exact b ⟨rfl,hlt⟩
 |2=>exact c ⟨rfl,hlt⟩
 |3=>exact d ⟨rfl,hlt⟩
 |j+4=>omega
theorem YM (l:List Int) (n:Nat) (h1n:1<=n) (h4:n<=4):Con prog 25 [va,.int .i64 (n:Int)] (λw=>RdV w va (AH .i64) l) [] (λb:OpsR=>b.vo) (λb=>b.o0.length+b.o1.length+b.o2.length+b.o3.length<=l.length/\∀o,o∈b.o0\/o∈b.o1\/o∈b.o2\/o∈b.o3->OpG o) (λb=>[AA b.vo 40 C6 (b.vs n),AA b.q0.v 43 Opn.enc b.o0,AA b.q1.v 43 Opn.enc b.o1,AA b.q2.v 43 Opn.enc b.o2,AA b.q3.v 43 Opn.enc b.o3]):=by
 intro w hl hH
 refine E0 func25 I hH (Cs I (Ak I (Cs I (Lm I (l_e I (BR C6 sv0 n I I I U25 Wi I I I I I I I (by simp only[iw];omega) (by omega) (λvo=>Ak I (Af (Cs I (Ak I (Aj (row0 43 Opn.enc none (row0 43 Opn.enc none (row0 43 Opn.enc none (row0 43 Opn.enc none (Pm [4] I ?_))))))))))))))))
 have hvl:∀q0 q1 q2 q3:Sv,([q0,q1,q2,q3].take n).length=n:=λq0 q1 q2 q3=>by rw[k9];exact mE h4
 have hrep:List.replicate n sv0=[sv0,sv0,sv0,sv0].take n:=by
  have e:[sv0,sv0,sv0,sv0]=List.replicate 4 sv0:=rfl
  rw[e,List.take_replicate,mE h4]
 refine ZQ (λ(i:Nat) (q0:Sv) (q1:Sv) (q2:Sv) (q3:Sv) (o0:List Opn) (o1:List Opn) (o2:List Opn) (o3:List Opn)=>[(0,va),(1,.int .i64 (n:Int)),(5,vo),(6,.int .i64 (i:Int))]) (λ(i:Nat) (q0:Sv) (q1:Sv) (q2:Sv) (q3:Sv) (o0:List Opn) (o1:List Opn) (o2:List Opn) (o3:List Opn)=>St w [] [AA vo 40 C6 ([q0,q1,q2,q3].take n),AA q0.v 43 Opn.enc o0,AA q1.v 43 Opn.enc o1,AA q2.v 43 Opn.enc o2,AA q3.v 43 Opn.enc o3]) (λ(i:Nat) (q0:Sv) (q1:Sv) (q2:Sv) (q3:Sv) (o0:List Opn) (o1:List Opn) (o2:List Opn) (o3:List Opn)=>i<=l.length/\i<=96/\o0.length+o1.length+o2.length+o3.length=i/\∀o,o∈o0\/o∈o1\/o∈o2\/o∈o3->OpG o) (λ(i:Nat) (q0:Sv) (q1:Sv) (q2:Sv) (q3:Sv) (o0:List Opn) (o1:List Opn) (o2:List Opn) (o3:List Opn)=>l.length-i) (0) (sv0) (sv0) (sv0) (sv0) ([]) ([]) ([]) ([]) ⟨lK _,lK _,rfl,λo h=>by simp at h⟩ (Si I) (λ_ h=>by rw[<-hrep];exact h) (λi q0 q1 q2 q3 o0 o1 o2 o3 hp=>Af (Af ?_))
 obtain⟨hi,hi96,gs,hg⟩:=hp
 have hvn:=hvl q0 q1 q2 q3
 refine Cr I (Mv 2 I (Lq I (AJ I U22 I hl.kp) (Mv 2 I (CB 13 I (λh1=>?_) (λh1=>?_)))))
 .refine Mv 2 I (Lq I (GN I I I) (Mv 2 I (Nk (CB 18 I (λh2=>?_) (λh2=>?_)))))
  .obtain⟨x,hx⟩:=gE l i
   refine Ah I (Ae (Ks (Aj (R6 (i:=i) h1n h4 (λhj=>?_) (λhj=>?_) (λhj=>?_) (λhj=>?_)))))
   .obtain⟨hjm,hjn⟩:=hj
    have hq:([q0,q1,q2,q3].take n)[0]?=some q0:=by rw[pE hjn];rfl
    refine Do8 (rg 19) 837019575 (λw2=>RdV w2 vo C6 ([q0,q1,q2,q3].take n)/\RdV w2 va (AH .i64) l) I St.drawn (λ_ h=>⟨h.rd 0 rfl,hl.keep h (by simp[dom])⟩) (Md 3 I (Dq I (Bm I I I) (Md 3 I (Dq I (Bm I I I) (Dq I (Ar 0 I U25 Z40 I (λ_ h=>h.1) I hjm) (Dq I (AI 0 0 I G40 I I (λ_ h=>h.1) hq I) (Md 2 I (Dq I (Ar i I U22 Z3 I (λ_ h=>h.2) I I) (Dq I (AI i 0 I G3 I I (λ_ h=>h.2) hx I) (d_e I (E1 (TU x) I call65 Tt (λop hop=>Ai (λ_ h=>⟨h.rd 0 rfl,hl.keep h (by simp[dom])⟩) (d_e I (Ax (sz:=4) [.tmp 35] I I I I I U40 Z43 I zeroValue43 I (λb2=>Ai (λ_ h=>⟨h.rd 1 rfl,hl.keep h (by simp[dom])⟩) (AX (d_e I (Ap U40 U40 Ki I (λ_ h=>AY (h.at 1 I) Opn.enc [op] I I) (by simp only[lp,kQ,ob];omega) (λv=>Pre.fact (λ_ h=>BW (h.at 0 I)) ?_)))))))))))))))))))
    rintro⟨ad,cp,rfl⟩
    refine Ai (λ_ h=>⟨h.rd 2 rfl,hl.keep h (by simp[dom])⟩) (Dq I (Ar 0 I U25 Z40 I (λ_ h=>h.1) I hjm) (AX (d_t I (Ct 0 0 ((⟨ad,(o0++[op]).length,cp⟩:Sv)) I I Z40 I I I hq (by decide) I (AL (Aw (Kt (Cr I (Lm I (Lq I (Qi I) (Las I (AB (AX (Av ?_))))))))))))))
    exact AE ((i+1,⟨ad,(o0++[op]).length,cp⟩,q1,q2,q3,o0++[op],o1,o2,o3)) (by dsimp only;omega) ⟨by dsimp only;omega,by dsimp only;omega,by dsimp only;(try rw[lp]);simp only[kQ,ob];omega,by dsimp only;intro o ho;simp only[mT,nq] at ho;exact (Classical.em (o=op)).elim (λe=>e▸hop) (λe=>hg o (by simpa [e] using ho))⟩ (Si I) (λ_ h=>by dsimp only;rw[<-nP] at h;exact h)
   .obtain⟨hjm,hjn⟩:=hj
    have hq:([q0,q1,q2,q3].take n)[1]?=some q1:=by rw[pE hjn];rfl
    refine Do8 (rg 19) 837019575 (λw2=>RdV w2 vo C6 ([q0,q1,q2,q3].take n)/\RdV w2 va (AH .i64) l) I St.drawn (λ_ h=>⟨h.rd 0 rfl,hl.keep h (by simp[dom])⟩) (Md 3 I (Dq I (Bm I I I) (Md 3 I (Dq I (Bm I I I) (Dq I (Ar 1 I U25 Z40 I (λ_ h=>h.1) I hjm) (Dq I (AI 1 0 I G40 I I (λ_ h=>h.1) hq I) (Md 2 I (Dq I (Ar i I U22 Z3 I (λ_ h=>h.2) I I) (Dq I (AI i 0 I G3 I I (λ_ h=>h.2) hx I) (d_e I (E1 (TU x) I call65 Tt (λop hop=>Ai (λ_ h=>⟨h.rd 0 rfl,hl.keep h (by simp[dom])⟩) (d_e I (Ax (sz:=4) [.tmp 35] I I I I I U40 Z43 I zeroValue43 I (λb4=>Ai (λ_ h=>⟨h.rd 1 rfl,hl.keep h (by simp[dom])⟩) (D3 (d_e I (Ap U40 U40 Ki I (λ_ h=>AY (h.at 1 I) Opn.enc [op] I I) (by simp only[lp,kQ,ob];omega) (λv=>Pre.fact (λ_ h=>BW (h.at 0 I)) ?_)))))))))))))))))))
    rintro⟨ad,cp,rfl⟩
    refine Ai (λ_ h=>⟨h.rd 2 rfl,hl.keep h (by simp[dom])⟩) (Dq I (Ar 1 I U25 Z40 I (λ_ h=>h.1) I hjm) (AX (d_t I (Ct 1 0 ((⟨ad,(o1++[op]).length,cp⟩:Sv)) I I Z40 I I I hq (by decide) I (AL (Aw (Kt (Cr I (Lm I (Lq I (Qi I) (Las I (AB (AX (Av (Pm [0,1] I ?_)))))))))))))))
    exact AE ((i+1,q0,⟨ad,(o1++[op]).length,cp⟩,q2,q3,o0,o1++[op],o2,o3)) (by dsimp only;omega) ⟨by dsimp only;omega,by dsimp only;omega,by dsimp only;(try rw[lp]);simp only[kQ,ob];omega,by dsimp only;intro o ho;simp only[mT,nq] at ho;exact (Classical.em (o=op)).elim (λe=>e▸hop) (λe=>hg o (by simpa [e] using ho))⟩ (Si I) (λ_ h=>by dsimp only;rw[<-nP] at h;exact h)
   .obtain⟨hjm,hjn⟩:=hj
    have hq:([q0,q1,q2,q3].take n)[2]?=some q2:=by rw[pE hjn];rfl
    refine Do8 (rg 19) 837019575 (λw2=>RdV w2 vo C6 ([q0,q1,q2,q3].take n)/\RdV w2 va (AH .i64) l) I St.drawn (λ_ h=>⟨h.rd 0 rfl,hl.keep h (by simp[dom])⟩) (Md 3 I (Dq I (Bm I I I) (Md 3 I (Dq I (Bm I I I) (Dq I (Ar 2 I U25 Z40 I (λ_ h=>h.1) I hjm) (Dq I (AI 2 0 I G40 I I (λ_ h=>h.1) hq I) (Md 2 I (Dq I (Ar i I U22 Z3 I (λ_ h=>h.2) I I) (Dq I (AI i 0 I G3 I I (λ_ h=>h.2) hx I) (d_e I (E1 (TU x) I call65 Tt (λop hop=>Ai (λ_ h=>⟨h.rd 0 rfl,hl.keep h (by simp[dom])⟩) (d_e I (Ax (sz:=4) [.tmp 35] I I I I I U40 Z43 I zeroValue43 I (λb6=>Ai (λ_ h=>⟨h.rd 1 rfl,hl.keep h (by simp[dom])⟩) (C0 (d_e I (Ap U40 U40 Ki I (λ_ h=>AY (h.at 1 I) Opn.enc [op] I I) (by simp only[lp,kQ,ob];omega) (λv=>Pre.fact (λ_ h=>BW (h.at 0 I)) ?_)))))))))))))))))))
    rintro⟨ad,cp,rfl⟩
    refine Ai (λ_ h=>⟨h.rd 2 rfl,hl.keep h (by simp[dom])⟩) (Dq I (Ar 2 I U25 Z40 I (λ_ h=>h.1) I hjm) (AX (d_t I (Ct 2 0 ((⟨ad,(o2++[op]).length,cp⟩:Sv)) I I Z40 I I I hq (by decide) I (AL (Aw (Kt (Cr I (Lm I (Lq I (Qi I) (Las I (AB (AX (Av (Pm [0,1,1] I ?_)))))))))))))))
    exact AE ((i+1,q0,q1,⟨ad,(o2++[op]).length,cp⟩,q3,o0,o1,o2++[op],o3)) (by dsimp only;omega) ⟨by dsimp only;omega,by dsimp only;omega,by dsimp only;(try rw[lp]);simp only[kQ,ob];omega,by dsimp only;intro o ho;simp only[mT,nq] at ho;exact (Classical.em (o=op)).elim (λe=>e▸hop) (λe=>hg o (by simpa [e] using ho))⟩ (Si I) (λ_ h=>by dsimp only;rw[<-nP] at h;exact h)
   .obtain⟨hjm,hjn⟩:=hj
    have hq:([q0,q1,q2,q3].take n)[3]?=some q3:=by rw[pE hjn];rfl
    refine Do8 (rg 19) 837019575 (λw2=>RdV w2 vo C6 ([q0,q1,q2,q3].take n)/\RdV w2 va (AH .i64) l) I St.drawn (λ_ h=>⟨h.rd 0 rfl,hl.keep h (by simp[dom])⟩) (Md 3 I (Dq I (Bm I I I) (Md 3 I (Dq I (Bm I I I) (Dq I (Ar 3 I U25 Z40 I (λ_ h=>h.1) I hjm) (Dq I (AI 3 0 I G40 I I (λ_ h=>h.1) hq I) (Md 2 I (Dq I (Ar i I U22 Z3 I (λ_ h=>h.2) I I) (Dq I (AI i 0 I G3 I I (λ_ h=>h.2) hx I) (d_e I (E1 (TU x) I call65 Tt (λop hop=>Ai (λ_ h=>⟨h.rd 0 rfl,hl.keep h (by simp[dom])⟩) (d_e I (Ax (sz:=4) [.tmp 35] I I I I I U40 Z43 I zeroValue43 I (λb8=>Ai (λ_ h=>⟨h.rd 1 rfl,hl.keep h (by simp[dom])⟩) (EM (d_e I (Ap U40 U40 Ki I (λ_ h=>AY (h.at 1 I) Opn.enc [op] I I) (by simp only[lp,kQ,ob];omega) (λv=>Pre.fact (λ_ h=>BW (h.at 0 I)) ?_)))))))))))))))))))
    rintro⟨ad,cp,rfl⟩
    refine Ai (λ_ h=>⟨h.rd 2 rfl,hl.keep h (by simp[dom])⟩) (Dq I (Ar 3 I U25 Z40 I (λ_ h=>h.1) I hjm) (AX (d_t I (Ct 3 0 ((⟨ad,(o3++[op]).length,cp⟩:Sv)) I I Z40 I I I hq (by decide) I (AL (Aw (Kt (Cr I (Lm I (Lq I (Qi I) (Las I (AB (AX (Av (Pm [0,1,1,1] I ?_)))))))))))))))
    exact AE ((i+1,q0,q1,q2,⟨ad,(o3++[op]).length,cp⟩,o0,o1,o2,o3++[op])) (by dsimp only;omega) ⟨by dsimp only;omega,by dsimp only;omega,by dsimp only;(try rw[lp]);simp only[kQ,ob];omega,by dsimp only;intro o ho;simp only[mT,nq] at ho;exact (Classical.em (o=op)).elim (λe=>e▸hop) (λe=>hg o (by simpa [e] using ho))⟩ (Si I) (λ_ h=>by dsimp only;rw[<-nP] at h;exact h)
  .exact Aa I (AO (Ab (Ab (Am (Kt (Cs I (Lm I (Ak I (Ag (Ao I I (λ_ h=>⟨⟨vo,q0,q1,q2,q3,o0,o1,o2,o3⟩,rfl,⟨by show o0.length+o1.length+o2.length+o3.length<=_;omega,hg⟩,h⟩)))))))))))
 .exact Mv 5 I (Nk (Aa I (AO (Ab (Ab (Am (Kt (Cs I (Lm I (Ak I (Ag (Ao I I (λ_ h=>⟨⟨vo,q0,q1,q2,q3,o0,o1,o2,o3⟩,rfl,⟨by show o0.length+o1.length+o2.length+o3.length<=_;omega,hg⟩,h⟩)))))))))))))
theorem Jh (h:BH o=false):o.key.size<=8:=by unfold BH at h;simp at h;omega
theorem R7 (h:BH o=false) (hk:o.kind=1):o.val.size<=16:=by unfold BH at h;simp[hk] at h;omega
theorem J6 (h:BH o=false):kof o.key (Jh h)=kOf o:=by unfold kOf;rw[dif_pos (Jh h)]
theorem cI (h:BH o=false) (hk:o.kind=1):vof o.val (R7 h hk)=vOf o:=by unfold vOf;rw[dif_pos (R7 h hk)]
theorem cJ (l:List En) (o:Opn) (hs:BG l) (hn:l.length<=1000) (hT:BH o):Con prog 33 [va,.agg o.c.toArray] (λw=>RdV w va En.enc l) [] (λ_:Unit=>.tuple #[va,.agg (Ans.c (⟨2,false,kv0 16⟩:Ans)).toArray]) Tr (λ_=>[]):=by
 intro w hl hH
 refine E0 func33 I hH ?_
 exact Cs I (l_e I (AT I I I I (λbo=>Ce o.c I (Las I (l_e I (Au I I I zeroValue58 (λba=>Ce (Ans.c BC) I (Ns (Cs I (Lq I (Cq (o.c) G43 Z43 1 I (I) (I)) (l_e I (E1 (Du o) I call64 Tt (λ_ _=>Nk (Sb 12 true I (by first|rfl|(rw[hkd];rfl)|exact hT) (Ah I (Cs I (Lm I (Lq I (AP (Ans.c (⟨2,false,kv0 16⟩:Ans)) I I (λw=>by kernel_rfl)) (Las I (l_e I (Az I I Z58 I I (Ans.ko _) (Ans.one _) (by simp only[Ans.ko];decide) (Ce (Ans.c (⟨2,false,kv0 16⟩:Ans)) (Sep.ku (by simp only[Ans.ko])) (Nk (Ag (Ac (BM I (id I) (AK I G58 Z58 (Hat 0 I) (Ans.ko _)) (λ_ h=>⟨(),rfl,T0,h.kv⟩)))))))))))))))))))))))))))
theorem cK (l:List En) (o:Opn) (hs:BG l) (hn:l.length<=1000) (hT:BH o=false) (hkd:o.kind=4):Con prog 33 [va,.agg o.c.toArray] (λw=>RdV w va En.enc l) [] (λ_:Unit=>.tuple #[va,.agg (Ans.c (⟨0,(AN l (kOf o)).2,(AN l (kOf o)).1⟩:Ans)).toArray]) Tr (λ_=>[]):=by
 intro w hl hH
 refine E0 func33 I hH (Cs I (l_e I (AT I I I I (λbo=>Ce o.c I (Las I (l_e I (Au I I I zeroValue58 (λba=>Ce (Ans.c BC) I (Ns (Cs I (Lq I (Cq (o.c) G43 Z43 1 I (I) (I)) (l_e I (E1 (Du o) I call64 Tt (λ_ _=>Nk (Sb 12 false I (by first|rfl|(rw[hkd];rfl)|exact hT) (Aa I (Ae (Kt (Cs I (Lfa U43 I Z9 I (Lo G9 1 I (l_e I (E1 (FQ o.key (Jh hT)) I call67 Tt ?_)))))))))))))))))))))))
 intro _ _
 rw[J6 hT]
 exact Mv 3 I (l_e I (Au I I I zeroValue77 (λbk=>Ce (kv0 8).c I (l_e I (Az I I Z77 I I (Kv.ko _) (Kv.one _) (by simp only[Kv.ko];decide) (AR (show Sep.splice _ 0 ((kOf o)).c=((kOf o)).c from Sep.ku (by simp only[Kv.ko])) (Ak I (Af (Cs I (Lfa U43 I Z3 I (Lo G3 2 I (Lq I (Qe I) (Nk (Sb 23 true I (by first|rfl|(rw[hkd];rfl)|exact hT) (Ah I (Cs I (Lm I (Lq I (Cq ((kOf o).c) G77 Z77 0 I (Bb _) (Kv.ko _)) (l_e I (E1 (Ll l (kOf o) hs hn) I call68 hl.kp (λ_ _=>Lm I (Mv 2 I (l_e I (Au I I I zeroValue56 (λbv=>Ce (kv0 16).c I (l_e I (Az I I Z56 I I (Kv.ko _) (Kv.one _) (by simp only[Kv.ko];decide) (AR (show Sep.splice _ 0 ((AN l (kOf o)).1).c=((AN l (kOf o)).1).c from Sep.ku (by simp only[Kv.ko])) (Ak I (Af (Do8 (rg 6) 486 _ I St.drawn Ih (Md 2 I (Dq I (Cq ((AN l (kOf o)).1.c) G56 Z56 0 I (Bb _) (Kv.ko _)) (Dq I (AP (Ans.c (⟨0,(AN l (kOf o)).2,(AN l (kOf o)).1⟩:Ans)) I I (jd (AN l (kOf o)).2 (AN l (kOf o)).1)) (Das I (AX (d_t I (Az I I Z58 I I (Ans.ko _) (Ans.one _) (by simp only[Ans.ko];decide) (Ce (Ans.c (⟨0,(AN l (kOf o)).2,(AN l (kOf o)).1⟩:Ans)) (Sep.ku (by simp only[Ans.ko])) (AL (Kt (Ag (Ac (BM I (id I) (AK I G58 Z58 (Hat 0 I) (Ans.ko _)) (λ_ h=>⟨(),rfl,T0,h.kv⟩)))))))))))))))))))))))))))))))))))))))))))))
theorem YN (l:List En) (o:Opn) (hs:BG l) (hn:l.length<=1000) (hck:∀e∈l,kck e.key=true) (hT:BH o=false) (hkd:o.kind=1):Con prog 33 [va,.agg o.c.toArray] (λw=>RdV w va En.enc l) [] (λv:Value=>.tuple #[v,.agg (Ans.c BC).toArray]) Tr (λv=>[AA v 79 En.enc (Bs l (mOf o))]):=by
 intro w hl hH
 refine E0 func33 I hH (Cs I (l_e I (AT I I I I (λbo=>Ce o.c I (Las I (l_e I (Au I I I zeroValue58 (λba=>Ce (Ans.c BC) I (Ns (Cs I (Lq I (Cq (o.c) G43 Z43 1 I (I) (I)) (l_e I (E1 (Du o) I call64 Tt (λ_ _=>Nk (Sb 12 false I (by first|rfl|(rw[hkd];rfl)|exact hT) (Aa I (Ae (Kt (Cs I (Lfa U43 I Z9 I (Lo G9 1 I (l_e I (E1 (FQ o.key (Jh hT)) I call67 Tt ?_)))))))))))))))))))))))
 intro _ _
 rw[J6 hT]
 refine Mv 3 I (l_e I (Au I I I zeroValue77 (λbk=>Ce (kv0 8).c I (l_e I (Az I I Z77 I I (Kv.ko _) (Kv.one _) (by simp only[Kv.ko];decide) (AR (show Sep.splice _ 0 ((kOf o)).c=((kOf o)).c from Sep.ku (by simp only[Kv.ko])) (Ak I (Af (Cs I (Lfa U43 I Z3 I (Lo G3 2 I (Lq I (Qe I) (Nk (Sb 23 false I (by first|rfl|(rw[hkd];rfl)|exact hT) (Aa I (Ae (Ks (Cs I (Lfa U43 I Z3 I (Lo G3 2 I (Mv 2 I (Sb 37 false I (by first|rfl|(rw[hkd];rfl)|exact hT) (Lfa U43 I Z3 I (Lo G3 2 I (Lq I (BQ I I I) ?_)))))))))))))))))))))))))
 refine Lq I (Qz I) (Nk (Sb 41 false I (by first|rfl|(rw[hkd];rfl)|exact hT) (Aa I (Ae (Kt (Cs I (Lfa U43 I Z3 I (Lo G3 2 I (Lq I (Cq ((kOf o).c) G77 Z77 0 I (Bb _) (Kv.ko _)) (Lq I (AP (Ms.c (m0 o)) I I (XX o.kind o.wk (kOf o))) (l_e I (Au I I I zeroValue154 (λbm=>Ce ms0.c I (l_e I (Az I I Bl I I (Ms.ko _) (Ms.one _) (by simp only[Ms.ko];decide) (Ce (Ms.c (m0 o)) (Sep.ku (by simp only[Ms.ko])) (Ns (Cs I (Lfa U43 I Z3 I (Lo G3 3 I (Lq I (Qe I) (Nk (Sb 50 true I (by first|rfl|(rw[hkd];rfl)|exact hT) (Ah I (Cr I (Lfa U43 I Z9 I (Lo G9 3 I (l_e I (E1 (M3 o.val (R7 hT hkd)) I call69 Tt ?_)))))))))))))))))))))))))))))
 intro _ _
 rw[cI hT hkd]
 refine Mv 3 I (Lfa B8 I Z56 I (l_e I (Az I I Z56 I I (Kv.ko _) (Kv.one _) (by rw[Kv.ko,Ms.ko];decide) (AR (Ms.set_val _ _) (Ns (Cs I (Lfa U43 I Z3 I (Lo G3 3 I (Lq I (Qe I) (Nk (Sb 60 false I (by first|rfl|(rw[hkd];rfl)|exact hT) (Aa I (Ae (Kt (Cs I (Lm I (Lq I (Cq (((m0 o).setVal (vOf o)).c) Cm Bl 0 I (Br _) (Ms.ko _)) ?_)))))))))))))))))
 have hmo:((m0 o).setVal (vOf o))=mOf o:=by rw[Ty hkd]
 rw[hmo]
 exact l_e I (AZ (Jg l (mOf o) hs hn hck (EU o) (by show o.kind=1\/o.kind=2\/o.kind=3;omega)) I I I call70 I hl.kp (λv _=>Lq I (AP (Ans.c BC) I I (λw=>by kernel_rfl)) (Las I (D3 (l_e I (Az I I Z58 I I (Ans.ko _) (Ans.one _) (by simp only[Ans.ko];decide) (Ce (Ans.c BC) (Sep.ku (by simp only[Ans.ko])) (Nk (Ag (Pm [0,1,1,1] I (BM I (id I) (AK I G58 Z58 (Hat 0 I) (Ans.ko _)) (λ_ h=>⟨v,rfl,T0,h.drop.drop.drop.drop⟩))))))))))))
theorem YO (l:List En) (o:Opn) (hs:BG l) (hn:l.length<=1000) (hck:∀e∈l,kck e.key=true) (hT:BH o=false) (hkd:o.kind=2):Con prog 33 [va,.agg o.c.toArray] (λw=>RdV w va En.enc l) [] (λv:Value=>.tuple #[v,.agg (Ans.c BC).toArray]) Tr (λv=>[AA v 79 En.enc (Bs l (mOf o))]):=by
 intro w hl hH
 refine E0 func33 I hH (Cs I (l_e I (AT I I I I (λbo=>Ce o.c I (Las I (l_e I (Au I I I zeroValue58 (λba=>Ce (Ans.c BC) I (Ns (Cs I (Lq I (Cq (o.c) G43 Z43 1 I (I) (I)) (l_e I (E1 (Du o) I call64 Tt (λ_ _=>Nk (Sb 12 false I (by first|rfl|(rw[hkd];rfl)|exact hT) (Aa I (Ae (Kt (Cs I (Lfa U43 I Z9 I (Lo G9 1 I (l_e I (E1 (FQ o.key (Jh hT)) I call67 Tt ?_)))))))))))))))))))))))
 intro _ _
 rw[J6 hT]
 refine Mv 3 I (l_e I (Au I I I zeroValue77 (λbk=>Ce (kv0 8).c I (l_e I (Az I I Z77 I I (Kv.ko _) (Kv.one _) (by simp only[Kv.ko];decide) (AR (show Sep.splice _ 0 ((kOf o)).c=((kOf o)).c from Sep.ku (by simp only[Kv.ko])) (Ak I (Af (Cs I (Lfa U43 I Z3 I (Lo G3 2 I (Lq I (Qe I) (Nk (Sb 23 false I (by first|rfl|(rw[hkd];rfl)|exact hT) (Aa I (Ae (Ks (Cs I (Lfa U43 I Z3 I (Lo G3 2 I (Mv 2 I (Sb 37 false I (by first|rfl|(rw[hkd];rfl)|exact hT) (Lfa U43 I Z3 I (Lo G3 2 I (Lq I (BQ I I I) ?_)))))))))))))))))))))))))
 refine Lq I (Qz I) (Nk (Sb 41 false I (by first|rfl|(rw[hkd];rfl)|exact hT) (Aa I (Ae (Kt (Cs I (Lfa U43 I Z3 I (Lo G3 2 I (Lq I (Cq ((kOf o).c) G77 Z77 0 I (Bb _) (Kv.ko _)) (Lq I (AP (Ms.c (m0 o)) I I (XX o.kind o.wk (kOf o))) (l_e I (Au I I I zeroValue154 (λbm=>Ce ms0.c I (l_e I (Az I I Bl I I (Ms.ko _) (Ms.one _) (by simp only[Ms.ko];decide) (Ce (Ms.c (m0 o)) (Sep.ku (by simp only[Ms.ko])) (Ns (Cs I (Lfa U43 I Z3 I (Lo G3 3 I (Lq I (Qe I) (Nk (Sb 50 false I (by first|rfl|(rw[hkd];rfl)|exact hT) (Aa I (Ae (Ks (Cs I (Lfa U43 I Z3 I (Lo G3 3 I (Lq I (Qe I) (Nk (Sb 60 false I (by first|rfl|(rw[hkd];rfl)|exact hT) (Aa I (Ae (Kt (Cs I ?_))))))))))))))))))))))))))))))))))))
 refine Lm I (Lq I (Cq ((m0 o).c) Cm Bl 0 I (Br _) (Ms.ko _)) ?_)
 have hmo:(m0 o)=mOf o:=by rw[TA hkd]
 rw[hmo]
 exact l_e I (AZ (Jg l (mOf o) hs hn hck (EU o) (by show o.kind=1\/o.kind=2\/o.kind=3;omega)) I I I call70 I hl.kp (λv _=>Lq I (AP (Ans.c BC) I I (λw=>by kernel_rfl)) (Las I (D3 (l_e I (Az I I Z58 I I (Ans.ko _) (Ans.one _) (by simp only[Ans.ko];decide) (Ce (Ans.c BC) (Sep.ku (by simp only[Ans.ko])) (Nk (Ag (Pm [0,1,1,1] I (BM I (id I) (AK I G58 Z58 (Hat 0 I) (Ans.ko _)) (λ_ h=>⟨v,rfl,T0,h.drop.drop.drop.drop⟩))))))))))))
theorem YP (l:List En) (o:Opn) (hs:BG l) (hn:l.length<=1000) (hck:∀e∈l,kck e.key=true) (hT:BH o=false) (hkd:o.kind=3):Con prog 33 [va,.agg o.c.toArray] (λw=>RdV w va En.enc l) [] (λv:Value=>.tuple #[v,.agg (Ans.c BC).toArray]) Tr (λv=>[AA v 79 En.enc (Bs l (mOf o))]):=by
 intro w hl hH
 refine E0 func33 I hH (Cs I (l_e I (AT I I I I (λbo=>Ce o.c I (Las I (l_e I (Au I I I zeroValue58 (λba=>Ce (Ans.c BC) I (Ns (Cs I (Lq I (Cq (o.c) G43 Z43 1 I (I) (I)) (l_e I (E1 (Du o) I call64 Tt (λ_ _=>Nk (Sb 12 false I (by first|rfl|(rw[hkd];rfl)|exact hT) (Aa I (Ae (Kt (Cs I (Lfa U43 I Z9 I (Lo G9 1 I (l_e I (E1 (FQ o.key (Jh hT)) I call67 Tt ?_)))))))))))))))))))))))
 intro _ _
 rw[J6 hT]
 refine Mv 3 I (l_e I (Au I I I zeroValue77 (λbk=>Ce (kv0 8).c I (l_e I (Az I I Z77 I I (Kv.ko _) (Kv.one _) (by simp only[Kv.ko];decide) (AR (show Sep.splice _ 0 ((kOf o)).c=((kOf o)).c from Sep.ku (by simp only[Kv.ko])) (Ak I (Af (Cs I (Lfa U43 I Z3 I (Lo G3 2 I (Lq I (Qe I) (Nk (Sb 23 false I (by first|rfl|(rw[hkd];rfl)|exact hT) (Aa I (Ae (Ks (Cs I (Lfa U43 I Z3 I (Lo G3 2 I (Mv 2 I (Sb 37 false I (by first|rfl|(rw[hkd];rfl)|exact hT) (Lfa U43 I Z3 I (Lo G3 2 I (Lq I (BQ I I I) ?_)))))))))))))))))))))))))
 refine Lq I (Qz I) (Nk (Sb 41 false I (by first|rfl|(rw[hkd];rfl)|exact hT) (Aa I (Ae (Kt (Cs I (Lfa U43 I Z3 I (Lo G3 2 I (Lq I (Cq ((kOf o).c) G77 Z77 0 I (Bb _) (Kv.ko _)) (Lq I (AP (Ms.c (m0 o)) I I (XX o.kind o.wk (kOf o))) (l_e I (Au I I I zeroValue154 (λbm=>Ce ms0.c I (l_e I (Az I I Bl I I (Ms.ko _) (Ms.one _) (by simp only[Ms.ko];decide) (Ce (Ms.c (m0 o)) (Sep.ku (by simp only[Ms.ko])) (Ns (Cs I (Lfa U43 I Z3 I (Lo G3 3 I (Lq I (Qe I) (Nk (Sb 50 false I (by first|rfl|(rw[hkd];rfl)|exact hT) (Aa I (Ae (Ks (Cs I (Lfa U43 I Z3 I (Lo G3 3 I (Lq I (Qe I) (Nk (Sb 60 true I (by first|rfl|(rw[hkd];rfl)|exact hT) (Ah I (Cr I (Lfa U43 I Z41 I (Lo G41 3 I ?_))))))))))))))))))))))))))))))))))))
 refine Lfa B8 I Z41 I (l_e I (AG I I Z41 I I I (by rw[Ms.ko];decide) (AR (Ms.set_by _ _ o.wb) (Nk (Cs I (Lm I (Lq I (Cq (((m0 o).setBy o.by' o.wb).c) Cm Bl 0 I (Br _) (Ms.ko _)) ?_)))))))
 have hmo:((m0 o).setBy o.by' o.wb)=mOf o:=by rw[Tz hkd]
 rw[hmo]
 exact l_e I (AZ (Jg l (mOf o) hs hn hck (EU o) (by show o.kind=1\/o.kind=2\/o.kind=3;omega)) I I I call70 I hl.kp (λv _=>Lq I (AP (Ans.c BC) I I (λw=>by kernel_rfl)) (Las I (D3 (l_e I (Az I I Z58 I I (Ans.ko _) (Ans.one _) (by simp only[Ans.ko];decide) (Ce (Ans.c BC) (Sep.ku (by simp only[Ans.ko])) (Nk (Ag (Pm [0,1,1,1] I (BM I (id I) (AK I G58 Z58 (Hat 0 I) (Ans.ko _)) (λ_ h=>⟨v,rfl,T0,h.drop.drop.drop.drop⟩))))))))))))
def ca0:Ca:=⟨0,0,⟨0,⟨#[]⟩,⟨#[]⟩,0,by decide,by decide⟩,0,0,BC⟩
def Fy (l:List Ca) (d:List Bool):Bool:=(List.range l.length).all (λi=>decide ((l.getD i ca0).to'<0)||d.getD i false)
theorem YQ {l:List Ca} {x:Ca} (hx:l[i]?=some x) (h1:0<=x.to') (h2:d[i]?=some false):Fy l d=false:=by
 unfold Fy
 rw[o7]
 refine⟨i,lQ.2 (lR.1 hx).1,?_⟩
 rw[om,om,hx,h2]
 simp;omega
theorem VF {l:List Ca} (h:∀i x b,i<l.length->l[i]?=some x->d[i]?=some b->x.to'<0\/b=true) (hl:d.length=l.length):Fy l d=true:=by
 unfold Fy
 rw[np]
 intro i hi
 have hi:=lQ.1 hi
 have h1:=h i _ _ hi (kY hi) (kY (by omega))
 rw[om,om,kY hi,kY (show i<d.length by omega)]
 simpa using h1
def EC (l:List Ca) (d:List Bool) (i:Nat):Bool:=!d.getD i false&&(List.range l.length).all (λj=>decide (j=i)||d.getD j false||!bef (l.getD j ca0) (l.getD i ca0))
theorem M8 {l:List Ca} (h:d[i]?=some true):EC l d i=false:=by
 unfold EC
 rw[om,h];rfl
theorem YR {l:List Ca} {x y:Ca} (hx:l[i]?=some x) (hy:l[j]?=some y) (hj:j≠i) (hd:d[j]?=some false) (hb:bef y x):EC l d i=false:=by
 unfold EC
 rw[Bool.and_eq_false_iff]
 right
 rw[o7]
 refine⟨j,lQ.2 (lR.1 hy).1,?_⟩
 rw[om,om,om,hx,hy,hd]
 simp[hj,hb]
theorem VG {l:List Ca} {x:Ca} (hx:l[i]?=some x) (hi:d[i]?=some false) (h:∀j y b,j<l.length->l[j]?=some y->d[j]?=some b->j=i\/b=true\/bef y x=false) (hl:d.length=l.length):EC l d i=true:=by
 unfold EC
 rw[mz]
 refine⟨by rw[om,hi];rfl,?_⟩
 rw[np]
 intro j hj
 have hj:=lQ.1 hj
 have h1:=h j _ _ hj (kY hj) (kY (by omega))
 rw[om,om,om,kY hj,kY (show j<d.length by omega),hx]
 simp only[lV]
 rcases h1 with h1|h1|h1
 .simp[h1]
 .simp[h1]
 .simp[h1]
theorem R8 (l:List Ca) (d:List Bool) (hn:l.length<=1000) (hl:d.length=l.length):Con prog 152 [va,vd] (λw=>RdV w va Ca.enc l/\RdV w vd FB d) [] (λ_:Unit=>.bool (Fy l d)) Tr (λ_=>[]):=by
 intro w hE hH
 refine E0 func152 I hH (Cs I (Ak I (Af (Cs I (Ak I (Aj ?_))))))
 refine A0 (λ(i:Nat)=>[(0,va),(1,vd),(5,.int .i64 (i:Int))]) (λ(i:Nat)=>St w [] []) (λ(i:Nat)=>i<=l.length/\∀j x b,j<i->l[j]?=some x->d[j]?=some b->x.to'<0\/b=true) (λ(i:Nat)=>l.length-i) (0) ⟨lK _,λj x b h=>absurd h (ov _)⟩ (Si I) Ih (λi hp=>Af (Af ?_))
 obtain⟨hi,hno⟩:=hp
 refine Cr I (Mv 2 I (Lq I (AJ I U36 I hE.1.kp) (Lq I (Ql I) (Nk (CB 9 I (λh1=>?_) (λh1=>?_))))))
 .obtain⟨xi,hxi⟩:∃x,l[i]?=some x:=⟨_,kY (by omega)⟩
  obtain⟨bi,hdi⟩:∃b,d[i]?=some b:=⟨_,kY (by omega)⟩
  refine Ah I (Ae (Ks (Aj (Cs I (Mv 2 I (Lq I (Ar i I U36 Z60 I hE.1.kp I I) (Lfa U60 I Z3 I (Lq I (AI i 7 I G3 I I hE.1.kp hxi I) (Mv 2 I (CB 18 I (λh1=>?_) (λh1=>?_)))))))))))
  .refine Mv 2 I (Lq I (Ar i I Gh Z4 I hE.2.kp I I) (Lq I (AI i 0 I G4 I I hE.2.kp hdi I) (Mv 2 I (Nk (CB 24 I (λh2=>?_) (λh2=>?_))))))
   .exact Ah I (Cs I (Ak I (Ag (As (Ac (Ac (As (Ac (Ao I I (λ_ h=>⟨(),congrArg Eb (YQ hxi (by omega) (by first|exact hdi|(rw[hdi];congr 1;done)|(rw[hdi];congr 1;simp_all))).symm,T0,h⟩))))))))))
   .refine Aa I (Ae (Aw (Kt (Cr I (Lm I (Lq I (Qi I) (Las I (AB ?_))))))))
    exact AE (i+1) (by omega) ⟨by omega,λj x b hj hx hb=>by
     rcases o8.1 hj with h3|rfl
     .exact hno j x b h3 hx hb
     .rw[hxi] at hx;rw[hdi] at hb;cases hx;cases hb;all_goals (first|(left;omega)|(right;simp_all))⟩ (Si I) (λ_ h=>h)
  .refine Mv 6 I (Nk (Aa I (Ae (Aw (Kt (Cr I (Lm I (Lq I (Qi I) (Las I (AB ?_))))))))))
   exact AE (i+1) (by omega) ⟨by omega,λj x b hj hx hb=>by
    rcases o8.1 hj with h3|rfl
    .exact hno j x b h3 hx hb
    .rw[hxi] at hx;rw[hdi] at hb;cases hx;cases hb;all_goals (first|(left;omega)|(right;simp_all))⟩ (Si I) (λ_ h=>h)
 .exact Aa I (AO (Ab (Ab (Am (Kt (Cs I (Ak I (Ag (Ao I I (λ_ h=>⟨(),congrArg Eb (VF (λj x b hj=>hno j x b (by omega)) hl).symm,T0,h⟩))))))))))
theorem R9 (l:List Ca) (d:List Bool) (i:Nat) (hi:i<l.length) (hn:l.length<=1000) (hl:d.length=l.length):Con prog 154 [va,vd,.int .i64 (i:Int)] (λw=>RdV w va Ca.enc l/\RdV w vd FB d) [] (λ_:Unit=>.bool (EC l d i)) Tr (λ_=>[]):=by
 intro w hE hH
 obtain⟨xi,hxi⟩:∃x,l[i]?=some x:=⟨_,kY (by omega)⟩
 obtain⟨bi,hdi⟩:∃b,d[i]?=some b:=⟨_,kY (by omega)⟩
 refine E0 func154 I hH (Cs I (Ak I (Af (Cs I (Mv 2 I (Lq I (Ar i I Gh Z4 I hE.2.kp I I) (Lq I (AI i 0 I G4 I I hE.2.kp hdi I) (Nk ?_))))))))
 cases bi
 .refine Sb 11 false I (I) (Aa I (Ae (Ks (Cs I (Ak I (Aj ?_))))))
  refine A0 (λ(j:Nat)=>[(0,va),(1,vd),(2,.int .i64 (i:Int)),(7,.int .i64 (j:Int))]) (λ(j:Nat)=>St w [] []) (λ(j:Nat)=>j<=l.length/\∀k y b,k<j->l[k]?=some y->d[k]?=some b->k=i\/b=true\/bef y xi=false) (λ(j:Nat)=>l.length-j) (0) ⟨lK _,λk y b h=>absurd h (ov _)⟩ (Si I) Ih (λj hp=>Af (Af ?_))
  obtain⟨hj,hno⟩:=hp
  refine Cr I (Mv 2 I (Lq I (AJ I U36 I hE.1.kp) (Lq I (Ql I) (Nk (CB 15 I (λh1=>?_) (λh1=>?_))))))
  .obtain⟨xj,hxj⟩:∃x,l[j]?=some x:=⟨_,kY (by omega)⟩
   obtain⟨bj,hdj⟩:∃b,d[j]?=some b:=⟨_,kY (by omega)⟩
   refine Ah I (Ae (Ks (Aj (Af (Do8 (rg 21) 9298091736 (λw2=>RdV w2 va Ca.enc l/\RdV w2 vd FB d) I St.drawn (λ_ h=>⟨hE.1.keep h (by simp),hE.2.keep h (by simp)⟩) (Md 4 I (CB 21 I (λh2=>?_) (λh2=>?_))))))))
   .refine Md 2 I (Dq I (Ar j I Gh Z4 I (λ_ h=>h.2) I I) (Dq I (AI j 0 I G4 I I (λ_ h=>h.2) hdj I) (Md 3 I (CB 28 I (λh3=>?_) (λh3=>?_)))))
    .refine Md 2 I (Dq I (Ar j I U36 Z60 I (λ_ h=>h.1) I I) (Dq I (AV j I G60 Z60 I I (λ_ h=>h.1) hxj) (Md 2 I (Dq I (Ar i I U36 Z60 I (λ_ h=>h.1) I I) (Dq I (AV i I G60 Z60 I I (λ_ h=>h.1) hxi) (d_t I (E1 (VD xj xi) I call30 Tt (λ_ _=>d_t I (e_q I I (Qy I) (AL (Kt (CB 38 I (λh4=>?_) (λh4=>?_)))))))))))))
     .exact Ah I (Cs I (Ak I (Ag (As (Ac (Ac (As (Ac (Ao I I (λ_ h=>⟨(),congrArg Eb (YR hxi hxj (by omega) (by first|exact hdj|(rw[hdj];congr 1;done)|(rw[hdj];simp_all)) (by assumption)).symm,T0,h⟩))))))))))
     .refine Aa I (Ae (Aw (Kt (Cr I (Lm I (Lq I (Qi I) (Las I (AB ?_))))))))
      exact AE (j+1) (by omega) ⟨by omega,λk y b hk hy hb=>by
       rcases o8.1 hk with h3|rfl
       .exact hno k y b h3 hy hb
       .rw[hxj] at hy;rw[hdj] at hb;cases hy;cases hb;all_goals (first|(left;omega)|(right;left;rfl)|(right;left;assumption)|(right;right;assumption)|(right;simp_all))⟩ (Si I) (λ_ h=>h)
    .refine Md 9 I (d_t I (e_q I I (Qz I) (AL (Kt (Aa I (Ae (Aw (Kt (Cr I (Lm I (Lq I (Qi I) (Las I (AB ?_)))))))))))))
     exact AE (j+1) (by omega) ⟨by omega,λk y b hk hy hb=>by
      rcases o8.1 hk with h3|rfl
      .exact hno k y b h3 hy hb
      .rw[hxj] at hy;rw[hdj] at hb;cases hy;cases hb;all_goals (first|(left;omega)|(right;left;rfl)|(right;left;assumption)|(right;right;assumption)|(right;simp_all))⟩ (Si I) (λ_ h=>h)
   .refine Md 16 I (d_t I (e_q I I (Qz I) (AL (Kt (Aa I (Ae (Aw (Kt (Cr I (Lm I (Lq I (Qi I) (Las I (AB ?_)))))))))))))
    exact AE (j+1) (by omega) ⟨by omega,λk y b hk hy hb=>by
     rcases o8.1 hk with h3|rfl
     .exact hno k y b h3 hy hb
     .rw[hxj] at hy;rw[hdj] at hb;cases hy;cases hb;all_goals (first|(left;omega)|(right;left;rfl)|(right;left;assumption)|(right;right;assumption)|(right;simp_all))⟩ (Si I) (λ_ h=>h)
  .exact Aa I (AO (Ab (Ab (Am (Kt (Cs I (Ak I (Ag (Ao I I (λ_ h=>⟨(),congrArg Eb (VG hxi hdi (λk y b hk=>hno k y b (by omega)) hl).symm,T0,h⟩))))))))))
 .exact Sb 11 true I (I) (Ah I (Cs I (Ak I (Ag (Ac (Ao I I (λ_ h=>⟨(),congrArg Eb (M8 hdi).symm,T0,h⟩)))))))
def fB (c:Ca):Bool:=decide (0<=c.to')&&(decide (c.a.code=3)||decide (c.a.code=2))
def rDo (l:List En) (o:Opn):List En×Ans:=if BH o=true then (l,⟨2,false,kv0 16⟩) else if o.kind=4 then (l,⟨0,(AN l (kOf o)).2,(AN l (kOf o)).1⟩) else (Bs l (mOf o),BC)
def M9 (a b:Ans):Bool:=decide (a.code=b.code/\a.f=b.f/\a.v=b.v)
def Bj (l:List En) (c:Ca):List En×Bool:=if fB c=true then (l,decide (c.a.code=3)||BH c.op) else ((rDo l c.op).1,decide (c.to'<0)||M9 (rDo l c.op).2 c.a)
theorem Ca.op_part (e:Ca):(e.c.drop 2).take 4=e.op.c:=by
 unfold Ca.c;rfl
section
variable {n:Nat} {L:Env} {X:World->Prop} {o:Oper}
theorem Ls {x:Operand} (a b:Ans) (ho:o.op=.binOp .eql 58 x y u) (hx:ev L x=some (.agg a.c.toArray)) (hy:ev L y=some (.agg b.c.toArray)) (ha:(Lit.int .i64 a.code).wf=true:=by first|assumption|decide|(show (Lit.int .i64 0).wf=true;decide)) (hb:(Lit.int .i64 b.code).wf=true:=by first|assumption|decide|(show (Lit.int .i64 0).wf=true;decide)):QOp prog n L X o (.bool (M9 a b)) :=
 JU (d:=4) (ks:=Ans.ks) _ (by kernel_rfl) (by kernel_rfl) (by decide) (by kernel_rfl) (by kernel_rfl) (by kernel_rfl) ho hx hy (Ans.kinds ha) (Ans.kinds hb) (by rw[Ans.c_inj];unfold M9;rw[mS])
end
theorem gG {c:Ca} (h:¬0<=c.to'):false=fB c:=by unfold fB;rw[oc h];rfl
theorem gI {c:Ca} (h:0<=c.to') (h2:c.a.code=3):true=fB c:=by unfold fB;rw[od h,od h2];rfl
theorem gJ {c:Ca} (h:0<=c.to') (h2:¬c.a.code=3):decide (c.a.code=2)=fB c:=by unfold fB;rw[od h,oc h2];rfl
theorem DB (c:Ca):Con prog 63 [.agg c.c.toArray] Tr [] (λ_:Unit=>.bool (fB c)) Tr (λ_=>[]):=by
 intro w hE hH
 refine E0 func63 I hH (Cs I (l_e I (AT I I I I (λbc=>Ce c.c I (Ak I (Cs I (Lfa U60 I Z3 I (Lo G3 0 I (Mv 2 I (CB 6 I (λh1=>?_) (λh1=>?_)))))))))))
 .refine Lfa U60 I Z58 I (Lfa U58 I Z44 I (Lo G44 0 I (Mv 2 I (CB 11 I (λh2=>?_) (λh2=>?_)))))
  .exact Mv 6 I (Ak I (Ag (Ao I I (λ_ h=>⟨(),congrArg Eb (by first|exact gG (by omega)|exact gI (by omega) (by omega)|exact gJ (by omega) (by omega)),T0,h.kv⟩))))
  .exact Lfa U60 I Z58 I (Lfa U58 I Z44 I (Lo G44 0 I (Mv 3 I (Ak I (Ag (Ao I I (λ_ h=>⟨(),congrArg Eb (by first|exact gG (by omega)|exact gI (by omega) (by omega)|exact gJ (by omega) (by omega)),T0,h.kv⟩)))))))
 .exact Mv 11 I (Ak I (Ag (Ao I I (λ_ h=>⟨(),congrArg Eb (by first|exact gG (by omega)|exact gI (by omega) (by omega)|exact gJ (by omega) (by omega)),T0,h.kv⟩))))
theorem YS {c:Ca} (h:fB c):Bj l c=(l,decide (c.a.code=3)||BH c.op):=by unfold Bj;rw[lu h]
theorem FU {c:Ca} {q:List En×Ans} (h:fB c=false) (hq:rDo l c.op=q):Bj l c=(q.1,decide (c.to'<0)||M9 q.2 c.a):=by unfold Bj;rw[lz (by rw[h];decide),hq]
theorem Sa (h:BH o):rDo l o=(l,⟨2,false,kv0 16⟩):=by unfold rDo;rw[lu h]
theorem Lu (h:BH o=false) (hk:o.kind=4):rDo l o=(l,⟨0,(AN l (kOf o)).2,(AN l (kOf o)).1⟩):=by unfold rDo;rw[lz (by rw[h];decide),lu hk]
theorem Eo (h:BH o=false) (hk:o.kind≠4):rDo l o=(Bs l (mOf o),BC):=by unfold rDo;rw[lz (by rw[h];decide),lz hk]
theorem JO {a b:Bool} (h:a):true=(a||b):=by rw[h];rfl
theorem JP {a b:Bool} (h:a=false):b=(a||b):=by rw[h];rfl
theorem Sd (l:List En) (c:Ca) (hs:BG l) (hn:l.length<=1000) (hF:fB c):Con prog 22 [va,.agg c.c.toArray] (λw=>RdV w va En.enc l) [] (λ_:Unit=>.tuple #[va,.bool (Bj l c).2]) Tr (λ_=>[]):=by
 intro w hl hH
 refine E0 func22 I hH (Cs I (l_e I (AT I I I I (λbc=>Ce c.c I (Las I (Ak I (Af (Cs I (Lq I (Cq (c.c) G60 Z60 0 I (lI (by rw[lE,Ca.ko];decide)) (Ca.ko _)) (l_e I (E1 (DB c) I call63 Tt (λ_ _=>Nk (Sb 9 true I (hF) (Ah I (Cs I (Lm I (Lfa U60 I Z58 I (Lfa U58 I Z44 I (Lo G44 0 I (Mv 2 I (CB 15 I (λh1=>?_) (λh1=>?_))))))))))))))))))))))
 .exact Mv 5 I (Ak I (Ag (Ac (Bg (rs:=[.tmp 4,.tmp 5]) I I (λ_ h=>⟨(),by rw[YS hF];exact congrArg (λz=>Ending.returned (Value.tuple #[va,.bool z])) (by first|exact JO (by first|assumption|exact od (by omega))|exact JP (by first|assumption|exact oc (by omega))),T0,h.kv⟩)))))
 .exact Lfa U60 I Z43 I (Lq I (Cq (c.op.c) G43 Z43 0 I (Ca.op_part _) (I)) (l_e I (E1 (Du c.op) I call64 Tt (λ_ _=>Lq I (Qz I) (Las I (Ak I (Ag (Ac (Bg (rs:=[.tmp 4,.tmp 5]) I I (λ_ h=>⟨(),by rw[YS hF];exact congrArg (λz=>Ending.returned (Value.tuple #[va,.bool z])) (by first|exact JO (by first|assumption|exact od (by omega))|exact JP (by first|assumption|exact oc (by omega))),T0,h.kv⟩))))))))))
theorem VH (l:List En) (c:Ca) (hs:BG l) (hn:l.length<=1000) (hw:(Lit.int .i64 c.a.code).wf) (hF:fB c=false) (hT:BH c.op):Con prog 22 [va,.agg c.c.toArray] (λw=>RdV w va En.enc l) [] (λ_:Unit=>.tuple #[va,.bool (Bj l c).2]) Tr (λ_=>[]):=by
 intro w hl hH
 refine E0 func22 I hH ?_
 refine Cs I (l_e I (AT I I I I (λbc=>Ce c.c I (Las I (Ak I (Af (Cs I (Lq I (Cq (c.c) G60 Z60 0 I (lI (by rw[lE,Ca.ko];decide)) (Ca.ko _)) (l_e I (E1 (DB c) I call63 Tt (λ_ _=>Nk (Sb 9 false I (hF) (Aa I (Ae (Kt (Cs I (Lm I (Lfa U60 I Z43 I (Lq I (Cq (c.op.c) G43 Z43 0 I (Ca.op_part _) (I)) (l_e I (E1 (cJ l c.op hs hn hT) I call33 hl.kp (λ_ _=>Lm I (Mv 2 I (l_e I (Au I I I zeroValue58 (λba=>Ce (Ans.c BC) I (Las I (l_e I (Az I I Z58 I I (Ans.ko _) (Ans.one _) (by simp only[Ans.ko];decide) (Ce (Ans.c (⟨2,false,kv0 16⟩:Ans)) (Sep.ku (by simp only[Ans.ko])) (Ns (Do8 (rg 12) 354294 _ I St.drawn Ih (Dm I (Dfa U60 I Z3 I (Dq I (Al I G3 I (Hat 1 I) I) (Md 2 I ?_))))))))))))))))))))))))))))))))))))
 refine CB 31 I (λh2=>?_) (λh2=>?_)
 .exact Md 6 I (d_t I (e_q I I (AF I I) (AL (Kt (Ag (Bg (rs:=[.tmp 4,.tmp 5]) I I (λ_ h=>⟨(),by rw[FU hF (Sa hT)];exact congrArg (λz=>Ending.returned (Value.tuple #[va,.bool z])) (by first|exact JO Dt|exact JP Df),T0,h.kv⟩)))))))
 .exact Dq I (Cq (Ans.c (⟨2,false,kv0 16⟩:Ans)) G58 Z58 0 I (lI (by rw[lE,Ans.ko];decide)) (Ans.ko _)) (Dfa U60 I Z58 I (Dq I (Cq (c.a.c) G58 Z58 1 I (Ca.a_part _) (Ans.ko _)) (Dq I (Ls ((⟨2,false,kv0 16⟩:Ans)) (c.a) I I I) (Md 2 I (d_t I (e_q I I (AF I I) (AL (Kt (Ag (Bg (rs:=[.tmp 4,.tmp 5]) I I (λ_ h=>⟨(),by rw[FU hF (Sa hT)];exact congrArg (λz=>Ending.returned (Value.tuple #[va,.bool z])) (by first|exact JO Dt|exact JP Df),T0,h.kv⟩)))))))))))
theorem VI (l:List En) (c:Ca) (hs:BG l) (hn:l.length<=1000) (hw:(Lit.int .i64 c.a.code).wf) (hF:fB c=false) (hT:BH c.op=false) (hkd:c.op.kind=4):Con prog 22 [va,.agg c.c.toArray] (λw=>RdV w va En.enc l) [] (λ_:Unit=>.tuple #[va,.bool (Bj l c).2]) Tr (λ_=>[]):=by
 intro w hl hH
 refine E0 func22 I hH ?_
 refine Cs I (l_e I (AT I I I I (λbc=>Ce c.c I (Las I (Ak I (Af (Cs I (Lq I (Cq (c.c) G60 Z60 0 I (lI (by rw[lE,Ca.ko];decide)) (Ca.ko _)) (l_e I (E1 (DB c) I call63 Tt (λ_ _=>Nk (Sb 9 false I (hF) (Aa I (Ae (Kt (Cs I (Lm I (Lfa U60 I Z43 I (Lq I (Cq (c.op.c) G43 Z43 0 I (Ca.op_part _) (I)) (l_e I (E1 (cK l c.op hs hn hT hkd) I call33 hl.kp (λ_ _=>Lm I (Mv 2 I (l_e I (Au I I I zeroValue58 (λba=>Ce (Ans.c BC) I (Las I (l_e I (Az I I Z58 I I (Ans.ko _) (Ans.one _) (by simp only[Ans.ko];decide) (Ce (Ans.c (⟨0,(AN l (kOf c.op)).2,(AN l (kOf c.op)).1⟩:Ans)) (Sep.ku (by simp only[Ans.ko])) (Ns (Do8 (rg 12) 354294 _ I St.drawn Ih (Dm I (Dfa U60 I Z3 I (Dq I (Al I G3 I (Hat 1 I) I) (Md 2 I ?_))))))))))))))))))))))))))))))))))))
 refine CB 31 I (λh2=>?_) (λh2=>?_)
 .exact Md 6 I (d_t I (e_q I I (AF I I) (AL (Kt (Ag (Bg (rs:=[.tmp 4,.tmp 5]) I I (λ_ h=>⟨(),by rw[FU hF (Lu hT hkd)];exact congrArg (λz=>Ending.returned (Value.tuple #[va,.bool z])) (by first|exact JO Dt|exact JP Df),T0,h.kv⟩)))))))
 .exact Dq I (Cq (Ans.c (⟨0,(AN l (kOf c.op)).2,(AN l (kOf c.op)).1⟩:Ans)) G58 Z58 0 I (lI (by rw[lE,Ans.ko];decide)) (Ans.ko _)) (Dfa U60 I Z58 I (Dq I (Cq (c.a.c) G58 Z58 1 I (Ca.a_part _) (Ans.ko _)) (Dq I (Ls ((⟨0,(AN l (kOf c.op)).2,(AN l (kOf c.op)).1⟩:Ans)) (c.a) I I I) (Md 2 I (d_t I (e_q I I (AF I I) (AL (Kt (Ag (Bg (rs:=[.tmp 4,.tmp 5]) I I (λ_ h=>⟨(),by rw[FU hF (Lu hT hkd)];exact congrArg (λz=>Ending.returned (Value.tuple #[va,.bool z])) (by first|exact JO Dt|exact JP Df),T0,h.kv⟩)))))))))))
theorem Se (l:List En) (c:Ca) (hs:BG l) (hn:l.length<=1000) (hw:(Lit.int .i64 c.a.code).wf) (hck:∀e∈l,kck e.key=true) (hF:fB c=false) (hT:BH c.op=false) (hkd:c.op.kind=1):Con prog 22 [va,.agg c.c.toArray] (λw=>RdV w va En.enc l) [] (λv:Value=>.tuple #[v,.bool (Bj l c).2]) Tr (λv=>[AA v 79 En.enc (Bj l c).1]):=by
 intro w hl hH
 refine E0 func22 I hH ?_
 refine Cs I (l_e I (AT I I I I (λbc=>Ce c.c I (Las I (Ak I (Af (Cs I (Lq I (Cq (c.c) G60 Z60 0 I (lI (by rw[lE,Ca.ko];decide)) (Ca.ko _)) (l_e I (E1 (DB c) I call63 Tt (λ_ _=>Nk (Sb 9 false I (hF) (Aa I (Ae (Kt (Cs I (Lm I (Lfa U60 I Z43 I (Lq I (Cq (c.op.c) G43 Z43 0 I (Ca.op_part _) (I)) (l_e I (AZ (YN l c.op hs hn hck hT hkd) I I I call33 I hl.kp (λv _=>Lm I (Mv 2 I (l_e I (Au I I I zeroValue58 (λba=>Ce (Ans.c BC) I (Las I (l_e I (Az I I Z58 I I (Ans.ko _) (Ans.one _) (by simp only[Ans.ko];decide) (Ce (Ans.c BC) (Sep.ku (by simp only[Ans.ko])) (Ns (Do8 (rg 12) 354294 _ I St.drawn Ih (Dm I (Dfa U60 I Z3 I (Dq I (Al I G3 I (Hat 2 I) I) (Md 2 I ?_))))))))))))))))))))))))))))))))))))
 refine CB 31 I (λh2=>?_) (λh2=>?_)
 .exact Md 6 I (d_t I (e_q I I (AF I I) (AL (Kt (Ag (Pm [0,1] I (Bg (rs:=[.tmp 4,.tmp 5]) I I (λ_ h=>⟨v,by rw[FU hF (Eo hT (by omega))];exact congrArg (λz=>Ending.returned (Value.tuple #[v,.bool z])) (by first|exact JO Dt|exact JP Df),T0,by rw[FU hF (Eo hT (by omega))];exact h.drop.drop⟩))))))))
 .exact Dq I (Cq (Ans.c BC) G58 Z58 0 I (lI (by rw[lE,Ans.ko];decide)) (Ans.ko _)) (Dfa U60 I Z58 I (Dq I (Cq (c.a.c) G58 Z58 2 I (Ca.a_part _) (Ans.ko _)) (Dq I (Ls (BC) (c.a) I I I) (Md 2 I (d_t I (e_q I I (AF I I) (AL (Kt (Ag (Pm [0,1] I (Bg (rs:=[.tmp 4,.tmp 5]) I I (λ_ h=>⟨v,by rw[FU hF (Eo hT (by omega))];exact congrArg (λz=>Ending.returned (Value.tuple #[v,.bool z])) (by first|exact JO Dt|exact JP Df),T0,by rw[FU hF (Eo hT (by omega))];exact h.drop.drop⟩))))))))))))
theorem Sg (l:List En) (c:Ca) (hs:BG l) (hn:l.length<=1000) (hw:(Lit.int .i64 c.a.code).wf) (hck:∀e∈l,kck e.key=true) (hF:fB c=false) (hT:BH c.op=false) (hkd:c.op.kind=2):Con prog 22 [va,.agg c.c.toArray] (λw=>RdV w va En.enc l) [] (λv:Value=>.tuple #[v,.bool (Bj l c).2]) Tr (λv=>[AA v 79 En.enc (Bj l c).1]):=by
 intro w hl hH
 refine E0 func22 I hH ?_
 refine Cs I (l_e I (AT I I I I (λbc=>Ce c.c I (Las I (Ak I (Af (Cs I (Lq I (Cq (c.c) G60 Z60 0 I (lI (by rw[lE,Ca.ko];decide)) (Ca.ko _)) (l_e I (E1 (DB c) I call63 Tt (λ_ _=>Nk (Sb 9 false I (hF) (Aa I (Ae (Kt (Cs I (Lm I (Lfa U60 I Z43 I (Lq I (Cq (c.op.c) G43 Z43 0 I (Ca.op_part _) (I)) (l_e I (AZ (YO l c.op hs hn hck hT hkd) I I I call33 I hl.kp (λv _=>Lm I (Mv 2 I (l_e I (Au I I I zeroValue58 (λba=>Ce (Ans.c BC) I (Las I (l_e I (Az I I Z58 I I (Ans.ko _) (Ans.one _) (by simp only[Ans.ko];decide) (Ce (Ans.c BC) (Sep.ku (by simp only[Ans.ko])) (Ns (Do8 (rg 12) 354294 _ I St.drawn Ih (Dm I (Dfa U60 I Z3 I (Dq I (Al I G3 I (Hat 2 I) I) (Md 2 I ?_))))))))))))))))))))))))))))))))))))
 refine CB 31 I (λh2=>?_) (λh2=>?_)
 .exact Md 6 I (d_t I (e_q I I (AF I I) (AL (Kt (Ag (Pm [0,1] I (Bg (rs:=[.tmp 4,.tmp 5]) I I (λ_ h=>⟨v,by rw[FU hF (Eo hT (by omega))];exact congrArg (λz=>Ending.returned (Value.tuple #[v,.bool z])) (by first|exact JO Dt|exact JP Df),T0,by rw[FU hF (Eo hT (by omega))];exact h.drop.drop⟩))))))))
 .exact Dq I (Cq (Ans.c BC) G58 Z58 0 I (lI (by rw[lE,Ans.ko];decide)) (Ans.ko _)) (Dfa U60 I Z58 I (Dq I (Cq (c.a.c) G58 Z58 2 I (Ca.a_part _) (Ans.ko _)) (Dq I (Ls (BC) (c.a) I I I) (Md 2 I (d_t I (e_q I I (AF I I) (AL (Kt (Ag (Pm [0,1] I (Bg (rs:=[.tmp 4,.tmp 5]) I I (λ_ h=>⟨v,by rw[FU hF (Eo hT (by omega))];exact congrArg (λz=>Ending.returned (Value.tuple #[v,.bool z])) (by first|exact JO Dt|exact JP Df),T0,by rw[FU hF (Eo hT (by omega))];exact h.drop.drop⟩))))))))))))
end Go.Proofs.YtloldofjddbjoaaGreat
