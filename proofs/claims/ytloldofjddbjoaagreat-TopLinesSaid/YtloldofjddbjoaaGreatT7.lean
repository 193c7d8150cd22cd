/- Part 7 of the proof. No condition. -/
import Derived.Test.YtloldofjddbjoaaGreatT6
set_option linter.unusedVariables false
set_option linter.unusedSimpArgs false
set_option maxHeartbeats 8000000
set_option maxRecDepth 100000
namespace Go.Proofs.YtloldofjddbjoaaGreat
open Go.Sep Go.RowKit Tryz
variable {l:List En} {m:Ms} {i nb nf k fl:Nat} {t sq n:Int} {e:En} {s:ByteArray} {L2:Hm} {va:Value} {a b:Kv 8} {r r2:Rdr} {v v2:Wv} {inn:Bool} {α:Type} {ls:List (List Opn)}
namespace Lo
theorem Inv0.goes {m:HM} (h:Inv0 m) (he:m.cs.all Cl.ended=false):∃(t:Nat) (c:Cl),m.cs[t]?=some c/\mayC (t:Int) m.L c=true:=by
 obtain⟨c,hcm,hce⟩:=j9.1 he
 obtain⟨t,hc⟩:=jK.1 hcm
 have h8:∀(v:Nat) (d:Cl),m.cs[v]?=some d->tkB (v:Int)=true:=fun v d hd=>by
  have:=(gl.1 hd).1
  have:=h.n8
  unfold tkB
  rw[jq (show (0:Int)<=(v:Int) by omega),jq (show (v:Int)<8 by omega)];rfl
 have hmay:∀(v:Nat) (d:Cl),m.cs[v]?=some d->d.ph≠.idle->(v:Int)∉m.L.ld->(v:Int)∉m.L.la.q.map Prod.fst->mayC (v:Int) m.L d=true:=fun v d hd hp h1 h2=>by
  have:mayC (v:Int) m.L d=m.L.mayH (v:Int):=by
   unfold mayC;split
   · rename_i e;exact absurd e hp
   · rfl
  rw[this]
  unfold Lf.mayH
  rw[Lf.may_iff,jo h1,jo h2,h8 v d hd];rfl
 by_cases hi:c.ph=.idle
 · refine⟨t,c,hc,?_⟩
   unfold mayC;rw[hi]
   unfold Cl.ended at hce
   rw[hi] at hce
   simpa using hce
 · have hq0:m.L.r.st≠2->m.L.la.q.map Prod.fst=[]:=fun h2=>by
    cases hq:m.L.la.q with
    |nil=>rfl
    |cons x q=>exact absurd (h.hold2 (u:=x.1) (by unfold Lt.tasks;rw[hq];simp)) h2
   rcases h.lok.st3 with h0|h0|h0
   · exact⟨t,c,hc,hmay t c hc hi (by rw[h.ld0 (by omega)];simp) (by rw[hq0 (by omega)];simp)⟩
   · obtain⟨v,d,hd,hp⟩:=h.ldr h0
     refine⟨v,d,hd,hmay v d hd (by rcases hp with hp|hp<;>rw[hp]<;>simp) (fun hl=>?_) (by rw[hq0 (by omega)];simp)⟩
     exact h.nl hd (by rcases hp with hp|hp<;>rw[hp]<;>simp) (by rcases hp with hp|hp<;>rw[hp]<;>simp) _ hl rfl
   · by_cases hq:(t:Int)∈m.L.la.q.map Prod.fst
     · obtain⟨n,hn⟩:=h.la
       have hnd:=hn.nd
       obtain⟨x,q,hxq⟩:∃x q,m.L.la.q=x::q:=by
        cases hq2:m.L.la.q with
        |nil=>rw[hq2] at hq;simp at hq
        |cons x q=>exact⟨x,q,rfl⟩
       have hst:=h.sb x q hxq
       have hu:∃u,u∈Lt.tasks m.L.la/\u∉m.L.la.q.map Prod.fst:=by
        unfold Lt.tasks at hnd ⊢
        by_cases hw:0<=m.L.la.wr
        · rw[fO hw] at hnd ⊢
          refine⟨m.L.la.wr,by simp,fun hm=>?_⟩
          have:=(iS.1 hnd).1
          exact this (iU m.L.la.rd hm)
        · rw[fR hw] at hnd ⊢
          have hw1:m.L.la.wr = -1:=by have:=hn.wr;omega
          have hrd:m.L.la.rd≠[]:=fun hr=>by
           have:Lt.openB m.L.la x.2=true:=Lt.openB_iff.2 ⟨hw1,fun _=>hr⟩
           rw[hst] at this;cases this
          obtain⟨u,us,hr⟩:=List.exists_cons_of_ne_nil hrd
          refine⟨u,by rw[hr];simp,fun hm=>?_⟩
          rw[gO,iT] at hnd
          exact hnd.2.2 u (by rw[hr];simp) u hm I
       obtain⟨u,hu1,hu2⟩:=hu
       obtain⟨v,d,rfl,hd,hp⟩:=h.tk u hu1
       exact⟨v,d,hd,hmay v d hd (by rcases hp with hp|hp|⟨a,hp⟩<;>rw[hp]<;>simp) (by rw[h.ld0 (by omega)];simp) hu2⟩
     · exact⟨t,c,hc,hmay t c hc hi (by rw[h.ld0 (by omega)];simp) hq⟩
theorem Inv.step {m:HM} (h:Inv m) (p:Int) (hS:∀c∈m.cs,Small m.L c):Inv (ff m p)/\mu (ff m p)<=mu m/\(m.cs.all Cl.ended=false->mu (ff m p)<mu m)/\(ff m p).pk<=m.pk+1:=by
 rcases stepH_cases h p with⟨e,hr⟩|⟨t,c,hc,h0,hpre,e⟩
 · rw[e]
   refine⟨h,ga _,fun he=>?_,jT _⟩
   obtain⟨t,c,hc,hm⟩:=h.toInv0.goes he
   have hlt:t<m.T.n:=by have:=(gl.1 hc).1;have:=h.tn;omega
   have hmem:t∈Sc.fg m.T:=by
    unfold Sc.fg
    refine jE.2 ⟨gk.2 hlt,?_⟩
    rw[h.told t hlt]
    unfold stI
    rw[fO (by unfold mayI;rw[hc];exact hm)];rfl
   rw[hr] at hmem;cases hmem
 · have hi:=h.toInv0.client hc hpre (hS c (hY hc))
   have hmu:mu (m.client t)<mu m:=by
    unfold mu
    rw[client_cs hc]
    exact RG hc (Wi hpre (h.ops c (hY hc)).2.2)
   rw[e]
   exact⟨h.tell hc h0 hi p _,Nat.le_of_lt hmu,fun _=>hmu,ga _⟩
end Lo
open Lo (Lf)
def eL (L:Lf):Hm:=⟨L.M,L.s,L.las,L.rds⟩
def ePh (t:Int) (o:Opn):Lo.Ph->Ph
 |.idle=>.idle
 |.rd a=>.rd ⟨t,kOf o,(a:Int),0,0,!decide (a=1),false,ms0,false,kv0 16,false⟩
 |.wr a=>.wr ⟨(a:Int),!decide (a=0),none,0⟩
 |.rm a=>.wr ⟨4,true,some ((a:Int),true,0),0⟩
def eC (t:Int) (c:Lo.Cl):Cl:=⟨c.ops,c.nx,ePh t c.op c.ph⟩
theorem RH (n:Nat) (t:Int):(List.replicate n Lt.newL).any (fun l=>decide (t∈l.q.map Prod.fst))=false:=by
 rw[List.any_eq_false]
 intro l hl
 rw[(ic.1 hl).2]
 simp[Lt.newL]
theorem Iz (L:Lf) (t:Int):(eL L).may t=L.mayH t:=by
 unfold Hm.may Lf.mayH
 show (!(L.la::List.replicate (L.n-1) Lt.newL).any (fun l=>decide (t∈l.q.map Prod.fst))&&L.M.may t)=_
 rw[List.any_cons,RH,Bool.or_false]
theorem YD (L:Lf) (t:Int):BJ 0 t L.rds=[(0,t)]:=by
 unfold Lf.rds
 split<;>rfl
theorem YE (L:Lf):BM 0 L.rds=[]:=by
 unfold Lf.rds
 split<;>rfl
theorem bO (L:Lf) (t:Int):(L.pin t).2.rds=if (L.pin t).1=3 then BJ 0 t L.rds else L.rds:=by
 rw[YD]
 unfold Lf.pin
 split
 · rfl
 · split<;>rfl
theorem Wj {L:Lf} (h:L.Ok) {t:Int} (ht:tkB t=true) (hl:t∉L.ld):(eL L).pin t ((0:Nat):Int)=((L.pin t).1,eL (L.pin t).2):=by
 have hp:=h.pin ht hl
 have hr:=bO L t
 have hs:(L.pin t).2.s=L.s/\(L.pin t).2.las=L.las:=by unfold Lf.pin;split<;>(try split)<;>exact⟨rfl,rfl⟩
 show ((L.M.pin t 0).1,(⟨(L.M.pin t 0).2,L.s,L.las,if (L.M.pin t 0).1=3 then BJ 0 t L.rds else L.rds⟩:Hm))=_
 rw[hp]
 show ((L.pin t).1,(⟨(L.pin t).2.M,L.s,L.las,if (L.pin t).1=3 then BJ 0 t L.rds else L.rds⟩:Hm))=((L.pin t).1,⟨(L.pin t).2.M,(L.pin t).2.s,(L.pin t).2.las,(L.pin t).2.rds⟩)
 rw[<-hr,hs.1,hs.2]
theorem RI {L:Lf} (h:L.Ok) (h1:L.r.st=1):(eL L).load 0 ndL=eL L.fill:=by
 have hp:L.M.fill 0 ndL=((L.ld,true),L.fill.M):=h.fill h1
 show (⟨(L.M.fill 0 ndL).2,L.s,L.las,BM 0 L.rds⟩:Hm)=⟨L.fill.M,L.s,L.las,[]⟩
 rw[hp,YE]
theorem OO {L:Lf} (h:L.Ok) (h2:L.r.st=2):(eL L).M.frI 0 2=some 0:=by
 show L.M.frI 0 2=_
 rw[h.frI1 2 (by decide),fO h2]
theorem GM {L:Lf} (h:L.Ok) (h2:L.r.st=2):(eL L).fi 0=0:=by unfold Hm.fi;rw[OO h h2];rfl
theorem Gf {L:Lf} (h:L.Ok) (h2:L.r.st=2):(eL L).nd 0=L.r.nd:=by unfold Hm.nd;rw[GM h h2];rfl
theorem RJ {L:Lf} (h:L.Ok) (h2:L.r.st=2) (t:Int) (w:Bool):(eL L).take ((eL L).fi 0) t w=eL (L.take t w):=by rw[GM h h2];rfl
theorem RK (L:Lf):L.unpin.s=L.s/\L.unpin.la=L.la/\L.unpin.n=L.n/\L.unpin.rt=L.rt:=by unfold Lf.unpin;split<;>exact⟨rfl,rfl,rfl,rfl⟩
theorem Kw {L:Lf} (h:L.Ok) (h2:L.r.st=2) (t:Int):(eL L).leave 0 t 0=eL (L.leave t):=by
 have hu:(L.M.unpin 0).2=(L.drop t).unpin.M:=by rw[h.unpin h2];unfold Lf.unpin Lf.drop;split<;>rfl
 obtain⟨a,b,c,d⟩:=RK (L.drop t)
 show (⟨(L.M.unpin 0).2,L.s,(Lt.dropL L.la t).2::List.replicate (L.n-1) Lt.newL,L.rds⟩:Hm)=⟨(L.drop t).unpin.M,(L.drop t).unpin.s,(L.drop t).unpin.la::List.replicate ((L.drop t).unpin.n-1) Lt.newL,match (L.drop t).unpin.rt with|none=>[]|some t=>[(0,t)]⟩
 rw[hu,a,b,c,d];rfl
theorem YF {L:Lf} (h:L.Ok) (h2:L.r.st=2) (es:List En):(eL L).setN 0 (Lo.lfd es)=eL (L.setN es):=by
 show (⟨(L.M.setN 0 (Lo.lfd es)).2,L.s,L.las,L.rds⟩:Hm)=_
 rw[h.setN h2];rfl
theorem Gg {L:Lf} (h:L.Ok) {t:Int} (ht:tkB t=true) (hl:t∉L.ld) (h0:L.r.st≠0) (hc:L.cl=0\/L.ct=t):(eL L).claim t=(true,eL (L.claim t)):=by
 show ((L.M.claim t).1,(⟨(L.M.claim t).2,L.s,L.las,L.rds⟩:Hm))=_
 rw[h.claim ht hl h0 hc];rfl
theorem RL {L:Lf} (h:L.Ok) {t:Int} (hc:L.cl=0\/L.ct=t):(eL L).give t=eL L.give:=by
 show (⟨L.M.give t,L.s,L.las,L.rds⟩:Hm)=_
 rw[h.give hc];rfl
open Lo (Lf)
theorem Wk (l:List En) (m:Ms) (s:Int):Bu l (m.num s)=Bu l m:=by
 unfold Ms.num
 split
 · rfl
 · rfl
theorem OP (es:List En) (m:Ms) (s:Int):Cb (Lo.lfd es) (m.num s)=Lo.lfd (Bu es m):=by
 show (⟨true,Bu es (m.num s),[],[],[]⟩:Nd)=_
 rw[Wk];rfl
theorem YG (m:Ms) (s:Int):(m.num s).key=m.key:=by unfold Ms.num;split<;>rfl
theorem LJ {L:Lf} (h:L.Ok):L.M.claims L.ct=L.cl:=by
 show (L.r::L.rest).countP (isC L.ct)=_
 rw[List.countP_cons_of_neg (by simp[isC,h.r3])]
 unfold Lf.rest
 rw[List.countP_append,List.countP_replicate,List.countP_replicate]
 simp[isC,Lo.cf,BG]
theorem Eu {L:Lf} (h:L.Ok) (h2:L.r.st=2):((eL L).M.frI 0 2).isSome=true:=by rw[OO h h2];rfl
theorem Jq {L:Lf} {c:Lo.Cl} (hm:c.ph≠.idle->L.mayH t=true) (hn:c.ph≠.idle):t∉L.ld:=Lo.may_ld (hm hn)
theorem Zt (ht:tkB t=true) {L:Lf} (h:L.Ok) {c:Lo.Cl} (hp:Lo.preC t L c) (hm:c.ph≠.idle->L.mayH t=true):preC t sq (eL L) (eC t c):=by
 obtain⟨ops,nx,ph⟩:=c
 cases ph with
 |idle=>exact hp
 |rd a =>
  match a,hp with
  |1,_=>exact⟨rfl,h.s0,gb _⟩
  |2,hp=>exact⟨rfl,h.s0,by show Cn ((0:Nat):Int) L.rds=some t;unfold Lf.rds;rw[hp.1];rfl,h.b0⟩
  |3,hp=>exact⟨rfl,Eu h hp⟩
  |5,hp =>
   obtain⟨es,e,hr,hf⟩:=h.nd hp.1
   refine⟨rfl,rfl,Eu h hp.1,.inr ?_⟩
   show ((eL L).nd 0).kids=[]/\B8 ((eL L).nd 0).es/\DH ((eL L).lat ((eL L).fi 0)) t=true
   rw[Gf h hp.1,GM h hp.1,e]
   exact⟨rfl,hr,hp.2⟩
 |wr a =>
  match a,hp with
  |0,_=>exact⟨rfl,h.s0⟩
  |1,hp=>exact⟨rfl,h.s0,by show Cn ((0:Nat):Int) L.rds=some t;unfold Lf.rds;rw[hp.1];rfl,h.b0⟩
  |2,hp=>exact⟨rfl,Eu h hp⟩
  |3,hp =>
   obtain⟨es,e,hr,hf⟩:=h.nd hp.1
   refine⟨rfl,Eu h hp.1,by rw[GM h hp.1];exact hp.2.1,by rw[GM h hp.1];show DH L.la t=true;unfold DH;rw[jq hp.2.1,Bool.true_or],?_⟩
   rw[Gf h hp.1,e]
   rw[fO (show (Lo.lfd es).leaf=true from rfl)]
   refine⟨hr,?_,fun hft=>?_⟩
   · show B8 (Bu es _)
     exact Gw hr (fun x hx=>(El hf x hx).1) (by rw[YG];exact hp.2.2)
   · rw[OP] at hft ⊢
     exact MI hft
 |rm a =>
  have hl:=Jq hm (by simp)
  match a,hp with
  |1,hp =>
   obtain⟨es,e,hr,hf⟩:=h.nd hp.1
   exact⟨1,rfl,Eu h hp.1,.inl ⟨rfl,by rw[Gf h hp.1,e];rfl,by rw[Gf h hp.1];exact hp.2⟩⟩
  |6,hp=>exact⟨6,rfl,Eu h hp.1,.inr (.inl ⟨rfl,by rw[Gg h ht hl (by rw[hp.1];decide) hp.2.1]⟩)⟩
  |7,hp=>exact⟨7,rfl,Eu h hp.1,.inr (.inr (.inl ⟨rfl,by rw[Gg h ht hl (by rw[hp.1];decide) hp.2.1]⟩))⟩
  |10,hp =>
   obtain⟨h2,hc,hct,hls,hhs⟩:=hp
   refine⟨10,rfl,Eu h h2,.inr (.inr (.inr ⟨rfl,?_,fun _=>?_,fun hn=>absurd hls hn⟩))⟩
   · show 2<=L.M.claims t
     rw[<-hct,LJ h,hc];exact ga _
   · rw[RL h (.inr hct),GM h h2]
     exact⟨OO h.give_ok h2,hhs⟩
theorem YH {L:Lf} (h:L.Ok) (h2:L.r.st=2) (r:Rdr) (hat:r.at'=5) (hb:r.blk=0) (ha:r.any=false):rdS (eL L) r=(eL (L.leave r.t),{r with v:=(AS (Lo.lfe L) r.k).1,f:=(AS (Lo.lfe L) r.k).2,at':=6,pin:=false},true):=by
 obtain⟨es,e,_,_⟩:=h.nd h2
 obtain⟨t,k,a,blk,par,pin,abv,m,any,v,f⟩:=r
 dsimp only at hat hb ha
 subst hat;subst hb;subst ha
 unfold rdS
 rw[fR (show ¬(5:Int)=1 by decide),fR (show ¬(5:Int)=2 by decide),fR (show ¬(5:Int)=3 by decide),fR (show ¬(5:Int)=4 by decide)]
 dsimp only
 have hnd:(eL L).nd ((0:Nat):Int)=L.r.nd:=Gf h h2
 rw[hnd]
 have hk:L.r.nd.kids[FP L.r.nd.piv k]?=none:=by rw[e];rfl
 rw[hk]
 have hfi:(eL L).fi ((0:Nat):Int)=0:=GM h h2
 rw[hfi]
 have hlv:(eL L).leave 0 t ((0:Nat):Int)=eL (L.leave t):=Kw h h2 t
 rw[hlv]
 rfl
theorem Kx {L:Hm} {c:Cl} (hp:c.ph=.rd r) (hq:rdS L r=(L2,r2,false)):fe t sq L c=(L2,{c with ph:=.rd r2},false,[]):=by
 unfold fe;rw[hp];dsimp only;rw[hq,fR (show ¬(false=true) from kA)]
theorem Tq {L:Hm} {c:Cl} (hp:c.ph=.rd r) (hq:rdS L r=(L2,r2,true)):fe t sq L c=(L2,c.done,false,[evD t c ⟨0,r2.f,r2.v⟩]):=by
 unfold fe;rw[hp];dsimp only;rw[hq,fO rfl]
theorem Dk {L:Hm} {c:Cl} (hp:c.ph=.wr v) (hq:wrS t L ((mOf c.op).num sq) v=(L2,v2,inn)) (h5:v2.a≠5):fe t sq L c=(L2,{c with ph:=.wr v2},false,[]):=by
 unfold fe;rw[hp];dsimp only;rw[hq,fR h5]
theorem IA {L:Hm} {c:Cl} (hp:c.ph=.wr v) (hq:wrS t L ((mOf c.op).num sq) v=(L2,v2,inn)) (h5:v2.a=5):fe t sq L c=(L2,c.done,inn,[evD t c ⟨v2.e,false,kv0 16⟩]):=by
 unfold fe;rw[hp];dsimp only;rw[hq,fO h5]
theorem Wl (ht:tkB t=true) {L:Lf} (h:L.Ok) {c:Lo.Cl} (hp:Lo.preC t L c) (hm:c.ph≠.idle->L.mayH t=true):fe t sq (eL L) (eC t c)=(eL (Lo.fe t L c).1,eC t (Lo.fe t L c).2.1,(Lo.fe t L c).2.2.1,(Lo.fe t L c).2.2.2):=by
 obtain⟨ops,nx,ph⟩:=c
 cases ph with
 |idle =>
  unfold Lo.fe fe
  dsimp only
  show (if BX (Lo.Cl.op ⟨ops,nx,.idle⟩)=true then _ else _)=_
  by_cases hT:BX (Lo.Cl.op ⟨ops,nx,.idle⟩)=true
  · rw[fO hT,fO hT];rfl
  · rw[fR hT,fR hT]
    by_cases h4:(Lo.Cl.op ⟨ops,nx,.idle⟩).kind=4
    · simp only[h4,gR]
      show (eL L,(⟨ops,nx,if (Lo.Cl.op ⟨ops,nx,.idle⟩).kind=4 then _ else _⟩:Cl),false,_)=_
      rw[fO h4];rfl
    · simp only[h4,iL]
      show (eL L,(⟨ops,nx,if (Lo.Cl.op ⟨ops,nx,.idle⟩).kind=4 then _ else _⟩:Cl),false,_)=_
      rw[fR h4];rfl
 |rd a =>
  have hl:=Jq hm (by simp)
  match a,hp with
  |1,_ =>
   have hq:rdS (eL L) ⟨t,kOf (Lo.Cl.op ⟨ops,nx,.rd 1⟩),1,0,0,false,false,ms0,false,kv0 16,false⟩=(eL (L.pin t).2,⟨t,kOf (Lo.Cl.op ⟨ops,nx,.rd 1⟩),((if (L.pin t).1=3 then 2 else 3:Nat):Int),0,0,true,false,ms0,false,kv0 16,false⟩,false):=by
    unfold rdS
    simp only[gR]
    rw[Wj h ht hl]
    refine Prod.ext I (Prod.ext ?_ I)
    show Rdr.pinned _ (L.pin t).1=_
    unfold Rdr.pinned Lf.pin
    split
    · rfl
    · split<;>rfl
   refine (Kx (c:=eC t ⟨ops,nx,.rd 1⟩) I hq).trans ?_
   show _=(eL (L.pin t).2,eC t ⟨ops,nx,.rd (if (L.pin t).1=3 then 2 else 3)⟩,false,[])
   by_cases h3:(L.pin t).1=3<;>simp only[h3,gR,iL]<;>rfl
  |2,hp =>
   refine Kx (c:=eC t ⟨ops,nx,.rd 2⟩) I (r2:=⟨t,kOf (Lo.Cl.op ⟨ops,nx,.rd 2⟩),3,0,0,true,false,ms0,false,kv0 16,false⟩) ?_
   show ((eL L).load 0 ndL,_,_)=_
   rw[RI h hp.2];rfl
  |3,hp =>
   refine Kx (c:=eC t ⟨ops,nx,.rd 3⟩) I (r2:=⟨t,kOf (Lo.Cl.op ⟨ops,nx,.rd 3⟩),5,0,0,true,false,ms0,false,kv0 16,false⟩) ?_
   show ((eL L).take ((eL L).fi 0) t false,_,_)=_
   rw[RJ h hp];rfl
  |5,hp=>exact Tq (c:=eC t ⟨ops,nx,.rd 5⟩) rfl (YH h hp.1 _ rfl rfl rfl)
 |wr a =>
  have hl:=Jq hm (by simp)
  match a,hp with
  |0,_ =>
   have hq:wrS t (eL L) ((mOf (Lo.Cl.op ⟨ops,nx,.wr 0⟩)).num sq) ⟨0,false,none,0⟩=(eL (L.pin t).2,⟨((if (L.pin t).1=3 then 1 else 2:Nat):Int),true,none,0⟩,false):=by
    unfold wrS
    simp only[gR]
    rw[Wj h ht hl]
    refine Prod.ext I (Prod.ext ?_ I)
    show (⟨(Ki (L.pin t).1).1,(Ki (L.pin t).1).2,none,0⟩:Wv)=_
    unfold Ki Lf.pin
    split
    · rfl
    · split<;>rfl
   refine (Dk (c:=eC t ⟨ops,nx,.wr 0⟩) I hq (by dsimp only;split<;>decide)).trans ?_
   show _=(eL (L.pin t).2,eC t ⟨ops,nx,.wr (if (L.pin t).1=3 then 1 else 2)⟩,false,[])
   by_cases h3:(L.pin t).1=3<;>simp only[h3,gR,iL]<;>rfl
  |1,hp =>
   refine Dk (inn:=false) (c:=eC t ⟨ops,nx,.wr 1⟩) I (v2:=⟨2,true,none,0⟩) ?_ (by decide)
   show ((eL L).load 0 ndL,_,_)=_
   rw[RI h hp.2];rfl
  |2,hp =>
   refine Dk (inn:=false) (c:=eC t ⟨ops,nx,.wr 2⟩) I (v2:=⟨3,true,none,0⟩) ?_ (by decide)
   show ((eL L).take ((eL L).fi 0) t true,_,_)=_
   rw[RJ h hp];rfl
  |3,hp =>
   obtain⟨es,e,hr,hf⟩:=h.nd hp.1
   have hes:Lo.lfe L=es:=by unfold Lo.lfe;rw[e];rfl
   have hlf:((eL L).nd 0).leaf=true:=by rw[Gf h hp.1,e];rfl
   have hin:Cb ((eL L).nd 0) ((mOf (Lo.Cl.op ⟨ops,nx,.wr 3⟩)).num sq)=Lo.lfd (Bu (Lo.lfe L) (mOf (Lo.Cl.op ⟨ops,nx,.wr 3⟩))):=by rw[Gf h hp.1,hes,e];exact OP _ _ _
   by_cases hft:Cd (Lo.lfd (Bu (Lo.lfe L) (mOf (Lo.Cl.op ⟨ops,nx,.wr 3⟩))))=true
   · have hlo:Lo.fe t L ⟨ops,nx,.wr 3⟩=((L.setN (Bu (Lo.lfe L) (mOf (Lo.Cl.op ⟨ops,nx,.wr 3⟩)))).leave t,Lo.Cl.done ⟨ops,nx,.wr 3⟩,true,[Lo.evD t ⟨ops,nx,.wr 3⟩ Bx]):=by
      show (if Cd (Lo.lfd (Bu (Lo.lfe L) (mOf (Lo.Cl.op ⟨ops,nx,.wr 3⟩))))=true then _ else _)=_
      rw[fO hft]
     rw[hlo]
     have hok:(L.setN (Bu (Lo.lfe L) (mOf (Lo.Cl.op ⟨ops,nx,.wr 3⟩)))).Ok:=h.setN_ok hp.1 (by rw[hes];exact Gw hr (fun x hx=>(El hf x hx).1) hp.2.2) hft
     refine IA (c:=eC t ⟨ops,nx,.wr 3⟩) I (v2:=⟨5,false,none,0⟩) ?_ I
     show (if ((eL L).nd 0).leaf=true then if Cd (Cb ((eL L).nd 0) ((mOf (Lo.Cl.op ⟨ops,nx,.wr 3⟩)).num sq))=true then (((eL L).setN 0 (Cb ((eL L).nd 0) ((mOf (Lo.Cl.op ⟨ops,nx,.wr 3⟩)).num sq))).leave ((eL L).fi 0) t 0,(⟨5,false,none,0⟩:Wv),true) else _ else _)=_
     rw[fO hlf,hin,fO hft,YF h hp.1,GM h hp.1,Kw hok hp.1]
   · have hlo:Lo.fe t L ⟨ops,nx,.wr 3⟩=(L,⟨ops,nx,.rm 1⟩,false,[]):=by
      show (if Cd (Lo.lfd (Bu (Lo.lfe L) (mOf (Lo.Cl.op ⟨ops,nx,.wr 3⟩))))=true then _ else _)=_
      rw[fR hft]
     rw[hlo]
     refine Dk (inn:=false) (c:=eC t ⟨ops,nx,.wr 3⟩) I (v2:=⟨4,true,some (1,true,0),0⟩) ?_ (by decide)
     show (if ((eL L).nd 0).leaf=true then if Cd (Cb ((eL L).nd 0) ((mOf (Lo.Cl.op ⟨ops,nx,.wr 3⟩)).num sq))=true then _ else (eL L,(⟨4,true,some (1,true,0),0⟩:Wv),false) else _)=_
     rw[fO hlf,hin,fR hft]
 |rm a =>
  have hl:=Jq hm (by simp)
  match a,hp with
  |1,hp=>exact Dk (inn:=false) (c:=eC t ⟨ops,nx,.rm 1⟩) rfl (v2:=⟨4,true,some (6,true,0),0⟩) rfl (by decide)
  |6,hp =>
   refine Dk (inn:=false) (c:=eC t ⟨ops,nx,.rm 6⟩) I (v2:=⟨4,true,some (7,true,0),0⟩) ?_ (by decide)
   show (((eL L).claim t).2,_,_)=_
   rw[Gg h ht hl (by rw[hp.1];decide) hp.2.1];rfl
  |7,hp =>
   refine Dk (inn:=false) (c:=eC t ⟨ops,nx,.rm 7⟩) I (v2:=⟨4,true,some (10,true,0),0⟩) ?_ (by decide)
   show (((eL L).claim t).2,_,_)=_
   rw[Gg h ht hl (by rw[hp.1];decide) hp.2.1];rfl
  |10,hp =>
   obtain⟨h2,hc,hct,hls,hhs⟩:=hp
   refine IA (c:=eC t ⟨ops,nx,.rm 10⟩) I (v2:=⟨5,false,none,3⟩) ?_ I
   show (if L.s.left<2 then (((eL L).give t).leave ((eL L).fi 0) t 0,(⟨5,false,none,3⟩:Wv),false) else _)=_
   rw[fO hls,RL h (.inr hct),GM h h2,Kw h.give_ok h2];rfl
open Lo (Lf)
def eM (m:Lo.HM):HM:=⟨eL m.L,m.cs.mapIdx (fun i c=>eC (i:Int) c),m.nf,m.sq,m.pk,m.ev,m.T⟩
theorem Gh (m:Lo.HM) (i:Nat):(eM m).cs[i]?=(m.cs[i]?).map (fun c=>eC (i:Int) c):=kE
theorem Wm (m:Lo.HM):(eM m).cs.length=m.cs.length:=List.length_mapIdx
theorem Qb {β:Type} (f:Nat->α->β) (l:List α) (i:Nat) (c:α):(l.mapIdx f).set i (f i c)=(l.set i c).mapIdx f:=gv (fun j=>by
 rw[kE,jD,jD,kE,List.length_mapIdx]
 by_cases e:i=j
 · subst e
   rw[fO rfl,fO rfl]
   split<;>rfl
 · rw[fR e,fR e])
theorem MO (t:Int) (c:Lo.Cl):(eC t c).ph.isI=decide (c.ph=.idle):=by
 unfold eC ePh
 cases c.ph<;>rfl
theorem HY (t:Int) (c:Lo.Cl):(eC t c).ended=c.ended:=by
 unfold Cl.ended Lo.Cl.ended
 rw[MO];rfl
theorem Wo (t:Int) (L:Lf) (c:Lo.Cl):mayC t (eL L) (eC t c)=Lo.mayC t L c:=by
 obtain⟨ops,nx,ph⟩:=c
 cases ph with
 |idle=>rfl
 |rd a=>exact Iz L t
 |wr a=>exact Iz L t
 |rm a=>exact Iz L t
theorem bP (m:Lo.HM) (i:Nat):mayI (eM m) i=Lo.mayI m i:=by
 unfold mayI Lo.mayI
 rw[Gh]
 cases m.cs[i]? with
 |none=>rfl
 |some c=>exact Wo _ _ _
theorem Zu (m:Lo.HM) (i:Nat):stI (eM m) i=Lo.stI m i:=by
 unfold stI Lo.stI
 rw[bP,Gh]
 cases m.cs[i]? with
 |none=>rfl
 |some c =>
  show (if _ then _ else if (eC (i:Int) c).ended=true then _ else _)=_
  rw[HY]
theorem MP (m:Lo.HM):∀(k:Nat) (T:Sc.Tab),fb (eM m) k T=Lo.fb m k T
 |0,T=>rfl
 |k+1,T=>by
  show Sc.fj (fb (eM m) k T) _ _=Sc.fj (Lo.fb m k T) _ _
  rw[MP m k T,Zu]
theorem Tr {m:Lo.HM} {t:Nat} {c:Lo.Cl} (hc:m.cs[t]?=some c) (ht:tkB (t:Int)=true) (h:m.L.Ok) (hp:Lo.preC (t:Int) m.L c) (hm:c.ph≠.idle->m.L.mayH (t:Int)=true):(eM m).client t=eM (m.client t):=by
 have h1:(eM m).cs[t]?=some (eC (t:Int) c):=by rw[Gh,hc];rfl
 have hs:=Wl (sq:=m.sq) ht h hp hm
 unfold HM.client Lo.HM.client
 rw[h1,hc]
 dsimp only
 show (⟨(fe (t:Int) m.sq (eL m.L) (eC (t:Int) c)).1,(m.cs.mapIdx (fun i c=>eC (i:Int) c)).set t (fe (t:Int) m.sq (eL m.L) (eC (t:Int) c)).2.1,m.nf,FT (fe (t:Int) m.sq (eL m.L) (eC (t:Int) c)).2.2.1 m.sq,m.pk,m.ev++(fe (t:Int) m.sq (eL m.L) (eC (t:Int) c)).2.2.2,m.T⟩:HM)=_
 rw[hs]
 unfold eM
 dsimp only
 rw[<-Qb (fun i c=>eC (i:Int) c)]
theorem MQ {L:Lf} (h:L.Ok):(eL L).look.leaf=true/\(eL L).look.Sm 1000/\(L.r.st=2->(eL L).look.es=Lo.lfe L)/\(L.r.st≠2->(eL L).look.es=[]):=by
 by_cases h2:L.r.st=2
 · obtain⟨es,e,hr,hf⟩:=h.nd h2
   have hl:(eL L).look=Lo.lfd es:=by
    unfold Hm.look;rw[OO h h2];exact e
   rw[hl]
   exact⟨rfl,MI hf,fun _=>by unfold Lo.lfe;rw[e],fun hn=>absurd h2 hn⟩
 · have hf:(eL L).M.frI 0 2=none:=by
    show L.M.frI 0 2=_
    rw[h.frI1 2 (by decide),fR h2]
   have hl:(eL L).look=ndL:=by unfold Hm.look;rw[hf]
   rw[hl]
   exact⟨rfl,JP _,fun hn=>absurd hn h2,fun _=>rfl⟩
theorem FJ {L:Lf} (h:L.Ok):DA (eL L):=by
 obtain⟨h1,h2,_,_⟩:=MQ h
 refine⟨rfl,?_,h2.mono (by decide),h.s0,fun _=>h.b0⟩
 unfold Et;rw[h1];rfl
theorem Qc {m:Lo.HM} (h:Lo.Inv m) {t:Nat} {c:Lo.Cl} (hc:m.cs[t]?=some c):tkB (t:Int)=true:=by
 have h1:=(gl.1 hc).1
 have h2:=h.n8
 unfold tkB
 rw[jq (show (0:Int)<=(t:Int) by omega),jq (show (t:Int)<8 by omega)];rfl
theorem Wp {m:Lo.HM} (h:Lo.Inv m):(eM m).Pre:=fun t ht=>by
 obtain⟨c,hc,hp,hm⟩:=h.run ht
 refine⟨eC (t:Int) c,by rw[Gh,hc];rfl,Zt (Qc h hc) h.lok hp hm,fun hi=>?_⟩
 have hn:c.ph≠.idle:=fun e=>by rw[MO,jq e] at hi;cases hi
 show (eL m.L).may (t:Int)=true
 rw[Iz];exact hm hn
theorem RM {m:Lo.HM} (h:Lo.Inv m) (p:Int):ff (eM m) p=eM (Lo.ff m p):=by
 unfold ff Lo.ff
 show (if Sc.fg m.T=[] then eM m else _)=_
 by_cases hr:Sc.fg m.T=[]
 · rw[fO hr,fO hr]
 · rw[fR hr,fR hr]
   obtain⟨c,hc,hp,hm⟩:=h.run (Sc.who_mem p hr)
   have hcl:({eM m with T:=Sc.fc m.T p,pk:=m.pk+1}:HM).client (Sc.whoM m.T p)=eM (({m with T:=Sc.fc m.T p,pk:=m.pk+1}:Lo.HM).client (Sc.whoM m.T p)) :=
    Tr (m:={m with T:=Sc.fc m.T p,pk:=m.pk+1}) hc (Qc h hc) h.lok hp hm
   show HM.setT (({eM m with T:=Sc.fc m.T p,pk:=m.pk+1}:HM).client (Sc.whoM m.T p)) (fb (({eM m with T:=Sc.fc m.T p,pk:=m.pk+1}:HM).client (Sc.whoM m.T p)) m.T.n (Sc.fc m.T p))=_
   rw[hcl,MP];rfl
def Wq (nb nf:Nat):Lf:=⟨nf,st1 nb,BG,[],0,0,Lt.newL,none⟩
theorem YI (h:1<=nf):eL (Wq nb nf)=MH nb nf:=by
 obtain⟨k,rfl⟩:∃k,nf=k+1:=⟨nf-1,by omega⟩
 unfold eL MH Lf.M Lf.las Lf.rds Lf.rest Wq mo0
 simp[fT]
namespace Lo
def ndF (L:Lf):Nd:=if L.r.st=2 then L.r.nd else ndL
def mapL (L:Lf):List En:=(ndF L).es
def cl0 (l:List Opn):Cl:=⟨l,0,.idle⟩
def hm0 (nb nf fl:Nat) (ls:List (List Opn)):HM:=⟨Wq nb nf,ls.map cl0,fl,1,0,[],Sc.newM (ls.length+(fl+1))⟩
def hmS (nb nf fl:Nat) (ls:List (List Opn)):HM:=(hm0 nb nf fl ls).setT (fb (hm0 nb nf fl ls) (ls.length+(fl+1)) (Sc.newM (ls.length+(fl+1))))
theorem YJ (h1:1<=nb) (h5:5<=nf):(Wq nb nf).Ok:=by
 refine⟨h5,gb _,?_,⟨bkL,?_,rfl⟩,.inl rfl,fun h=>by cases h⟩
 · show ((List.replicate nb false).set 0 true)[0]?=some true
   rw[jV (by rw[jB];omega)]
 · show (((List.replicate nb Bk.zero).set 0 Bk.zero).set 0 bkL)[0]?=some bkL
   rw[jV (by rw[je,jB];omega)]
theorem hmS_inv (h1:1<=nb) (h5:5<=nf) (h8:ls.length+(fl+1)<=8) (hok:∀l∈ls,∀o∈l,o.key.size<=9223372036854775807/\(o.kind=1\/o.kind=2\/o.kind=3\/o.kind=4)):Inv (hmS nb nf fl ls):=by
 have hcs:∀(t:Nat) (c:Cl),(ls.map cl0)[t]?=some c->∃l∈ls,c=cl0 l:=fun t c hc=>by
  rw[gm] at hc
  cases hx:ls[t]? with
  |none=>rw[hx] at hc;cases hc
  |some l=>rw[hx] at hc;cases hc;exact⟨l,hY hx,rfl⟩
 have hnl:(Sc.newM (ls.length+(fl+1))).st.length=(Sc.newM (ls.length+(fl+1))).n:=jB ..
 refine⟨⟨fun c hc=>?_,YJ h1 h5,⟨0,Lt.new_ok⟩,fun w q h=>(by cases h),?_,fun t c hc=>?_,fun _=>rfl,fun u hu=>(by cases hu),fun hs=>(by cases hs),fun u hu=>(by cases hu),fun _=>rfl⟩,?_,?_,fun i hi=>?_⟩
 · obtain⟨l,hl,rfl⟩:=gj.1 hc
   exact⟨fun o ho=>hok l hl o ho,gb _,fun h=>absurd I h⟩
 · show (ls.map cl0).length<=8;rw[gS];omega
 · obtain⟨l,_,rfl⟩:=hcs t c hc
   trivial
 · show (fb _ _ _).n=(ls.map cl0).length+_;rw[tellT_n,gS];rfl
 · show (fb _ _ _).st.length=(fb _ _ _).n
   rw[tellT_n];exact (tellT_st (hm0 nb nf fl ls) 0 _ _ (ga _) hnl).1
 · have hi2:i<ls.length+(fl+1):=by
    have:i<(fb (hm0 nb nf fl ls) (ls.length+(fl+1)) (Sc.newM (ls.length+(fl+1)))).n:=hi
    rw[tellT_n] at this;exact this
   show (fb _ _ _).st.getD i 0=stI (hm0 nb nf fl ls) i
   rw[(tellT_st (hm0 nb nf fl ls) i (ls.length+(fl+1)) (Sc.newM (ls.length+(fl+1))) (ga _) hnl).2,fO hi2]
   rw[fR]
   show ¬(List.replicate _ (0:Int)).getD i 0=2
   rw[ju,hM]
   split<;>decide
theorem mu_le:∀{ls:List (List Opn)},(∀l∈ls,l.length<=24)->((ls.map cl0).map muC).sum<=216*ls.length
 |[],_=>by simp
 |l::ls,h=>by
  have ih:=mu_le (ls:=ls) (fun x hx=>h x (iR _ hx))
  have h1:=h l (iG ..)
  have e:muC (cl0 l)=9*l.length:=by unfold muC cl0;simp
  simp only[gB,kF,fv,e]
  omega
theorem mapL_at {L:Lf} (h:L.r.st=2):mapL L=lfe L:=by unfold mapL ndF lfe;rw[fO h]
theorem mapL_no {L:Lf} (h:L.r.st≠2):mapL L=[]:=by unfold mapL ndF;rw[fR h];rfl
theorem Ts (L:Lf):mapL L.unpin=mapL L:=by unfold Lf.unpin;split<;>rfl
theorem IB (L:Lf) (t:Int):mapL (L.leave t)=mapL L:=(Ts _).trans rfl
theorem OQ {L:Lf} {c:Cl} (hL:L.Ok) (hp:preC t L c):(c.ph=.wr 3/\L.r.st=2/\Cd (lfd (Bu (lfe L) (mOf c.op)))=true/\mapL (fe t L c).1=Bu (mapL L) (mOf c.op)/\(fe t L c).2.2=(true,[evD t c Bx])/\(fe t L c).2.1=c.done)\/(mapL (fe t L c).1=mapL L/\(c.ph=.wr 3->L.r.st=2/\Cd (lfd (Bu (lfe L) (mOf c.op)))=false)):=by
 obtain⟨ops,nx,ph⟩:=c
 have X6:mapL (L.pin t).2=mapL L:=by
  unfold Lf.pin
  split
  · rename_i h0
    have e1:=mapL_no (L:=L) (by rw[h0];decide)
    rw[e1]
    exact mapL_no (by show (1:Int)≠2;decide)
  · split
    · rfl
    · rfl
 cases ph with
 |idle =>
  refine .inr ⟨?_,fun h=>by cases h⟩
  unfold fe;dsimp only;split<;>rfl
 |rd a =>
  match a,hp with
  |1,_=>exact .inr ⟨X6,fun h=>by cases h⟩
  |2,hp=>exact .inr ⟨by show mapL L.fill=_;rw[mapL_no (L:=L) (by rw[hp.2];decide)];rfl,fun h=>by cases h⟩
  |3,_=>exact .inr ⟨rfl,fun h=>by cases h⟩
  |5,_=>exact .inr ⟨IB _ _,fun h=>by cases h⟩
 |wr a =>
  match a,hp with
  |0,_=>exact .inr ⟨X6,fun h=>by cases h⟩
  |1,hp=>exact .inr ⟨by show mapL L.fill=_;rw[mapL_no (L:=L) (by rw[hp.2];decide)];rfl,fun h=>by cases h⟩
  |2,_=>exact .inr ⟨rfl,fun h=>by cases h⟩
  |3,hp =>
   by_cases hf:Cd (lfd (Bu (lfe L) (mOf (Cl.op ⟨ops,nx,.wr 3⟩))))=true
   · have e:fe t L ⟨ops,nx,.wr 3⟩=((L.setN (Bu (lfe L) (mOf (Cl.op ⟨ops,nx,.wr 3⟩)))).leave t,Cl.done ⟨ops,nx,.wr 3⟩,true,[evD t ⟨ops,nx,.wr 3⟩ Bx]):=by
      show (if Cd (lfd (Bu (lfe L) (mOf (Cl.op ⟨ops,nx,.wr 3⟩))))=true then _ else _)=_
      rw[fO hf]
     rw[e]
     refine .inl ⟨rfl,hp.1,hf,?_,rfl,rfl⟩
     show mapL ((L.setN _).leave t)=_
     rw[IB,mapL_at hp.1,mapL_at (show (L.setN (Bu (lfe L) (mOf (Cl.op ⟨ops,nx,.wr 3⟩)))).r.st=2 from hp.1)]
     rfl
   · have e:fe t L ⟨ops,nx,.wr 3⟩=(L,⟨ops,nx,.rm 1⟩,false,[]):=by
      show (if Cd (lfd (Bu (lfe L) (mOf (Cl.op ⟨ops,nx,.wr 3⟩))))=true then _ else _)=_
      rw[fR hf]
     rw[e]
     exact .inr ⟨rfl,fun _=>⟨hp.1,iv.2 hf⟩⟩
 |rm a =>
  match a,hp with
  |1,_=>exact .inr ⟨rfl,fun h=>by cases h⟩
  |6,_=>exact .inr ⟨rfl,fun h=>by cases h⟩
  |7,_=>exact .inr ⟨rfl,fun h=>by cases h⟩
  |10,_=>exact .inr ⟨IB _ _,fun h=>by cases h⟩
theorem client_L {m:HM} {t:Nat} {c:Cl} (hc:m.cs[t]?=some c):(m.client t).L=(fe (t:Int) m.L c).1:=by unfold HM.client;rw[hc]
theorem client_ev {m:HM} {t:Nat} {c:Cl} (hc:m.cs[t]?=some c):(m.client t).ev=m.ev++(fe (t:Int) m.L c).2.2.2:=by unfold HM.client;rw[hc]
def cnt (m:HM):Nat:=(m.cs.map (·.nx)).sum
def tot (m:HM):Nat:=(m.cs.map (·.ops.length)).sum
theorem cnt_set:∀{l:List Cl} {t:Nat} {c c':Cl},l[t]?=some c->((l.set t c').map (·.nx)).sum+c.nx=(l.map (·.nx)).sum+c'.nx
 |[],t,c,c',h=>by simp at h
 |x::l,0,c,c',h=>by simp at h;subst h;simp;omega
 |x::l,t+1,c,c',h=>by
  have:=cnt_set (l:=l) (t:=t) (c:=c) (c':=c') (by simpa using h)
  simp only[iY,gB,kF];omega
theorem tot_set:∀{l:List Cl} {t:Nat} {c c':Cl},l[t]?=some c->c'.ops=c.ops->((l.set t c').map (·.ops.length)).sum=(l.map (·.ops.length)).sum
 |[],t,c,c',h,_=>by simp at h
 |x::l,0,c,c',h,e=>by simp at h;subst h;simp[e]
 |x::l,t+1,c,c',h,e=>by
  have:=tot_set (l:=l) (t:=t) (c:=c) (c':=c') (by simpa using h) e
  simpa using this
theorem cnt_le:∀{l:List Cl},(∀c∈l,c.nx<=c.ops.length)->(l.map (·.nx)).sum<=(l.map (·.ops.length)).sum
 |[],_=>by simp
 |x::l,h=>by
  have:=cnt_le (l:=l) (fun c hc=>h c (iR _ hc))
  have:=h x (iG ..)
  simp;omega
theorem Ws:∀{l:List Cl} {t:Nat} {c:Cl},l[t]?=some c->c.nx<c.ops.length->(∀c∈l,c.nx<=c.ops.length)->(l.map (·.nx)).sum+1<=(l.map (·.ops.length)).sum
 |[],t,c,h,_,_=>by simp at h
 |x::l,0,c,h,hn,hl=>by
  simp at h;subst h
  have:=cnt_le (l:=l) (fun c hc=>hl c (iR _ hc))
  simp;omega
 |x::l,t+1,c,h,hn,hl=>by
  have:=Ws (l:=l) (t:=t) (c:=c) (by simpa using h) hn (fun c hc=>hl c (iR _ hc))
  have:=hl x (iG ..)
  simp;omega
theorem LK (t:Int) (L:Lf) (c:Cl):c.nx<=(fe t L c).2.1.nx:=by
 unfold fe
 split<;>(try split)<;>first|exact ga _|exact jT _
theorem lput_len (l:List En) (m:Ms):(Bu l m).length<=l.length+1:=by
 unfold Bu
 have hn:(DG l m).length<=1:=by unfold DG;split<;>simp
 rw[fL,fL,fJ,fK]
 omega
theorem YK {L:Lf} {c:Cl} (hL:L.Ok) (hp:preC t L c):(mapL (fe t L c).1).length+c.nx<=(mapL L).length+(fe t L c).2.1.nx:=by
 have h0:=LK t L c
 rcases OQ hL hp with⟨_,_,_,h4,_,h6⟩|⟨h1,_⟩
 · rw[h4,h6]
   have:=lput_len (mapL L) (mOf c.op)
   show _+c.nx<=_+(c.nx+1)
   omega
 · rw[h1];omega
def Few (m:HM):Prop:=(mapL m.L).length<=cnt m
theorem Few.step {m:HM} (h:Few m) (hi:Inv m) (p:Int):Few (ff m p)/\cnt m<=cnt (ff m p)/\tot (ff m p)=tot m:=by
 rcases stepH_cases hi p with⟨e,_⟩|⟨t,c,hc,_,hp,e⟩
 · rw[e];exact⟨h,ga _,rfl⟩
 · rw[e]
   have h1:=YK hi.lok hp
   have h2:=cnt_set (c':=(fe (t:Int) m.L c).2.1) hc
   have h3:=LK (t:Int) m.L c
   have e1:cnt {m.client t with T:=fb (m.client t) m.T.n (Sc.fc m.T p),pk:=m.pk+1}=((m.cs.set t (fe (t:Int) m.L c).2.1).map (·.nx)).sum:=by
    show ((m.client t).cs.map (·.nx)).sum=_
    rw[client_cs hc]
   have e2:tot {m.client t with T:=fb (m.client t) m.T.n (Sc.fc m.T p),pk:=m.pk+1}=tot m:=by
    show ((m.client t).cs.map (·.ops.length)).sum=_
    rw[client_cs hc]
    exact tot_set hc (stepC_ops _ _ _)
   have e3:cnt m=(m.cs.map (·.nx)).sum:=rfl
   refine⟨?_,by rw[e1,e3];omega,e2⟩
   show (mapL (m.client t).L).length<=_
   rw[e1,client_L hc]
   have h4:(mapL m.L).length<=cnt m:=h
   omega
end Lo
theorem OR (h:e∈Bu l m):e∈l\/e∈DG l m:=by
 unfold Bu at h
 rcases ib.1 h with h|h
 · rcases ib.1 h with h|h
   · exact .inl (fF h)
   · exact .inr h
 · exact .inl (List.mem_of_mem_drop h)
theorem OS (o:Opn):vck (vOf o)=true:=by
 unfold vOf
 split
 · rename_i h
   have hl:=ED o.val
   have ht:(pad (byt o.val) 16).take o.val.size=byt o.val:=by
    unfold pad
    rw[jg (by omega),fZ (by omega)]
   unfold vck C0
   refine jq ⟨by show (0:Int)<=(o.val.size:Int);omega,by show (o.val.size:Int)<=16;omega,?_⟩
   show pad ((pad (byt o.val) 16).take ((o.val.size:Int)).toNat) 16=pad (byt o.val) 16
   rw[ie,ht]
 · decide
theorem RN {o:Opn} (h:e∈DG l (mOf o)):kck e.key=true/\vck e.val=true:=by
 unfold DG at h
 split at h
 · rename_i h2
   simp only[iE] at h
   subst h
   refine⟨E9 o,?_⟩
   unfold D6 at h2 ⊢
   by_cases h1:(mOf o).kind=1
   · rw[fO h1]
     show vck (if o.kind=1 then vOf o else kv0 16)=true
     split
     · exact OS o
     · decide
   · rw[fR h1] at h2 ⊢
     by_cases h3:(mOf o).kind=3
     · rw[fO h3];exact NA _
     · rw[fR h3] at h2;cases h2
 · cases h
theorem YL (h:B8 l) {i j:Nat} {a b:En} (hij:i<j) (ha:l[i]?=some a) (hb:l[j]?=some b):BC a.key b.key<0:=by
 obtain⟨h1,rfl⟩:=gl.1 ha
 obtain⟨h2,rfl⟩:=gl.1 hb
 exact j7.1 h i j h1 h2 hij
theorem Wu (hr:B8 l) (hk:∀e∈l,kck e.key=true/\vck e.val=true):lck l=true:=by
 unfold lck
 rw[iD]
 intro i hi
 have hi:=gk.1 hi
 obtain⟨e,he⟩:∃e,l[i]?=some e:=⟨_,fD hi⟩
 have h1:=hk e (hY he)
 unfold EP
 rw[he]
 dsimp only
 rw[h1.1,h1.2,kg,kg]
 cases i with
 |zero=>rfl
 |succ j =>
  obtain⟨d,hd⟩:∃d,l[j]?=some d:=⟨_,fD (by omega)⟩
  simp only[Nat.add_sub_cancel,hd]
  exact jq (YL hr (Nat.lt_succ_self j) hd he)
theorem Ww:∀{l:List En},(∀e∈l,kck e.key=true/\vck e.val=true)->lby l<=26*(l.length:Int)
 |[],_=>by simp[lby]
 |e::l,h=>by
  have ih:=Ww (l:=l) (fun x hx=>h x (iR _ hx))
  have h1:=h e (iG ..)
  have h2:=Ik h1.1
  have h3:=Il h1.2
  unfold lby lsz at *
  simp only[gB,kF,fv]
  omega
theorem YM (hr:B8 l) (hk:∀e∈l,kck e.key=true/\vck e.val=true) (h9:l.length<=9):Cd (Lo.lfd l)=true:=by
 unfold Cd
 have e1:lck (Lo.lfd l).es=true:=Wu hr hk
 have e2:lby (Lo.lfd l).es<=248:=by
  have:=Ww hk
  show lby l<=248
  omega
 rw[e1,jq e2];rfl
theorem RO (h:Cd (Lo.lfd l)=true) (hr:B8 l) (h8:l.length<=8) (o:Opn):Cd (Lo.lfd (Bu l (mOf o)))=true :=
 YM (Gw hr (fun x hx=>(El h x hx).1) (E9 o)) (fun e he=>by
  rcases OR he with h1|h1
  · exact El h e h1
  · exact RN h1) (by have:=Lo.lput_len l (mOf o);omega)
namespace Lo
theorem Few.small {m:HM} (h:Few m) (hi:Inv m) (h8:cnt m<=8):∀c∈m.cs,Small m.L c:=fun c _ _ h2=>.inl (by
 obtain⟨es,e,hr,hf⟩:=hi.lok.nd h2
 have hes:lfe m.L=es:=by unfold lfe;rw[e];rfl
 have hm:mapL m.L=es:=by rw[mapL_at h2,hes]
 have h3:(mapL m.L).length<=cnt m:=h
 rw[hes]
 rw[hm] at h3
 exact RO hf hr (by omega) c.op)
theorem Few.run {m:HM} (h:Few m) (hi:Inv m) (ht:tot m<=9) (p:Int):Few (ff m p)/\Inv (ff m p)/\tot (ff m p)<=9/\mu (ff m p)<=mu m/\(m.cs.all Cl.ended=false->mu (ff m p)<mu m):=by
 obtain⟨h1,_,h3⟩:=h.step hi p
 have hle:∀c∈m.cs,c.nx<=c.ops.length:=fun c hc=>(hi.ops c hc).2.1
 have hS:∀c∈m.cs,Small m.L c:=fun c hc hp h2=>by
  obtain⟨t,hct⟩:=jK.1 hc
  have hn:=(hi.ops c hc).2.2 (by rw[hp];simp)
  have:=Ws hct hn hle
  have h9:(m.cs.map (·.ops.length)).sum<=9:=ht
  exact h.small hi (by show (m.cs.map (·.nx)).sum<=8;omega) c hc hp h2
 obtain⟨a,b,c,_⟩:=hi.step p hS
 exact⟨h1,a,by rw[h3];exact ht,b,c⟩
theorem hmS_few (nb nf fl:Nat) (ls:List (List Opn)):Few (hmS nb nf fl ls):=gb _
end Lo
theorem Wx (h:1<=nf):eM (Lo.hmS nb nf fl ls)=hmS nb nf fl ls:=by
 have hcs:(ls.map Lo.cl0).mapIdx (fun i c=>eC (i:Int) c)=ls.map cl0:=by
  apply gv
  intro i
  rw[kE,gm,gm]
  cases ls[i]?<;>rfl
 have h0:eM (Lo.hm0 nb nf fl ls)=hm0 nb nf fl ls:=by
  show (⟨eL (Wq nb nf),(ls.map Lo.cl0).mapIdx (fun i c=>eC (i:Int) c),fl,1,0,[],Sc.newM (ls.length+(fl+1))⟩:HM)=_
  rw[YI h,hcs];rfl
 have h1:=MP (Lo.hm0 nb nf fl ls) (ls.length+(fl+1)) (Sc.newM (ls.length+(fl+1)))
 unfold hmS Lo.hmS
 rw[<-h0,h1];rfl
def oA:Opn:=⟨1,⟨#[97]⟩,⟨#[49]⟩,0,by decide,by decide⟩
def oB:Opn:=⟨3,⟨#[97]⟩,⟨#[]⟩,1,by decide,by decide⟩
def awL:List (List Opn):=[[oA],[oB]]
def aw0:Lo.HM:=Lo.hmS 4 9 0 awL
def Cu:Nat->Lo.HM->Lo.HM
 |0,m=>m
 |k+1,m=>Lo.ff (Cu k m) (k:Int)
theorem eQ:(Cu 60 aw0).cs.all Lo.Cl.ended=true/\(Cu 60 aw0).ev.length=4/\(Cu 60 aw0).sq=3/\(Lo.mapL (Cu 60 aw0).L).length=1:=by decide +kernel
theorem eR:((Cu 60 aw0).L.r.st=0\/(Cu 60 aw0).L.r.st=2)/\(Cu 60 aw0).L.r.pins=0/\(Cu 60 aw0).L.cl=0/\Lt.idleB (Cu 60 aw0).L.la=true:=by decide +kernel
theorem eS:((Lo.mapL (Cu 60 aw0).L).map (fun e=>e.val.n)).all (fun n=>decide (0<n))=true:=by decide +kernel
theorem eT {w:World} {v:Value} {s0 s1:Sv} {l0 l1:List Opn} (h:RdV w v DM [s0,s1]) (h0:RdV w s0.v Opn.enc l0) (h1:RdV w s1.v Opn.enc l1):RRo w v [s0,s1] [l0,l1]:=⟨h,rfl,fun i s l e1 e2=>by
 match i with
 |0=>cases e1;cases e2;exact h0
 |1=>cases e1;cases e2;exact h1
 |i+2=>simp at e1⟩
theorem eU (e:En):e.c[9]?=some (.int .i64 e.val.n):=by
 unfold En.c
 rw[fP (by rw[Kv.e6];decide),Kv.e6];rfl
theorem Wy:∀l∈awL,∀o∈l,o.key.size<=9223372036854775807/\(o.kind=1\/o.kind=2\/o.kind=3\/o.kind=4):=fun l hl o ho=>by
 simp[awL] at hl
 rcases hl with rfl|rfl
 · simp at ho;subst ho;exact⟨by decide,.inl rfl⟩
 · simp at ho;subst ho;exact⟨by decide,.inr (.inr (.inl rfl))⟩
theorem YN {m:Lo.HM} (h:Lo.Inv m) (p:Int):(Lo.ff m p).pk<=m.pk+1:=by
 rcases Lo.stepH_cases h p with⟨e,_⟩|⟨t,c,hc,_,_,e⟩
 · rw[e];exact jT _
 · rw[e];exact ga _
theorem IC:∀i:Nat,Lo.Inv (Cu i aw0)/\Lo.Few (Cu i aw0)/\Lo.tot (Cu i aw0)<=9/\(Cu i aw0).pk<=i
 |0=>⟨Lo.hmS_inv (by decide) (by decide) (by decide) Wy,Lo.hmS_few _ _ _ _,by decide,ga 0⟩
 |i+1=>by
  obtain⟨h1,h2,h3,h4⟩:=IC i
  obtain⟨a,b,c,_,_⟩:=h2.run h1 h3 (i:Int)
  exact⟨b,a,c,by have:=YN h1 (i:Int);show (Lo.ff _ _).pk<=_;omega⟩
theorem OT (m:Lo.HM):(eM m).cs.all Cl.ended=m.cs.all Lo.Cl.ended:=by
 rw[hZ,iD,iD]
 constructor
 · intro h c hc
   obtain⟨i,hi⟩:=jK.1 hc
   have:=h (eC (i:Int) c) (hY (by rw[Gh,hi];rfl))
   rwa[HY] at this
 · intro h c hc
   obtain⟨i,hi⟩:=jK.1 hc
   rw[Gh] at hi
   cases hx:m.cs[i]? with
   |none=>rw[hx] at hi;cases hi
   |some d=>rw[hx] at hi;cases hi;rw[HY];exact h d (hY hx)
theorem Wz {L:Lo.Lf} (h:L.Ok):(eL L).look.es=Lo.mapL L:=by
 obtain⟨_,_,h3,h4⟩:=MQ h
 by_cases h2:L.r.st=2
 · rw[h3 h2,Lo.mapL_at h2]
 · rw[h4 h2,Lo.mapL_no h2]
theorem bQ {L:Lo.Lf} (h1:L.r.st=0\/L.r.st=2) (h2:L.r.pins=0) (h3:L.cl=0) (hI:Lt.idleB L.la=true):Wb (eL L):=by
 refine⟨fun v hv=>?_,fun l hl=>?_,rfl⟩
 · rcases fq.1 (show v∈L.r::L.rest from hv) with e|e
   · rw[e];exact⟨h1,h2⟩
   · unfold Lo.Lf.rest at e
     rw[h3] at e
     rw[(ic.1 (show v∈List.replicate (L.n-1-0) BG from by simpa using e)).2]
     exact⟨.inl rfl,rfl⟩
 · rcases fq.1 (show l∈L.la::List.replicate (L.n-1) Lt.newL from hl) with e|e
   · rw[e];exact hI
   · rw[(ic.1 e).2];decide
theorem Qd :Con prog 17 [] (fun _=>True) [] (fun _:Unit=>.bool true) (fun _=>True) (fun _=>[]):=by
 intro w hE hH
 refine E0 func17 I hH ?_
 refine Cs I (Ak I (Cs I (Lq I (AN (Opn.c oA) I I (fun w=>by kernel_rfl)) (l_e I (Ax (sz:=4) [.tmp 6] I I I I I U40 Z43 I zeroValue43 I (fun ba=>Lq I (AN (Opn.c oB) I I (fun w=>by kernel_rfl)) (l_e I (Ax (sz:=4) [.tmp 8] I I I I I U40 Z43 I zeroValue43 I (fun bb=>l_e I (Ax (sz:=1) [.tmp 7,.tmp 9] I I I I I U25 Z40 I zeroValue40 I (fun bo=>Lq I (AN ([.int .i64 ((4:Nat):Int),.int .i64 ((9:Nat):Int),.int .i64 ((0:Nat):Int),.slice (some ⟨bo,0,none⟩) 2 2]) I I (fun w=>by kernel_rfl)) (l_e I (Jj [_,_,_] (HA:=[]) (Zq (vs:=[⟨some ⟨ba,0,none⟩,1,1⟩,⟨some ⟨bb,0,none⟩,1,1⟩]) (ls:=awL) (nb:=4) (nf:=9) (fl:=0) (by decide) (by decide) (by decide) (by decide) (by decide) (by decide) (by decide) (fun l hl=>by simp[awL] at hl;rcases hl with rfl|rfl<;>simp) (fun l hl o ho=>by have:=(Wy l hl o ho).2;omega)) rfl rfl rfl call18 rfl (fun _ h=>eT (AW (h.at 0 rfl) DM [⟨some ⟨ba,0,none⟩,1,1⟩,⟨some ⟨bb,0,none⟩,1,1⟩] rfl rfl) (AW (h.at 2 rfl) Opn.enc [oA] rfl rfl) (AW (h.at 1 rfl) Opn.enc [oB] rfl rfl)) (fun z hz=>Lm I (Lq I (Qx I) (Lq I (Qx I) (Las I (Ak I (Ag (Cs I (Lm I (Lq I (Qn I) (Lm I (Av (Av (Av (Sb 17 false I (I) (Lm I (Lq I (DZ I underlying24 I I) (Lq I (Qz I) (Lm I (Sb 21 false I (I) (Lm I (l_e I (Ee [] (RC hz) I call19 Tt ?_)))))))))))))))))))))))))))))))))))
 intro _ _
 refine Pw (St _ _ (HC.H z (hmS 4 9 0 awL))) ?_
 refine Lq I (DZ I underlying47 I I) (Lq I (Qz I) (Nk (Sb 25 false I (I) (Ab I (Ae (Ks (Cs I (Ak I (Al ?_)))))))))
 have e0:eM (Cu 0 aw0)=hmS 4 9 0 awL:=Wx (by decide)
 rw[<-e0] at hz
 refine Pre.world (St w [] (HC.H z (eM (Cu 0 aw0)))) (fun _ h=>by rw[e0];exact h) ?_
 refine CN (fun (i:Nat) (z:HC)=>[(1,ptV z.bH),(3,.int .i64 (i:Int))]) (fun (i:Nat) (z:HC)=>St w [] (HC.H z (eM (Cu i aw0)))) (fun (i:Nat) (z:HC)=>i<=60/\HOk z (eM (Cu i aw0)) (2*i)) (fun (i:Nat) (z:HC)=>60-i) (0) (z) ⟨by decide,hz⟩ (Si I) Ih (fun i z hp=>Ag (Ag ?_))
 obtain⟨hi,hk⟩:=hp
 obtain⟨r1,r2,r3,r4⟩:=IC i
 refine Cr I (Lm I (Lq I (Ql I) (Nk ?_)))
 refine CB 27 I (fun hlt=>?_) (fun hlt=>?_)
 · refine Ai I (Ae (Ks (Al (Cr I (Lm I (Lm I ?_))))))
   have hst:ff (eM (Cu i aw0)) (i:Int)=eM (Cu (i+1) aw0):=RM r1 _
   have hs:=HX hk (by omega) (by show (Cu i aw0).pk<20000;omega) (Wp r1) (i:Int) (by rw[hst];exact FJ (IC (i+1)).1.lok)
   rw[hst] at hs
   refine l_e I (Ee [] (hs) I call13 Tt ?_)
   rintro y ⟨hy1,hy2⟩
   refine Pw (St _ _ (HC.H y (eM (Cu (i+1) aw0)))) ?_
   refine AB (Aw (Kt (Cr I (Lm I (Lq I (Qi I (by omega)) (Las I (AB (Sv' 1 (ptV y.bH) I (by rw[hy1]) ?_))))))))
   exact AD ((i+1,y)) (by dsimp only;omega) ⟨by dsimp only;omega,hy2⟩ (Si I) (fun _ h=>h)
 · have hi60:i=60:=by omega
   subst hi60
   obtain⟨a1,a2,a3,a4⟩:=eQ
   obtain⟨b1,b2,b3,b4⟩:=eR
   have hlm:(eM (Cu 60 aw0)).L.look.es=Lo.mapL (Cu 60 aw0).L:=Wz (IC 60).1.lok
   refine Ab I (AO (Ac (Ac (Ar (Kt (Cs I (Lm I (l_e I (Ee [] (RC hk) I call19 Tt (fun _ _=>Pw (St _ _ (HC.H z (eM (Cu 60 aw0)))) ?_))))))))))
   have hz:=eP hk (FJ (IC 60).1.lok) (MQ (IC 60).1.lok).1
   rw[hlm] at hz
   refine l_e I (Ee [] (hz) I call20 Tt (fun vm _=>Pw (St _ _ (_::HC.H z (eM (Cu 60 aw0)))) ?_))
   refine Ak I (Cs I (Lm I ?_))
   obtain⟨e0,he0⟩:∃e,(Lo.mapL (Cu 60 aw0).L)[0]?=some e:=⟨_,fD (by omega)⟩
   have hc0:0<e0.val.n:=by
    have h9:=iD.1 eS _ (gj.2 ⟨e0,hY he0,rfl⟩)
    exact jt h9
   refine l_e I (Ee [_] (Qa hk) I call12 Tt (fun _ _=>Pw (St _ _ (_::HC.H z (eM (Cu 60 aw0)))) ?_))
   refine Sv' 37 (.bool true) I (by rw[OT,a1]) (Lm I (Lm I (l_e I (Ee [_] (MM hk) I call15 Tt (fun ve _=>Pw (St _ _ (_::_::HC.H z (eM (Cu 60 aw0)))) ?_)))))
   refine Lq I (AL I U34 I (Hrd 1 I)) (Lq I (Qe I) (Lq I (Qy I) (Lm I (Sb 44 true I (by first|rfl|exact jq (by omega)|(simp only[ia];omega)) (Lm I (l_e I (Ee [_,_] (eJ hk) I call47 Tt (fun _ _=>Pw (St _ _ (_::_::HC.H z (eM (Cu 60 aw0)))) ?_))))))))
   refine Lq I (Qe I) (Lq I (Qy I) (Lm I (Sb 49 true I (by first|rfl|exact jq (by omega)|(simp only[ia];omega)) (Lm I (Lq I (AL I U49 I (Hrd 0 I)) (Lq I (Qe I) (Lq I (Qy I) (Lm I (Sb 54 true I (by first|rfl|exact jq (by omega)|(simp only[ia];omega)) (Lm I (Lq I (As 0 I U49 Z79 I (Hrd 0 I) I I (by omega)) (Lfa U79 I Z56 I (Lfa U56 I Z3 I (Lq I (AI 0 9 I G3 I I (Hrd 0 I) he0 (eU e0)) (Lq I (BS I I I) (Lq I (Qy I) (Lm I (Sb 62 true I (by first|rfl|exact jq (by omega)|(simp only[ia];omega)) (Lm I (l_e I (Ee [_,_] (RC hk) I call19 Tt (fun _ _=>Pw (St _ _ (_::_::HC.H z (eM (Cu 60 aw0)))) ?_))))))))))))))))))))))
   refine l_e I (Ee [_,_] (dR hk (bQ b1 b2 b3 b4)) I call48 Tt (fun _ _=>Pw (St _ _ (_::_::HC.H z (eM (Cu 60 aw0)))) ?_))
   refine Lq I (Qy I) (Ak I (Af (An I I ?_)))
   exact fun _ h=>⟨(),rfl,trivial,h.e8⟩
theorem Tu (k:Kv 16) (z:Int):Con prog 164 [.agg k.c.toArray,.int .u64 z] (fun _=>True) [] (fun _:Unit=>.agg (DK k z).c.toArray) (fun _=>True) (fun _=>[]):=GZ (fun w _=>R2 k.n k.b z w k.len k.wb)
theorem Tv (z:Int) (h0:0<=z) (h1:z<18446744073709551616):Con prog 163 [.int .u64 z] (fun _=>True) [] (fun _:Unit=>.agg (Lg z).c.toArray) (fun _=>True) (fun _=>[]):=GZ (fun w _=>K1 z w h0 h1)
theorem BU {m:Nat} (ha:tx a=a.b.take m) (hb:tx b=b.b.take k) (hm:m<=8) (hk:k<=8) (him:i<m) (hik:i<k) (e:Df (tx a) (tx b)=Df ((tx a).drop i) ((tx b).drop i)) :
 Df (tx a) (tx b)=if a.b.getD i 0<b.b.getD i 0 then -1 else if b.b.getD i 0<a.b.getD i 0 then 1 else Df ((tx a).drop (i+1)) ((tx b).drop (i+1)):=by
 have h1:∀{c:Kv 8} {n:Nat},tx c=c.b.take n->n<=8->i<n->(tx c).drop i=c.b.getD i 0::(tx c).drop (i+1):=fun {c n} h hn hi=>by
  have hl:(tx c).length=n:=by rw[h];simp[c.len];omega
  rw[fA (by omega)]
  congr 1
  have hc:i<c.b.length:=by rw[c.len];omega
  rw[ju,fD hc]
  simp only[h,List.getElem_take,gq]
 rw[e,h1 ha hm him,h1 hb hk hik,Df]
theorem YO {m:Nat} (hm:(tx a).length=m) (hk:(tx b).length=k) (e:Df (tx a) (tx b)=Df ((tx a).drop i) ((tx b).drop i)) :
 (m<=i->k<=i->BC a b=0)/\(m<=i->i<k->BC a b = -1)/\(i<m->k<=i->BC a b=1):=by
 unfold BC
 have hz:∀{l:List Int},l.length<=i->l.drop i=[]:=fun h=>List.drop_eq_nil_of_le h
 have hc:∀{l:List Int},i<l.length->∃x t,l.drop i=x::t:=fun {l} h=>⟨l[i],l.drop (i+1),fA h⟩
 refine⟨fun h1 h2=>?_,fun h1 h2=>?_,fun h1 h2=>?_⟩
 · rw[e,hz (by omega),hz (by omega)];rfl
 · obtain⟨x,t,hx⟩:=hc (l:=tx b) (by omega)
   rw[e,hz (by omega),hx];rfl
 · obtain⟨x,t,hx⟩:=hc (l:=tx a) (by omega)
   rw[e,hx,hz (l:=tx b) (by omega)];rfl
theorem Ed {l:List Int} {m:Nat} (h:l.length=m):(kc n l).length=m+1:=by simp[h]
theorem RP {m:Int} {l k:List Int} {d:Nat} (h:l.length=d) (h':k.length=d):Sep.splice (kc n l) 0 (kc m k)=kc m k:=Sep.e7 (by rw[Ed h,Ed h'])
theorem OU {m:Nat} {b:UInt8} (hb:s[i]?=some b) (h:i<m):(kc n ((byt s).take i++List.replicate (m-i) 0)).set (0+1+i*1) (.int .u8 (b.toNat:Int))=kc n ((byt s).take (i+1)++List.replicate (m-(i+1)) 0):=by
 rw[ZR]
 congr 1
 have hs:i<s.size:=by
  rcases fG i s.size with h|h
  · exact h
  · rw[getElem?_neg s i (by omega)] at hb;cases hb
 have hl:i<(byt s).length:=by rw[ED];exact hs
 have e:(byt s)[i]?=some (b.toNat:Int):=by
  rw[getElem?_pos s i hs] at hb
  unfold byt
  rw[gm,jz,jA hs]
  exact congrArg (fun z:Option UInt8=>z.map (fun b=>(b.toNat:Int))) hb
 rw[jd,e,iq _ _ (by simp;omega)]
 rw[show m-i=(m-(i+1))+1 from by omega,fT]
 simp[show min i (byt s).length=i by omega]
theorem Tw (h:s.size<=8):kc (s.size:Int) ((byt s).take s.size++List.replicate (8-s.size) 0)=(kof s h).c:=by
 show _=kc (((byt s).length:Nat):Int) (byt s++List.replicate (8-(byt s).length) 0)
 rw[ED,fZ (by rw[ED];exact ga _)]
theorem Tx (h:s.size<=16):kc (s.size:Int) ((byt s).take s.size++List.replicate (16-s.size) 0)=(vof s h).c:=by
 show _=kc (s.size:Int) (byt s++List.replicate (16-(byt s).length) 0)
 rw[ED,fZ (by rw[ED];exact ga _)]
theorem OV {m:Nat} (h:s.size<=m) (hi:i<=s.size):((byt s).take i++List.replicate (m-i) 0).length=m:=by
 have:=ED s;simp;omega
theorem WA (h:i<s.size):∃b,s[i]?=some b:=⟨s[i]'h,getElem?_pos s i h⟩
theorem bS {v:Kv 16} {t:Bool} (hm:m.kind=1\/m.kind=2\/m.kind=3):rap v t m=D6 v t m:=by
 unfold rap D6
 rcases hm with h|h|h
 · rw[fO h,fO h]
 · rw[fR (by omega),fO h,fR (by omega),fR (by omega)]
 · have h1:¬m.kind=1:=by omega
   have h2:¬m.kind=2:=by omega
   simp only[fR h1,fR h2,fO h]
   cases t with
   |true=>rfl
   |false=>simp only[iK,iL];rw[c3 m.wy]
theorem Qf (a b:Kv 8) (ha:kck a=true) (hb:kck b=true):Con prog 62 [.agg a.c.toArray,.agg b.c.toArray] (fun _=>True) [] (fun _:Unit=>.int .i64 (BC a b)) (fun _=>True) (fun _=>[]):=by
 intro w hE hH
 obtain⟨m,hm,hm8,hta,htal,_⟩:=DJ ha
 obtain⟨q,hq,hq8,htb,htbl,_⟩:=DJ hb
 refine E0 func62 I hH ?_
 refine Cs I (l_e I (AQ I I I I (fun ba=>Ce a.c I (l_e I (AQ I I I I (fun bb=>Ce b.c I (Ak I (Ag (Cs I (Ak I (Al ?_)))))))))))
 refine Bc (fun (i:Nat)=>[(2,ptV ba),(3,ptV bb),(5,.int .i64 (i:Int))]) (fun (i:Nat)=>St w [] [Ad bb 77 b.c,Ad ba 77 a.c]) (fun (i:Nat)=>i<=8/\Df (tx a) (tx b)=Df ((tx a).drop i) ((tx b).drop i)) (fun (i:Nat)=>8-i) (0) ⟨gb _,rfl⟩ (Si I) Ih (fun i hp=>Ag (Ag ?_))
 obtain⟨hi,he⟩:=hp
 obtain⟨e1,e2,e3⟩:=YO htal htbl he
 refine Cr I (Lm I (Lq I (Ql I) (Nk ?_)))
 refine CB 7 I (fun h0=>?_) (fun h0=>?_)
 · refine Ai I (Ae (Ks (Al (Al (Cs I (Lm I (Lfa U77 I Z3 I (Lo G3 1 I (Lq I (Qg I) (Lm I ?_))))))))))
   refine CB 15 I (fun h1=>?_) (fun h1=>?_)
   · refine Lm I (Lfa U77 I Z3 I (Lo G3 0 I (Lq I (Qg I) (Lq I (Qy I) (Ak I ?_)))))
     refine CB 10 I (fun h2=>?_) (fun h2=>?_)
     · refine Ai I (Cs I (Ak I (Af (Am (Am (Aa (Aa (Am (Aa (An I I ?_))))))))))
       exact fun _ h=>⟨(),congrArg (fun z=>Ending.returned (Value.int .i64 z)) (by first|exact (e1 (by omega) (by omega)).symm|exact (e2 (by omega) (by omega)).symm|exact (e3 (by omega) (by omega)).symm|(unfold BC;rw[BU hta htb hm8 hq8 (by omega) (by omega) he,fO (by omega)])|(unfold BC;rw[BU hta htb hm8 hq8 (by omega) (by omega) he,fR (by omega),fO (by omega)])),trivial,h.e8⟩
     · refine Ab I (Cs I (Lm I (Lfa U77 I Z3 I (Lo G3 1 I (Lq I (Qg I) (Ak I ?_))))))
       refine CB 21 I (fun h3=>?_) (fun h3=>?_)
       · refine Ai I (Cs I (Ak I (Af (Am (Am (Aa (Aa (Am (Aa (An I I ?_))))))))))
         exact fun _ h=>⟨(),congrArg (fun z=>Ending.returned (Value.int .i64 z)) (by first|exact (e1 (by omega) (by omega)).symm|exact (e2 (by omega) (by omega)).symm|exact (e3 (by omega) (by omega)).symm|(unfold BC;rw[BU hta htb hm8 hq8 (by omega) (by omega) he,fO (by omega)])|(unfold BC;rw[BU hta htb hm8 hq8 (by omega) (by omega) he,fR (by omega),fO (by omega)])),trivial,h.e8⟩
       · refine Ab I (Cs I (Lm I (Lfa U77 I Z3 I (Lo G3 0 I (Lq I (Qg I) (Ak I ?_))))))
         refine CB 26 I (fun h4=>?_) (fun h4=>?_)
         · refine Ai I (Cs I (Ak I (Af (Am (Am (Aa (Aa (Am (Aa (An I I ?_))))))))))
           exact fun _ h=>⟨(),congrArg (fun z=>Ending.returned (Value.int .i64 z)) (by first|exact (e1 (by omega) (by omega)).symm|exact (e2 (by omega) (by omega)).symm|exact (e3 (by omega) (by omega)).symm|(unfold BC;rw[BU hta htb hm8 hq8 (by omega) (by omega) he,fO (by omega)])|(unfold BC;rw[BU hta htb hm8 hq8 (by omega) (by omega) he,fR (by omega),fO (by omega)])),trivial,h.e8⟩
         · refine Ab I (Ag (Dn (rg 10) 0 _ I St.drawn Ih (Dm I (Dfa U77 I Z75 I (Dq I (AZ i I U75 Z5 I I I (by omega)) (Dq I (Ao I G5 I (Hat 1 I) (F4 a.len (by omega))) (Dm I (Dfa U77 I Z75 I (Dq I (AZ i I U75 Z5 I I I (by omega)) (Dq I (Ao I G5 I (Hat 0 I) (F4 b.len (by omega))) (Dq I (Ql I) (Das I (AK (Kt ?_))))))))))))))
           refine CB 31 I (fun h6=>?_) (fun h6=>?_)
           · refine Ai I (Cs I (Ak I (Af (Am (Am (Aa (Aa (Am (Aa (An I I ?_))))))))))
             exact fun _ h=>⟨(),congrArg (fun z=>Ending.returned (Value.int .i64 z)) (by first|exact (e1 (by omega) (by omega)).symm|exact (e2 (by omega) (by omega)).symm|exact (e3 (by omega) (by omega)).symm|(unfold BC;rw[BU hta htb hm8 hq8 (by omega) (by omega) he,fO (by omega)])|(unfold BC;rw[BU hta htb hm8 hq8 (by omega) (by omega) he,fR (by omega),fO (by omega)])),trivial,h.e8⟩
           · refine Ab I (Ag (Dn (rg 10) 0 _ I St.drawn Ih (Dm I (Dfa U77 I Z75 I (Dq I (AZ i I U75 Z5 I I I (by omega)) (Dq I (Ao I G5 I (Hat 1 I) (F4 a.len (by omega))) (Dm I (Dfa U77 I Z75 I (Dq I (AZ i I U75 Z5 I I I (by omega)) (Dq I (Ao I G5 I (Hat 0 I) (F4 b.len (by omega))) (Dq I (BS I I I) (Das I (AK (Kt ?_))))))))))))))
             refine CB 41 I (fun h8=>?_) (fun h8=>?_)
             · refine Ai I (Cs I (Ak I (Af (Am (Am (Aa (Aa (Am (Aa (An I I ?_))))))))))
               exact fun _ h=>⟨(),congrArg (fun z=>Ending.returned (Value.int .i64 z)) (by first|exact (e1 (by omega) (by omega)).symm|exact (e2 (by omega) (by omega)).symm|exact (e3 (by omega) (by omega)).symm|(unfold BC;rw[BU hta htb hm8 hq8 (by omega) (by omega) he,fO (by omega)])|(unfold BC;rw[BU hta htb hm8 hq8 (by omega) (by omega) he,fR (by omega),fO (by omega)])),trivial,h.e8⟩
             · refine Ab I (Ae (Aw (Aw (Kt (Cr I (Lm I (Lq I (Qi I (by omega)) (Las I (AB ?_)))))))))
               exact AD (i+1) (by omega) ⟨by omega,by rw[BU hta htb hm8 hq8 (by omega) (by omega) he,fR (by omega),fR (by omega)]⟩ (Si I) (fun _ h=>h)
   · refine Lx I (Lx I (Lx I (Lx I (Lq I (Qz I) (Ak I (Ab I (Cs I (Lm I (Lfa U77 I Z3 I (Lo G3 1 I (Lq I (Qg I) (Ak I ?_))))))))))))
     refine CB 21 I (fun h9=>?_) (fun h9=>?_)
     · refine Ai I (Cs I (Ak I (Af (Am (Am (Aa (Aa (Am (Aa (An I I ?_))))))))))
       exact fun _ h=>⟨(),congrArg (fun z=>Ending.returned (Value.int .i64 z)) (by first|exact (e1 (by omega) (by omega)).symm|exact (e2 (by omega) (by omega)).symm|exact (e3 (by omega) (by omega)).symm|(unfold BC;rw[BU hta htb hm8 hq8 (by omega) (by omega) he,fO (by omega)])|(unfold BC;rw[BU hta htb hm8 hq8 (by omega) (by omega) he,fR (by omega),fO (by omega)])),trivial,h.e8⟩
     · refine Ab I (Cs I (Lm I (Lfa U77 I Z3 I (Lo G3 0 I (Lq I (Qg I) (Ak I ?_))))))
       refine CB 26 I (fun h10=>?_) (fun h10=>?_)
       · refine Ai I (Cs I (Ak I (Af (Am (Am (Aa (Aa (Am (Aa (An I I ?_))))))))))
         exact fun _ h=>⟨(),congrArg (fun z=>Ending.returned (Value.int .i64 z)) (by first|exact (e1 (by omega) (by omega)).symm|exact (e2 (by omega) (by omega)).symm|exact (e3 (by omega) (by omega)).symm|(unfold BC;rw[BU hta htb hm8 hq8 (by omega) (by omega) he,fO (by omega)])|(unfold BC;rw[BU hta htb hm8 hq8 (by omega) (by omega) he,fR (by omega),fO (by omega)])),trivial,h.e8⟩
       · refine Ab I (Ag (Dn (rg 10) 0 _ I St.drawn Ih (Dm I (Dfa U77 I Z75 I (Dq I (AZ i I U75 Z5 I I I (by omega)) (Dq I (Ao I G5 I (Hat 1 I) (F4 a.len (by omega))) (Dm I (Dfa U77 I Z75 I (Dq I (AZ i I U75 Z5 I I I (by omega)) (Dq I (Ao I G5 I (Hat 0 I) (F4 b.len (by omega))) (Dq I (Ql I) (Das I (AK (Kt ?_))))))))))))))
         refine CB 31 I (fun h12=>?_) (fun h12=>?_)
         · refine Ai I (Cs I (Ak I (Af (Am (Am (Aa (Aa (Am (Aa (An I I ?_))))))))))
           exact fun _ h=>⟨(),congrArg (fun z=>Ending.returned (Value.int .i64 z)) (by first|exact (e1 (by omega) (by omega)).symm|exact (e2 (by omega) (by omega)).symm|exact (e3 (by omega) (by omega)).symm|(unfold BC;rw[BU hta htb hm8 hq8 (by omega) (by omega) he,fO (by omega)])|(unfold BC;rw[BU hta htb hm8 hq8 (by omega) (by omega) he,fR (by omega),fO (by omega)])),trivial,h.e8⟩
         · refine Ab I (Ag (Dn (rg 10) 0 _ I St.drawn Ih (Dm I (Dfa U77 I Z75 I (Dq I (AZ i I U75 Z5 I I I (by omega)) (Dq I (Ao I G5 I (Hat 1 I) (F4 a.len (by omega))) (Dm I (Dfa U77 I Z75 I (Dq I (AZ i I U75 Z5 I I I (by omega)) (Dq I (Ao I G5 I (Hat 0 I) (F4 b.len (by omega))) (Dq I (BS I I I) (Das I (AK (Kt ?_))))))))))))))
           refine CB 41 I (fun h14=>?_) (fun h14=>?_)
           · refine Ai I (Cs I (Ak I (Af (Am (Am (Aa (Aa (Am (Aa (An I I ?_))))))))))
             exact fun _ h=>⟨(),congrArg (fun z=>Ending.returned (Value.int .i64 z)) (by first|exact (e1 (by omega) (by omega)).symm|exact (e2 (by omega) (by omega)).symm|exact (e3 (by omega) (by omega)).symm|(unfold BC;rw[BU hta htb hm8 hq8 (by omega) (by omega) he,fO (by omega)])|(unfold BC;rw[BU hta htb hm8 hq8 (by omega) (by omega) he,fR (by omega),fO (by omega)])),trivial,h.e8⟩
           · refine Ab I (Ae (Aw (Aw (Kt (Cr I (Lm I (Lq I (Qi I (by omega)) (Las I (AB ?_)))))))))
             exact AD (i+1) (by omega) ⟨by omega,by rw[BU hta htb hm8 hq8 (by omega) (by omega) he,fR (by omega),fR (by omega)]⟩ (Si I) (fun _ h=>h)
 · refine Ab I (AO (Ac (Ac (Ar (Kt (Cs I (Ak I (Af (An I I ?_)))))))))
   exact fun _ h=>⟨(),congrArg (fun z=>Ending.returned (Value.int .i64 z)) (by first|exact (e1 (by omega) (by omega)).symm),trivial,h.e8⟩
theorem Fo (s:ByteArray) (hs:s.size<=8):Con prog 67 [.string s] (fun _=>True) [] (fun _:Unit=>.tuple #[.agg (kof s hs).c.toArray,.int .i64 0]) (fun _=>True) (fun _=>[]):=by
 intro w hE hH
 have hzl:(List.replicate 8 (0:Int)).length=8:=jB ..
 refine E0 func67 I hH ?_
 refine Cs I (l_e I (Au I I I zeroValue77 (fun br=>Ce (kc 0 (List.replicate 8 0)) I (Ak I (Cs I (Lq I (AN (kc 0 (List.replicate 8 0)) I I (fun w=>by kernel_rfl)) (l_e I (Au I I I zeroValue77 (fun bk=>Ce (kc 0 (List.replicate 8 0)) I (l_e I (SA Z77 I Mq (Ay (RP hzl hzl) (Ns (Cs I (Lm I (Lq I (Ep I U9 I) (Lq I (BS I I I) (Nk (Sf 9 I (by omega) (Ab I (Ae (Kt (Cs I (Lm I (Lq I (Ep I U9 I) (Lfa U77 I Z3 I (l_e I (AF I I Z3 I I I (by rw[Ed hzl];decide) (Ay (c4) (Ns (Cs I (Ak I ?_))))))))))))))))))))))))))))))))
 refine Al ?_
 refine Bc (fun (i:Nat)=>[(0,.string s),(2,ptV br),(3,.int .i64 0),(4,ptV bk),(5,.int .i64 (i:Int))]) (fun (i:Nat)=>St w [] [Ad bk 77 (kc (s.size:Int) ((byt s).take i++List.replicate (8-i) 0)),Ad br 77 (kc 0 (List.replicate 8 0))]) (fun (i:Nat)=>i<=s.size) (fun (i:Nat)=>s.size-i) (0) (gb _) (Si I) Ih (fun i hi=>Ag (Ag ?_))
 have hll:=OV hs hi
 refine Cr I (Lm I (Lm I (Lq I (Ep I U9 I) (Lq I (Ql I) (Nk ?_)))))
 refine CB 17 I (fun h1=>?_) (fun h1=>?_)
 · obtain⟨b,hb⟩:=WA (s:=s) (i:=i) (by omega)
   refine Ai I (Ae (Ks (Al (Cr I (Lm I (Lm I (Lm I (Lq I (Nq i _ I U9 I I I hb) (Lfa U77 I Z75 I (Lq I (AZ i I U75 Z5 I I I (by omega)) (l_e I (AF I I Z5 I I I (by rw[Ed hll];show 0+1+i*1<9;omega) (Ay (OU hb (by omega)) (AB (Aw (Kt (Cr I (Lm I (Lq I (Qi I (by omega)) (Las I (AB ?_)))))))))))))))))))))
   exact AD (i+1) (by omega) (by omega) (Si I) (fun _ h=>h)
 · have hie:i=s.size:=by omega
   subst hie
   rw[Tw hs]
   refine Ab I (AO (Ac (Ac (Ar (Kt (Cs I (Lq I (Cq ((kof s hs).c) G77 Z77 0 I (AY _) (Kv.e6 _)) (AM (l_e I (Ah I I Z77 I I (Kv.e6 _) (Kv.one _) (by rw[Kv.e6,Ed hzl];decide) (Ay (Sep.e7 (by rw[Kv.e6,Ed hzl])) (Ak I (Af (BI I (AJ I G77 Z77 (Hat 0 I) (Kv.e6 _)) (show Sep.look _ _=some _ from I) ?_))))))))))))))
   exact fun _ h=>⟨(),rfl,trivial,h.e8⟩
theorem LL (s:ByteArray) (hs:s.size<=16):Con prog 69 [.string s] (fun _=>True) [] (fun _:Unit=>.tuple #[.agg (vof s hs).c.toArray,.int .i64 0]) (fun _=>True) (fun _=>[]):=by
 intro w hE hH
 have hzl:(List.replicate 16 (0:Int)).length=16:=jB ..
 refine E0 func69 I hH ?_
 refine Cs I (l_e I (Au I I I zeroValue56 (fun br=>Ce (kc 0 (List.replicate 16 0)) I (Ak I (Cs I (Lq I (AN (kc 0 (List.replicate 16 0)) I I (fun w=>by kernel_rfl)) (l_e I (Au I I I zeroValue56 (fun bk=>Ce (kc 0 (List.replicate 16 0)) I (l_e I (SA Z56 I Mq (Ay (RP hzl hzl) (Ns (Cs I (Lm I (Lq I (Ep I U9 I) (Lq I (BS I I I) (Nk (Sf 9 I (by omega) (Ab I (Ae (Kt (Cs I (Lm I (Lq I (Ep I U9 I) (Lfa U56 I Z3 I (l_e I (AF I I Z3 I I I (by rw[Ed hzl];decide) (Ay (c4) (Ns (Cs I (Ak I ?_))))))))))))))))))))))))))))))))
 refine Al ?_
 refine Bc (fun (i:Nat)=>[(0,.string s),(2,ptV br),(3,.int .i64 0),(4,ptV bk),(5,.int .i64 (i:Int))]) (fun (i:Nat)=>St w [] [Ad bk 56 (kc (s.size:Int) ((byt s).take i++List.replicate (16-i) 0)),Ad br 56 (kc 0 (List.replicate 16 0))]) (fun (i:Nat)=>i<=s.size) (fun (i:Nat)=>s.size-i) (0) (gb _) (Si I) Ih (fun i hi=>Ag (Ag ?_))
 have hll:=OV hs hi
 refine Cr I (Lm I (Lm I (Lq I (Ep I U9 I) (Lq I (Ql I) (Nk ?_)))))
 refine CB 17 I (fun h1=>?_) (fun h1=>?_)
 · obtain⟨b,hb⟩:=WA (s:=s) (i:=i) (by omega)
   refine Ai I (Ae (Ks (Al (Cr I (Lm I (Lm I (Lm I (Lq I (Nq i _ I U9 I I I hb) (Lfa U56 I sizeOf54 I (Lq I (AZ i I underlying54 Z5 I I I (by omega)) (l_e I (AF I I Z5 I I I (by rw[Ed hll];show 0+1+i*1<17;omega) (Ay (OU hb (by omega)) (AB (Aw (Kt (Cr I (Lm I (Lq I (Qi I (by omega)) (Las I (AB ?_)))))))))))))))))))))
   exact AD (i+1) (by omega) (by omega) (Si I) (fun _ h=>h)
 · have hie:i=s.size:=by omega
   subst hie
   rw[Tx hs]
   refine Ab I (AO (Ac (Ac (Ar (Kt (Cs I (Lq I (Cq ((vof s hs).c) G56 Z56 0 I (AY _) (Kv.e6 _)) (AM (l_e I (Ah I I Z56 I I (Kv.e6 _) (Kv.one _) (by rw[Kv.e6,Ed hzl];decide) (Ay (Sep.e7 (by rw[Kv.e6,Ed hzl])) (Ak I (Af (BI I (AJ I G56 Z56 (Hat 0 I) (Kv.e6 _)) (show Sep.look _ _=some _ from I) ?_))))))))))))))
   exact fun _ h=>⟨(),rfl,trivial,h.e8⟩
theorem OW (v:Kv 16) (t:Bool) (m:Ms):Con prog 115 [.agg v.c.toArray,.bool t,.agg m.c.toArray] (fun _=>True) [] (fun _:Unit=>.tuple #[.agg (rap v t m).1.c.toArray,.bool (rap v t m).2]) (fun _=>True) (fun _=>[]):=by
 intro w hE hH
 refine E0 func115 I hH ?_
 refine Cs I (l_e I (AQ I I I I (fun bv=>Ce v.c I (l_e I (AQ I I I I (fun bm=>Ce m.c I (l_e I (Au I I I zeroValue56 (fun br=>Ce (kv0 16).c I (Ak I (Ag (Cs I (Lfa B7 I Z3 I (Lo G3 1 I (Nk (Al (Cs I (Lq I (Qe I) (Ak I ?_)))))))))))))))))))
 refine CB 10 I (fun h1=>?_) (fun h1=>?_)
 · refine Ai I (Cs I (Lfa B7 I Z56 I (Lq I (Cq (m.val.c) G56 Z56 1 I (Ms.val_part _) (Kv.e6 _)) (l_e I (Ah I I Z56 I I (Kv.e6 _) (Kv.one _) (by simp only[Kv.e6,Ms.e6];decide) (Ce m.val.c (Sep.e7 (by simp only[Kv.e6,Ms.e6])) (Ak I (Af (Am (Aa (BI I (AJ I G56 Z56 (Hat 0 I) (Kv.e6 _)) (show Sep.look _ _=some _ from I) ?_)))))))))))
   exact fun _ h=>⟨(),congrArg (fun z:Kv 16×Bool=>Ending.returned (Value.tuple #[.agg (Kv.c z.1).toArray,.bool z.2])) (show (m.val,true)=rap v t m from by
    unfold rap
    simp_all),trivial,h.e8⟩
 · refine Ab I (Cs I (Lq I (Qe I) (Ak I ?_)))
   refine CB 14 I (fun h2=>?_) (fun h2=>?_)
   · refine Ai I (Cs I (Lq I (AN ((kv0 16).c) I I (fun w=>by kernel_rfl)) (l_e I (Ah I I Z56 I I (Kv.e6 _) (Kv.one _) (by simp only[Kv.e6,Ms.e6];decide) (Ce (kv0 16).c (Sep.e7 (by simp only[Kv.e6,Ms.e6])) (Ak I (Af (Am (Aa (BI I (AJ I G56 Z56 (Hat 0 I) (Kv.e6 _)) (show Sep.look _ _=some _ from I) ?_))))))))))
     exact fun _ h=>⟨(),congrArg (fun z:Kv 16×Bool=>Ending.returned (Value.tuple #[.agg (Kv.c z.1).toArray,.bool z.2])) (show ((kv0 16),false)=rap v t m from by
      unfold rap
      simp_all),trivial,h.e8⟩
   · refine Ab I (Ae (Aw (Ks (Cs I (Lm I (Lq I (Qt I) (Nk ?_)))))))
     refine CB 18 I (fun h3=>?_) (fun h3=>?_)
     · refine Ai I (Cs I (Lfa B7 I Z41 I (Lq I (Ao I G41 I (Hat 1 I) (Ms.by_part _)) (l_e I (E1 (Tv _ (Pu m.wy).1 (Pu m.wy).2) I call163 Tt (fun _ _=>l_e I (Ah I I Z56 I I (Kv.e6 _) (Kv.one _) (by simp only[Kv.e6,Ms.e6];decide) (Ce (Lg m.by').c (Sep.e7 (by simp only[Kv.e6,Ms.e6])) (Ak I (Af (Aa (BI I (AJ I G56 Z56 (Hat 0 I) (Kv.e6 _)) (show Sep.look _ _=some _ from I) ?_))))))))))))
       exact fun _ h=>⟨(),congrArg (fun z:Kv 16×Bool=>Ending.returned (Value.tuple #[.agg (Kv.c z.1).toArray,.bool z.2])) (show ((Lg m.by'),true)=rap v t m from by
        unfold rap
        simp_all),trivial,h.e8⟩
     · refine Ab I (Ae (Kt (Cs I (Lq I (Cq (v.c) G56 Z56 2 I (AY _) (Kv.e6 _)) (Lfa B7 I Z41 I (Lq I (Ao I G41 I (Hat 1 I) (Ms.by_part _)) (l_e I (E1 (Tu v _) I call164 Tt (fun _ _=>l_e I (Ah I I Z56 I I (Kv.e6 _) (Kv.one _) (by simp only[Kv.e6,Ms.e6];decide) (Ce (DK v m.by').c (Sep.e7 (by simp only[Kv.e6,Ms.e6])) (Ak I (Af (BI I (AJ I G56 Z56 (Hat 0 I) (Kv.e6 _)) (show Sep.look _ _=some _ from I) ?_))))))))))))))
       exact fun _ h=>⟨(),congrArg (fun z:Kv 16×Bool=>Ending.returned (Value.tuple #[.agg (Kv.c z.1).toArray,.bool z.2])) (show ((DK v m.by'),true)=rap v t m from by
        unfold rap
        simp_all),trivial,h.e8⟩
theorem ID (k:Kv 8):BC k k=0:=Nz _
theorem WB (l:List En) (m:Ms):(DG l m).length<=1:=by unfold DG;split<;>simp
theorem WC (hs:B8 l) {i:Nat} {e:En} {k:Kv 8} (he:l[i]?=some e) (hk:e.key=k):AS l k=(e.val,true):=by
 have hp:Ci l k=i:=Ra (Nat.le_of_lt (gl.1 he).1) (fun j d hj hd=>by rw[<-hk];exact NY.1 hs j i d e hj hd he) (fun d hd=>by rw[he] at hd;cases hd;rw[hk,ID];decide)
 unfold AS
 rw[hp,he]
 simp only[fO hk]
theorem WD {k:Kv 8} (h:∀e∈l,e.key≠k):AS l k=(kv0 16,false):=by
 unfold AS
 cases he:l[Ci l k]? with
 |none=>rfl
 |some e=>simp only[fR (h e (hY he))]
theorem Ky (ha:kck a=true) (hb:kck b=true) (h:BC a b=0):a=b:=by
 have h1:=Hu h
 obtain⟨m,hm,hm8,_,hl,hb1⟩:=DJ ha
 obtain⟨q,hq,hq8,_,hl2,hb2⟩:=DJ hb
 have:m=q:=by rw[<-hl,<-hl2,h1]
 subst this
 exact Kv.ext' (by rw[hm,hq]) (by rw[hb1,hb2,h1])
def LM (l:List En) (k:Kv 8):Nat:=if lis l k=true then 1 else 0
def C5 (l:List En) (m:Ms) (i:Nat):List En:=if i<=Ci l m.key then l.take i else l.take (Ci l m.key)++DG l m++(l.take i).drop (Ci l m.key+LM l m.key)
theorem bT (l:List En) (m:Ms):C5 l m 0=[]:=by unfold C5;rw[fO (gb _)];rfl
theorem YP (h:i<Ci l m.key) (he:l[i]?=some e):C5 l m i++[e]=C5 l m (i+1):=by
 unfold C5
 rw[fO (by omega),fO (by omega),jd,he];rfl
theorem WE:C5 l m (Ci l m.key)=l.take (Ci l m.key):=by unfold C5;rw[fO (ga _)]
theorem OX (hl:lis l m.key=true):C5 l m (Ci l m.key)++DG l m=C5 l m (Ci l m.key+1):=by
 rw[WE]
 unfold C5 LM
 rw[fR (by omega),fO hl,kB (by rw[fJ];omega),jc]
theorem OY (hl:lis l m.key=false) (he:l[Ci l m.key]?=some e):C5 l m (Ci l m.key)++DG l m++[e]=C5 l m (Ci l m.key+1):=by
 rw[WE]
 unfold C5 LM
 have hlt:=(gl.1 he).1
 rw[fR (by omega),fR (by rw[hl];decide),iM,jd,he]
 rw[jh (by rw[fJ];omega),kB (by rw[fJ];omega)]
 simp
theorem YQ (l:List En) (k:Kv 8):LM l k<=1:=by unfold LM;split<;>omega
theorem YR (h:Ci l m.key<i) (he:l[i]?=some e):C5 l m i++[e]=C5 l m (i+1):=by
 have hg:=YQ l m.key
 have hlt:=(gl.1 he).1
 unfold C5
 rw[fR (by omega),fR (by omega),jd,he,jh (by rw[fJ];omega)]
 simp[gK]
theorem WG (h:Ci l m.key<l.length):C5 l m l.length=Bu l m:=by
 unfold C5 Bu LM
 rw[fR (by omega),jH]
theorem LN (h:Ci l m.key=l.length):C5 l m l.length++DG l m=Bu l m:=by
 unfold C5 Bu
 rw[fO (by omega),h,kB (by omega),jc]
theorem WH (l:List En) (m:Ms) (i:Nat):(C5 l m i).length<=l.length+2:=by
 have h1:=Jk l m.key
 unfold C5
 split
 · rw[fJ];omega
 · unfold DG
   rw[fL,fL,fJ,fK,fJ]
   split<;>(try simp)<;>omega
theorem OZ (h:(D6 (AS l m.key).1 (AS l m.key).2 m).2=true):DG l m=[⟨m.key,(D6 (AS l m.key).1 (AS l m.key).2 m).1⟩]:=by unfold DG;rw[fO h]
theorem RQ (h:(D6 (AS l m.key).1 (AS l m.key).2 m).2=false):DG l m=[]:=by unfold DG;rw[fR (by rw[h];decide)]
theorem RR {m:Kv 8} (he:l[Ci l m]?=some e):lis l m=decide (e.key=m):=by unfold lis;rw[he]
theorem Ty (k:Kv 16):∃a b c d e f g h i j l m n o p q:Int,k.b=[a,b,c,d,e,f,g,h,i,j,l,m,n,o,p,q]:=by
 obtain⟨n,b,len,_,_⟩:=k
 match b,len with
 |[a,b,c,d,e,f,g,h,i,j,l,m,n,o,p,q],_=>exact⟨a,b,c,d,e,f,g,h,i,j,l,m,n,o,p,q,rfl⟩
theorem LO (key:Kv 8) (v:Kv 16) (w:World):(Instr.build 79 #[(0,.agg key.c.toArray),(1,.agg v.c.toArray)]).run prog w=.ok (.agg (⟨key,v⟩:En).c.toArray) w:=by
 obtain⟨a,b,c,d,e,f,g,h,hb⟩:=F3 key
 obtain⟨a1,a2,a3,a4,a5,a6,a7,a8,a9,b1,b2,b3,b4,b5,b6,b7,hv⟩:=Ty v
 unfold En.c Kv.c
 rw[hb,hv]
 kernel_rfl
theorem Tz {a b:List α} {x y:α} (h:a.take k=b.take k) (hx:a[k]?=some x) (hy:b[k]?=some y) (e:x=y):a.take (k+1)=b.take (k+1):=by
 subst e
 rw[jd,jd,hx,hy,h]
theorem Kz (l:List En) (k:Kv 8) (hs:B8 l) (hn:l.length<=1000):Con prog 68 [va,.agg k.c.toArray] (fun w=>RdV w va En.enc l) [] (fun _:Unit=>.tuple #[.agg (AS l k).1.c.toArray,.bool (AS l k).2]) (fun _=>True) (fun _=>[]):=by
 intro w hl hH
 refine E0 func68 I hH ?_
 refine Cs I (l_e I (AQ I I I I (fun bk=>Ce k.c I (l_e I (Au I I I zeroValue56 (fun br=>Ce (kv0 16).c I (Ak I (Ag (Cs I (Ak I (Al ?_)))))))))))
 refine Bc (fun (i:Nat)=>[(0,va),(3,ptV bk),(4,ptV br),(5,.bool false),(6,.int .i64 (i:Int))]) (fun (i:Nat)=>St w [] [Ad br 56 (kv0 16).c,Ad bk 77 k.c]) (fun (i:Nat)=>i<=l.length/\∀j e,j<i->l[j]?=some e->e.key≠k) (fun (i:Nat)=>l.length-i) (0) ⟨gb _,fun j e h=>absurd h (jy _)⟩ (Si I) Ih (fun i hp=>Ag (Ag ?_))
 obtain⟨hi,hno⟩:=hp
 refine Cr I (Lm I (Lm I (Lq I (AL I U49 I (fun _ h=>hl.keep h (by simp[dom]))) (Lq I (Ql I) (Nk ?_)))))
 refine CB 10 I (fun h1=>?_) (fun h1=>?_)
 · obtain⟨x,hx⟩:∃x,l[i]?=some x:=⟨_,fD (by omega)⟩
   refine Ai I (Ae (Ks (Al (Ag (Do8 (rg 7) 1458 _ I St.drawn Ih (Dm I (Dm I (Dq I (As i I U49 Z79 I (fun _ h=>hl.keep h (by simp[dom])) I I (by omega)) (Dfa U79 I Z77 I (Dq I (BQ (x.key.c) i 0 I G77 Z77 I I (fun _ h=>hl.keep h (by simp[dom])) hx (by decide) (En.fk _)) (Dq I (Cq (k.c) G77 Z77 1 I (AY _) (Kv.e6 _)) (d_t I (e_q I I (Q2 (x.key) (k) I I I) (AK (Kt ?_)))))))))))))))
   refine CB 19 I (fun h2=>?_) (fun h2=>?_)
   · have hf:=WC hs hx h2
     refine Ai I (Cs I (Lm I (Lm I (Lq I (As i I U49 Z79 I (fun _ h=>hl.keep h (by simp[dom])) I I (by omega)) (Lfa U79 I Z56 I (Lq I (BQ (x.val.c) i 9 I G56 Z56 I I (fun _ h=>hl.keep h (by simp[dom])) hx (by decide) (En.val_part _)) (l_e I (Ah I I Z56 I I (Kv.e6 _) (Kv.one _) (by simp only[Kv.e6];decide) (Ay (show Sep.splice _ 0 (x.val).c=(x.val).c from Sep.e7 (by simp only[Kv.e6])) (Ak I (Af (Am (Aa (Aa (Am (Aa (BI I (AJ I G56 Z56 (Hat 0 I) (Kv.e6 _)) (show Sep.look _ _=some _ from I) ?_)))))))))))))))))
     exact fun _ h=>⟨(),by rw[hf],trivial,h.e8⟩
   · refine Ab I (Ae (Aw (Kt (Cr I (Lm I (Lq I (Qi I (by omega)) (Las I (AB ?_))))))))
     exact AD (i+1) (by omega) ⟨by omega,fun j e hj he=>by
      rcases ke.1 hj with h3|rfl
      · exact hno j e h3 he
      · rw[hx] at he;cases he;exact h2⟩ (Si I) (fun _ h=>h)
 · have hf:AS l k=(kv0 16,false):=WD (fun e he=>by
    obtain⟨j,hj⟩:=List.getElem?_of_mem he
    exact hno j e (by have:=(gl.1 hj).1;omega) hj)
   refine Ab I (AO (Ac (Ac (Ar (Kt (Cs I (Lq I (AN ((kv0 16).c) I I (fun w=>by kernel_rfl)) (l_e I (Ah I I Z56 I I (Kv.e6 _) (Kv.one _) (by simp only[Kv.e6];decide) (Ay (show Sep.splice _ 0 ((kv0 16)).c=((kv0 16)).c from Sep.e7 (by simp only[Kv.e6])) (Ak I (Af (BI I (AJ I G56 Z56 (Hat 0 I) (Kv.e6 _)) (show Sep.look _ _=some _ from I) ?_)))))))))))))
   exact fun _ h=>⟨(),by rw[hf],trivial,h.e8⟩
theorem IE (l:List En) (m:Ms) (hs:B8 l) (hn:l.length<=1000) (hck:∀e∈l,kck e.key=true) (hkm:kck m.key=true) (hm:m.kind=1\/m.kind=2\/m.kind=3):Con prog 70 [va,.agg m.c.toArray] (fun w=>RdV w va En.enc l) [] (fun v:Value=>v) (fun _=>True) (fun v=>[Az v 79 En.enc (Bu l m)]):=by
 intro w hl hH
 have hrm:(rap (AS l m.key).1 (AS l m.key).2 m)=D6 (AS l m.key).1 (AS l m.key).2 m:=bS hm
 have hpl:=Jk l m.key
 have hnl:=WB l m
 refine E0 func70 I hH ?_
 refine Cs I (l_e I (AQ I I I I (fun bm=>Ce m.c I (Ak I (Cs I (Lm I (Lfa B7 I Z77 I (Lq I (Cq (m.key.c) G77 Z77 0 I (Ms.fk _) (Kv.e6 _)) (l_e I (E1 (Kz l m.key hs hn) I call68 (fun _ h=>hl.keep h (by simp)) (fun _ _=>Lm I (Lq I (Qx I) (Lq I (Qx I) (l_e I (Au I I I zeroValue56 (fun bo=>Ce (kv0 16).c I (l_e I (Ah I I Z56 I I (Kv.e6 _) (Kv.one _) (by simp only[Kv.e6];decide) (Ay (show Sep.splice _ 0 ((AS l m.key).1).c=((AS l m.key).1).c from Sep.e7 (by simp only[Kv.e6])) (Ak I (Cs I (Lq I (Cq ((AS l m.key).1.c) G56 Z56 0 I (AY _) (Kv.e6 _)) (Lm I (Lq I (Cq (m.c) Cm Bi 1 I (Bm _) (Ms.e6 _)) (l_e I (E1 (OW (AS l m.key).1 (AS l m.key).2 m) I call115 Tt (fun _ _=>Lm I (Lq I (Qx I) (Lq I (Qx I) (l_e I (Au I I I zeroValue56 ?_)))))))))))))))))))))))))))))))
 intro bv
 refine Ce (kv0 16).c I (l_e I (Ah I I Z56 I I (Kv.e6 _) (Kv.one _) (by simp only[Kv.e6];decide) (Ay (show Sep.splice _ 0 ((rap (AS l m.key).1 (AS l m.key).2 m).1).c=((rap (AS l m.key).1 (AS l m.key).2 m).1).c from Sep.e7 (by simp only[Kv.e6])) (Ak I (Cs I (Ak I (Cs I (Ak I (Ag (Cs I (Ak I (Al (row0 79 En.enc none ?_)))))))))))))
 refine CN (fun (i:Nat) (v:Value)=>[(0,va),(3,ptV bm),(7,ptV bv),(8,.bool (rap (AS l m.key).1 (AS l m.key).2 m).2),(9,v),(10,.bool (decide (Ci l m.key<i))),(11,.int .i64 (i:Int))]) (fun (i:Nat) (v:Value)=>St w [] [Az v 79 En.enc (C5 l m i),Ad bv 56 ((rap (AS l m.key).1 (AS l m.key).2 m)).1.c,Ad bo 56 ((AS l m.key).1).c,Ad bm 154 m.c]) (fun (i:Nat) (v:Value)=>i<=l.length) (fun (i:Nat) (v:Value)=>l.length-i) (0) (.slice none 0 0) (gb _) (Sn I (Sn I (Sn I (Sn I (Sn I (Sub.consE I (by rw[jo (jy _)]) (Si I))))))) (fun _ h=>by rw[bT];exact h) (fun i v hi=>Ag (Ag ?_))
 have hol:=WH l m i
 refine Cr I (Lm I (Lm I (Lq I (AL I U49 I (fun _ h=>hl.keep h (by simp[dom]))) (Lq I (Ql I) (Nk ?_)))))
 refine CB 30 I (fun h1=>?_) (fun h1=>?_)
 · obtain⟨x,hx⟩:∃x,l[i]?=some x:=⟨_,fD (by omega)⟩
   have hkx:=hck x (hY hx)
   refine Ai I (Ae (Ks (Al (Ag (Do8 (rg 9) 17496 _ I St.drawn Ih (Dm I (Dm I (Dq I (As i I U49 Z79 I (fun _ h=>hl.keep h (by simp[dom])) I I (by omega)) (Dfa U79 I Z77 I (Dq I (BQ (x.key.c) i 0 I G77 Z77 I I (fun _ h=>hl.keep h (by simp[dom])) hx (by decide) (En.fk _)) (Dfa B7 I Z77 I (Dq I (Cq (m.key.c) G77 Z77 3 I (Ms.fk _) (Kv.e6 _)) (d_t I (E1 (Qf x.key m.key hkx hkm) I call62 Tt (fun _ _=>d_t I (e_q I I (AE I I) (AK (Ks (Cs I (Lm I (Lq I (Qg I) (Lm I ?_))))))))))))))))))))))
   rcases (show i<Ci l m.key\/i=Ci l m.key\/Ci l m.key<i by omega) with h3|h3|h3
   · have hc:=Rc h3 hx
     refine Sb 43 false I (by first|exact jo (by omega)|(simp;omega)) (Lx I (Lx I (Lq I (Qz I) (Nk (Ab I (Ae (Kt (Cs I (Lm I (Lq I (Qn I) (Nk (Sb 56 true I (by first|exact jq (by omega)|(simp;omega)) (Ai I (Cr I (Lm I (Lm I (Lm I (Lq I (As i I U49 Z79 I (fun _ h=>hl.keep h (by simp[dom])) I I (by omega)) (Lq I (AU i I G79 Z79 I I (fun _ h=>hl.keep h (by simp[dom])) hx) (l_e I (Ax (sz:=26) [.tmp 61] I I I I I U49 Z79 I zeroValue79 (by first|(simp[Value.cells,En.e6];done)|(simp[Value.cells];exact En.e6 _)) (fun b2=>AM (l_e I (Ap U49 U49 CV I (fun _ h=>AW (h.at 1 I) En.enc [x] I I) (by simp only[fL,fv,jn];omega) (fun v2=>Bo (YP h3 hx) (AM (Av (Las I (AB (Aw (Kt (Cr I (Lm I (Lq I (Qi I (by omega)) (Las I (AB ?_))))))))))))))))))))))))))))))))))))
     exact AD ((i+1,v2)) (by dsimp only;omega) (by dsimp only;omega) (Sub.cons I (Sub.cons I (Sub.cons I (Sub.cons I (Sub.cons I (Sub.consE I (by first|rw[jo (by omega),jo (by omega)]|rw[jq (by omega),jq (by omega)]|rw[jq (by omega)]) (Si I))))))) (fun _ h=>h)
   · have hc:=Hz hs (show Ci l m.key<=i by omega) hx
     refine Sb 43 true I (by first|exact jq (by omega)|(simp;omega)) (Lm I (Lq I (Qt I) (Lq I (Qy I) (Nk (Sb 46 true I (by rw[jo (by omega)];rfl) (Ai I (Ag (Cs I (Lm I (Nk ?_))))))))))
     refine Pre.caseB 47 I (fun his=>?_) (fun his=>?_)
     · rw[hrm] at his
       refine Ai I (Cr I (Lm I (Lfa B7 I Z77 I (Lq I (Cq (m.key.c) G77 Z77 3 I (Ms.fk _) (Kv.e6 _)) (Lq I (Cq ((rap (AS l m.key).1 (AS l m.key).2 m).1.c) G56 Z56 1 I (AY _) (Kv.e6 _)) (Lq I (AN ((⟨m.key,(rap (AS l m.key).1 (AS l m.key).2 m).1⟩:En).c) I I (LO _ _)) (l_e I (Ax (sz:=26) [.tmp 52] I I I I I U49 Z79 I zeroValue79 (by first|(simp[Value.cells,En.e6];done)|(simp[Value.cells];exact En.e6 _)) (fun b3=>AM (l_e I (Ap U49 U49 CV I (fun _ h=>AW (h.at 1 I) En.enc [(⟨m.key,(rap (AS l m.key).1 (AS l m.key).2 m).1⟩:En)] I I) (by simp only[fL,fv,jn];omega) (fun v2=>Bo (show _=C5 l m i++DG l m from by rw[OZ his,hrm]) (AM (Av (Ak I (Cr I (Ak I (Cs I (Lm I (Lq I (Qn I) (Nk ?_)))))))))))))))))))))
       have hxl:=RR (m:=m.key) (h3▸hx)
       by_cases hz:BC x.key m.key=0
       · have hlis:lis l m.key=true:=by rw[hxl];exact jq (Ky hkx hkm hz)
         refine Sb 56 false I (by first|exact jo (by omega)|(simp;omega)) (Ab I (Ae (Aw (Kt (Cr I (Lm I (Lq I (Qi I (by omega)) (Las I (AB (Bo (show C5 l m i++DG l m=C5 l m (i+1) from by rw[h3];exact OX hlis) ?_))))))))))
         exact AD ((i+1,v2)) (by dsimp only;omega) (by dsimp only;omega) (Sub.cons I (Sub.cons I (Sub.cons I (Sub.cons I (Sub.cons I (Sub.consE I (by first|rw[jo (by omega),jo (by omega)]|rw[jq (by omega),jq (by omega)]|rw[jq (by omega)]) (Si I))))))) (fun _ h=>h)
       · have hlis:lis l m.key=false:=by rw[hxl];exact jo (fun e=>hz (by rw[e];exact ID _))
         refine Sb 56 true I (by first|exact jq (by omega)|(simp;omega)) (Ai I (Cr I (Lm I (Lm I (Lm I (Lq I (As i I U49 Z79 I (fun _ h=>hl.keep h (by simp[dom])) I I (by omega)) (Lq I (AU i I G79 Z79 I I (fun _ h=>hl.keep h (by simp[dom])) hx) (l_e I (Ax (sz:=26) [.tmp 61] I I I I I U49 Z79 I zeroValue79 (by first|(simp[Value.cells,En.e6];done)|(simp[Value.cells];exact En.e6 _)) (fun b4=>AM (l_e I (Ap U49 U49 CV I (fun _ h=>AW (h.at 1 I) En.enc [x] I I) (by simp only[fL,fv,jn];omega) (fun v3=>Bo (show C5 l m i++DG l m++[x]=C5 l m (i+1) from by rw[h3];exact OY hlis (h3▸hx)) (AM (Av (Las I (AB (Aw (Kt (Cr I (Lm I (Lq I (Qi I (by omega)) (Las I (AB ?_))))))))))))))))))))))))
         exact AD ((i+1,v3)) (by dsimp only;omega) (by dsimp only;omega) (Sub.cons I (Sub.cons I (Sub.cons I (Sub.cons I (Sub.cons I (Sub.consE I (by first|rw[jo (by omega),jo (by omega)]|rw[jq (by omega),jq (by omega)]|rw[jq (by omega)]) (Si I))))))) (fun _ h=>h)
     · rw[hrm] at his
       refine Ab I (Ae (Kt (Cr I (Ak I (Cs I (Lm I (Lq I (Qn I) (Nk (Bo (show C5 l m i=C5 l m i++DG l m from by rw[RQ his,jc]) ?_)))))))))
       have hxl:=RR (m:=m.key) (h3▸hx)
       by_cases hz:BC x.key m.key=0
       · have hlis:lis l m.key=true:=by rw[hxl];exact jq (Ky hkx hkm hz)
         refine Sb 56 false I (by first|exact jo (by omega)|(simp;omega)) (Ab I (Ae (Aw (Kt (Cr I (Lm I (Lq I (Qi I (by omega)) (Las I (AB (Bo (show C5 l m i++DG l m=C5 l m (i+1) from by rw[h3];exact OX hlis) ?_))))))))))
         exact AD ((i+1,v)) (by dsimp only;omega) (by dsimp only;omega) (Sub.cons I (Sub.cons I (Sub.cons I (Sub.cons I (Sub.cons I (Sub.consE I (by first|rw[jo (by omega),jo (by omega)]|rw[jq (by omega),jq (by omega)]|rw[jq (by omega)]) (Si I))))))) (fun _ h=>h)
       · have hlis:lis l m.key=false:=by rw[hxl];exact jo (fun e=>hz (by rw[e];exact ID _))
         refine Sb 56 true I (by first|exact jq (by omega)|(simp;omega)) (Ai I (Cr I (Lm I (Lm I (Lm I (Lq I (As i I U49 Z79 I (fun _ h=>hl.keep h (by simp[dom])) I I (by omega)) (Lq I (AU i I G79 Z79 I I (fun _ h=>hl.keep h (by simp[dom])) hx) (l_e I (Ax (sz:=26) [.tmp 61] I I I I I U49 Z79 I zeroValue79 (by first|(simp[Value.cells,En.e6];done)|(simp[Value.cells];exact En.e6 _)) (fun b5=>AM (l_e I (Ap U49 U49 CV I (fun _ h=>AW (h.at 1 I) En.enc [x] I I) (by simp only[fL,fv,jn];omega) (fun v3=>Bo (show C5 l m i++DG l m++[x]=C5 l m (i+1) from by rw[h3];exact OY hlis (h3▸hx)) (AM (Av (Las I (AB (Aw (Kt (Cr I (Lm I (Lq I (Qi I (by omega)) (Las I (AB ?_))))))))))))))))))))))))
         exact AD ((i+1,v3)) (by dsimp only;omega) (by dsimp only;omega) (Sub.cons I (Sub.cons I (Sub.cons I (Sub.cons I (Sub.cons I (Sub.consE I (by first|rw[jo (by omega),jo (by omega)]|rw[jq (by omega),jq (by omega)]|rw[jq (by omega)]) (Si I))))))) (fun _ h=>h)
   · have hc:=Hz hs (show Ci l m.key<=i by omega) hx
     have hc2:0<BC x.key m.key:=by
      obtain⟨d,hd⟩:∃d,l[Ci l m.key]?=some d:=⟨_,fD (by omega)⟩
      have h4:=Hz hs (ga _) hd
      have h5:=NY.1 hs _ _ d x h3 hd hx
      rcases Int.lt_trichotomy (BC x.key m.key) 0 with h6|h6|h6
      · exact absurd h6 hc
      · have h7:=Ky hkx hkm h6
        rw[h7] at h5;exact absurd h5 h4
      · exact h6
     refine Sb 43 true I (by first|exact jq (by omega)|(simp;omega)) (Lm I (Lq I (Qt I) (Lq I (Qy I) (Nk (Sb 46 false I (by rw[jq h3];rfl) (Ab I (Ae (Kt (Cs I (Lm I (Lq I (Qn I) (Nk (Sb 56 true I (by first|exact jq (by omega)|(simp;omega)) (Ai I (Cr I (Lm I (Lm I (Lm I (Lq I (As i I U49 Z79 I (fun _ h=>hl.keep h (by simp[dom])) I I (by omega)) (Lq I (AU i I G79 Z79 I I (fun _ h=>hl.keep h (by simp[dom])) hx) (l_e I (Ax (sz:=26) [.tmp 61] I I I I I U49 Z79 I zeroValue79 (by first|(simp[Value.cells,En.e6];done)|(simp[Value.cells];exact En.e6 _)) (fun b6=>AM (l_e I (Ap U49 U49 CV I (fun _ h=>AW (h.at 1 I) En.enc [x] I I) (by simp only[fL,fv,jn];omega) (fun v2=>Bo (YR h3 hx) (AM (Av (Las I (AB (Aw (Kt (Cr I (Lm I (Lq I (Qi I (by omega)) (Las I (AB ?_)))))))))))))))))))))))))))))))))))))
     exact AD ((i+1,v2)) (by dsimp only;omega) (by dsimp only;omega) (Sub.cons I (Sub.cons I (Sub.cons I (Sub.cons I (Sub.cons I (Sub.consE I (by first|rw[jo (by omega),jo (by omega)]|rw[jq (by omega),jq (by omega)]|rw[jq (by omega)]) (Si I))))))) (fun _ h=>h)
 · refine Ab I (AO (Ac (Ac (Ar (Ks (Cs I (Lm I (Lq I (Qt I) (Lm I ?_)))))))))
   have hie:i=l.length:=by omega
   subst hie
   by_cases hpe:Ci l m.key<l.length
   · refine Sb 66 false I (by rw[jq hpe];rfl) (Lx I (Lq I (Qz I) (Nk (Ab I (Ae (Kt (Cs I (Lm I (Ak I (Af (Bo (WG hpe) (Pm [1] I (Av (AM (Av (AM (Av (An I I ?_))))))))))))))))))
     exact fun _ h=>⟨v,rfl,trivial,h⟩
   · refine Sb 66 true I (by rw[jo hpe];rfl) (Lm I (Lq I (Qy I) (Nk ?_)))
     refine Pre.caseB 68 I (fun his=>?_) (fun his=>?_)
     · rw[hrm] at his
       refine Ai I (Cr I (Lm I (Lfa B7 I Z77 I (Lq I (Cq (m.key.c) G77 Z77 3 I (Ms.fk _) (Kv.e6 _)) (Lq I (Cq ((rap (AS l m.key).1 (AS l m.key).2 m).1.c) G56 Z56 1 I (AY _) (Kv.e6 _)) (Lq I (AN ((⟨m.key,(rap (AS l m.key).1 (AS l m.key).2 m).1⟩:En).c) I I (LO _ _)) (l_e I (Ax (sz:=26) [.tmp 73] I I I I I U49 Z79 I zeroValue79 (by first|(simp[Value.cells,En.e6];done)|(simp[Value.cells];exact En.e6 _)) (fun b7=>AM (l_e I (Ap U49 U49 CV I (fun _ h=>AW (h.at 1 I) En.enc [(⟨m.key,(rap (AS l m.key).1 (AS l m.key).2 m).1⟩:En)] I I) (by simp only[fL,fv,jn];omega) (fun v2=>Bo (show _=C5 l m l.length++DG l m from by rw[OZ his,hrm]) (AM (Av (Ak I (Cs I (Lm I (Ak I (Af (Bo (LN (by omega)) (Pm [1] I (Av (AM (Av (AM (Av (An I I ?_)))))))))))))))))))))))))))
       exact fun _ h=>⟨v2,rfl,trivial,h⟩
     · rw[hrm] at his
       refine Ab I (Ae (Kt (Cs I (Lm I (Ak I (Af (Bo (show C5 l m l.length=C5 l m l.length++DG l m from by rw[RQ his,jc]) (Bo (LN (by omega)) (Pm [1] I (Av (AM (Av (AM (Av (An I I ?_)))))))))))))))
       exact fun _ h=>⟨v,rfl,trivial,h⟩
theorem Qh {vb:Value} (la lb:List En) (hn:la.length<=1000):Con prog 23 [va,vb] (fun w=>RdV w va En.enc la/\RdV w vb En.enc lb) [] (fun _:Unit=>.bool (decide (la=lb))) (fun _=>True) (fun _=>[]):=by
 intro w hE hH
 obtain⟨ha,hb⟩:=hE
 refine E0 func23 I hH ?_
 refine Cs I (Ak I (Ag (Cs I (Lm I (Lq I (AL I U49 I (fun _ h=>ha.keep h (by simp[dom]))) (Lm I (Lq I (AL I U49 I (fun _ h=>hb.keep h (by simp[dom]))) (Lq I (Qn I) (Nk ?_)))))))))
 refine CB 10 I (fun hl=>?_) (fun hl=>?_)
 · refine Ai I (Cs I (Ak I (Af (Aa (An I I ?_)))))
   exact fun _ h=>⟨(),congrArg (fun z=>Ending.returned (Value.bool z)) (jo (fun e=>hl (by rw[e]))).symm,trivial,h⟩
 · refine Ab I (Ae (Ks (Cs I (Ak I (Al ?_)))))
   refine Bc (fun (i:Nat)=>[(0,va),(1,vb),(5,.int .i64 (i:Int))]) (fun (i:Nat)=>St w [] []) (fun (i:Nat)=>i<=la.length/\la.take i=lb.take i) (fun (i:Nat)=>la.length-i) (0) ⟨gb _,rfl⟩ (Si I) Ih (fun i hp=>Ag (Ag ?_))
   obtain⟨hi,ht⟩:=hp
   refine Cr I (Lm I (Lm I (Lq I (AL I U49 I (fun _ h=>ha.keep h (by simp[dom]))) (Lq I (Ql I) (Nk ?_)))))
   refine CB 14 I (fun h1=>?_) (fun h1=>?_)
   · obtain⟨x,hx⟩:∃x,la[i]?=some x:=⟨_,fD (by omega)⟩
     obtain⟨y,hy⟩:∃y,lb[i]?=some y:=⟨_,fD (by omega)⟩
     refine Ai I (Ae (Ks (Al (Ag (Dn (rg 9) 13122 _ I St.drawn Ih (Dm I (Dm I (Dq I (As i I U49 Z79 I (fun _ h=>ha.keep h (by simp[dom])) I I (by omega)) (Dq I (AU i I G79 Z79 I I (fun _ h=>ha.keep h (by simp[dom])) hx) (Dm I (Dm I (Dq I (As i I U49 Z79 I (fun _ h=>hb.keep h (by simp[dom])) I I (by omega)) (Dq I (AU i I G79 Z79 I I (fun _ h=>hb.keep h (by simp[dom])) hy) (d_t I (e_q I I (c5 (x) (y) I I I) (AK (Kt ?_)))))))))))))))))
     refine CB 25 I (fun hne=>?_) (fun hne=>?_)
     · refine Ai I (Cs I (Ak I (Af (Am (Aa (Aa (Am (Aa (An I I ?_)))))))))
       exact fun _ h=>⟨(),congrArg (fun z=>Ending.returned (Value.bool z)) (jo (fun e=>hne (by rw[e,hy] at hx;exact (Option.some.inj hx).symm))).symm,trivial,h⟩
     · refine Ab I (Ae (Aw (Kt (Cr I (Lm I (Lq I (Qi I (by omega)) (Las I (AB ?_))))))))
       exact AD (i+1) (by omega) ⟨by omega,Tz ht hx hy hne⟩ (Si I) (fun _ h=>h)
   · refine Ab I (AO (Ac (Ac (Ar (Kt (Cs I (Ak I (Af (An I I ?_)))))))))
     exact fun _ h=>⟨(),congrArg (fun z=>Ending.returned (Value.bool z)) (jq (by rw[fZ (by omega),fZ (by omega)] at ht;exact ht)).symm,trivial,h⟩
theorem Ans.v_part (a:Ans):(a.c.drop 2).take 17=a.v.c:=by
 unfold Ans.c;exact fZ (by simp[Kv.e6])
theorem TA (o:Opn):Con prog 64 [.agg o.c.toArray] (fun _=>True) [] (fun b:Bool=>.bool b) (fun _=>True) (fun _=>[]):=by
 intro w hE hH
 refine E0 func64 I hH ?_
 refine Cs I (l_e I (AQ I I I I (fun bo=>Ce o.c I (Ak I (Cs I (Lfa U43 I Z9 I (Lo G9 0 I (Lq I (Ep I U9 I) (Lq I (BS I I I) (Lm I ?_))))))))))
 refine CB 7 I (fun h1=>?_) (fun h1=>?_)
 · refine Lx I (Lx I (Lx I (Lx I (Lx I (Lx I (Lx I (Lx I (Lx I (Lq I (Qy I) (Ak I (Af (An I I ?_))))))))))))
   exact fun _ h=>⟨_,rfl,trivial,h.e8⟩
 · refine Lfa U43 I Z3 I (Lo G3 0 I (Lq I (Qe I) (Lm I ?_)))
   refine CB 11 I (fun h2=>?_) (fun h2=>?_)
   · refine Lfa U43 I Z9 I (Lo G9 0 I (Lq I (Ep I U9 I) (Lq I (BS I I I) (Lq I (Qy I) (Lq I (Qz I) (Ak I (Af (An I I ?_))))))))
     exact fun _ h=>⟨_,rfl,trivial,h.e8⟩
   · refine Lx I (Lx I (Lx I (Lx I (Lq I (Qz I) (Lq I (Qz I) (Ak I (Af (An I I ?_))))))))
     exact fun _ h=>⟨_,rfl,trivial,h.e8⟩
theorem Qj (o:Opn) (a:Ans):Con prog 114 [.agg o.c.toArray,.agg a.c.toArray] (fun _=>True) [] (fun b:Bool=>.bool b) (fun _=>True) (fun _=>[]):=by
 intro w hE hH
 refine E0 func114 I hH ?_
 refine Cs I (l_e I (AQ I I I I (fun bo=>Ce o.c I (l_e I (AQ I I I I (fun ba=>Ce a.c I (Ak I (Ag (Ag (Do8 (rg 16) 39858075 _ I St.drawn Ih (Dfa U43 I Z3 I (Dq I (Ao I G3 I (Hat 1 I) I) (Dq I (Ql I) (Dm I ?_))))))))))))))
 refine CB 8 I (fun h2=>?_) (fun h2=>?_)
 · refine Dx I (Dx I (Dx I (Dq I (Qy I) (Dm I (Dx I (Dx I (Dx I (Dx I (Dx I (Dx I (d_t I (e_q I I (Qy I) (AK (Kt (Ai I (Cs I (Ak I (Af (Aa (An I I ?_))))))))))))))))))))
   exact fun _ h=>⟨_,rfl,trivial,h.e8⟩
 · refine Dfa U43 I Z3 I (Dq I (Ao I G3 I (Hat 1 I) I) (Dq I (BS I I I) (Dq I (Qz I) (Dm I ?_))))
   refine CB 13 I (fun h3=>?_) (fun h3=>?_)
   · refine Dx I (Dx I (Dx I (Dx I (Dx I (Dx I (d_t I (e_q I I (Qy I) (AK (Kt (Ai I (Cs I (Ak I (Af (Aa (An I I ?_)))))))))))))))
     exact fun _ h=>⟨_,rfl,trivial,h.e8⟩
   · refine Dfa U58 I Z44 I (Dq I (Ao I G44 I (Hat 0 I) I) (Dq I (Qe I) (Dq I (Cq (o.c) G43 Z43 1 I (I) (I)) (d_e I (E1 (TA o) I call64 Tt (fun bl _=>Aj Ih (d_t I (e_q I I (cR I underlying4 I I) (d_t I (e_q I I (Qz I) (AK (Kt ?_))))))))))))
     refine CB 20 I (fun h4=>?_) (fun h4=>?_)
     · refine Ai I (Cs I (Ak I (Af (Aa (An I I ?_)))))
       exact fun _ h=>⟨_,rfl,trivial,h.e8⟩
     · refine Ab I (Ae (Ks (Cs I (Lfa U58 I Z44 I (Lo G44 0 I (Lq I (Qn I) (Lm I ?_)))))))
       refine CB 24 I (fun h5=>?_) (fun h5=>?_)
       · refine Lfa U58 I Z44 I (Lo G44 0 I (Lq I (Qn I) (Lq I (Qy I) (Lm I ?_))))
         refine CB 29 I (fun h6=>?_) (fun h6=>?_)
         · refine Lfa U58 I Z44 I (Lo G44 0 I (Lq I (Qn I) (Lm I ?_)))
           refine CB 33 I (fun h7=>?_) (fun h7=>?_)
           · refine Lx I (Lx I (Lx I (Lq I (Qy I) (Lq I (Qy I) (Nk (Ai I (Cs I (Ak I (Af (Aa (An I I ?_)))))))))))
             exact fun _ h=>⟨_,rfl,trivial,h.e8⟩
           · refine Lfa U43 I Z3 I (Lo G3 1 I (Lq I (Qe I) (Lq I (Qz I) (Lq I (Qy I) (Nk ?_)))))
             refine CB 38 I (fun h8=>?_) (fun h8=>?_)
             · refine Ai I (Cs I (Ak I (Af (Aa (An I I ?_)))))
               exact fun _ h=>⟨_,rfl,trivial,h.e8⟩
             · refine Ab I (Ae (Ks (Cs I (Lfa U58 I Z4 I (Lo G4 0 I (Lm I ?_))))))
               refine Pre.caseB 41 I (fun h9=>?_) (fun h9=>?_)
               · refine Lfa U43 I Z3 I (Lo G3 1 I (Lq I (Qn I) (Lm I ?_)))
                 refine CB 45 I (fun h10=>?_) (fun h10=>?_)
                 · refine Lx I (Lx I (Lx I (Lq I (Qy I) (Lq I (Qy I) (Nk (Ai I (Cs I (Ak I (Af (Aa (An I I ?_)))))))))))
                   exact fun _ h=>⟨_,rfl,trivial,h.e8⟩
                 · refine Lfa U58 I Z44 I (Lo G44 0 I (Lq I (Qn I) (Lq I (Qz I) (Lq I (Qy I) (Nk ?_)))))
                   refine CB 50 I (fun h11=>?_) (fun h11=>?_)
                   · refine Ai I (Cs I (Ak I (Af (Aa (An I I ?_)))))
                     exact fun _ h=>⟨_,rfl,trivial,h.e8⟩
                   · refine Ab I (Ae (Kt (Cs I (Lfa U58 I Z56 I (Lq I (Cq (a.v.c) G56 Z56 0 I (Ans.v_part _) (Kv.e6 _)) (l_e I (E1 (Dg a.v) I call61 Tt (fun _ _=>Lm I ?_))))))))
                     refine CB 54 I (fun h12=>?_) (fun h12=>?_)
                     · refine Lfa U58 I Z4 I (Lo G4 0 I (Lm I (Sb 57 true I (h9) (Lx I (Lx I (Lx I (Lx I (Lq I (Qy I) (Lq I (Qy I) (Ak I (Af (An I I ?_))))))))))))
                       exact fun _ h=>⟨_,rfl,trivial,h.e8⟩
                     · refine Lx I (Lx I (Lx I (Lx I (Lx I (Lx I (Lx I (Lx I (Lq I (Qz I) (Ak I (Af (An I I ?_)))))))))))
                       exact fun _ h=>⟨_,rfl,trivial,h.e8⟩
               · refine Lx I (Lx I (Lx I (Lx I (Lx I (Lx I (Lx I (Lx I (Lq I (Qz I) (Nk (Ab I (Ae (Kt (Cs I (Lfa U58 I Z56 I (Lq I (Cq (a.v.c) G56 Z56 0 I (Ans.v_part _) (Kv.e6 _)) (l_e I (E1 (Dg a.v) I call61 Tt (fun _ _=>Lm I ?_))))))))))))))))))
                 refine CB 54 I (fun h13=>?_) (fun h13=>?_)
                 · refine Lfa U58 I Z4 I (Lo G4 0 I (Lm I (Sb 57 false I (h9) (Lfa U58 I Z56 I (Lq I (Cq (a.v.c) G56 Z56 0 I (Ans.v_part _) (Kv.e6 _)) (Lq I (AN ((kv0 16).c) I I (fun w=>by kernel_rfl)) (Lq I (JO (a.v) ((kv0 16)) I I I) (Lq I (Qz I) (Lq I (Qy I) (Ak I (Af (An I I ?_))))))))))))
                   exact fun _ h=>⟨_,rfl,trivial,h.e8⟩
                 · refine Lx I (Lx I (Lx I (Lx I (Lx I (Lx I (Lx I (Lx I (Lq I (Qz I) (Ak I (Af (An I I ?_)))))))))))
                   exact fun _ h=>⟨_,rfl,trivial,h.e8⟩
         · refine Lx I (Lx I (Lx I (Lx I (Lx I (Lx I (Lx I (Lx I (Lq I (Qz I) (Nk (Ab I (Ae (Ks (Cs I (Lfa U58 I Z4 I (Lo G4 0 I (Lm I ?_))))))))))))))))
           refine Pre.caseB 41 I (fun h14=>?_) (fun h14=>?_)
           · refine Lfa U43 I Z3 I (Lo G3 1 I (Lq I (Qn I) (Lm I ?_)))
             refine CB 45 I (fun h15=>?_) (fun h15=>?_)
             · refine Lx I (Lx I (Lx I (Lq I (Qy I) (Lq I (Qy I) (Nk (Ai I (Cs I (Ak I (Af (Aa (An I I ?_)))))))))))
               exact fun _ h=>⟨_,rfl,trivial,h.e8⟩
             · refine Lfa U58 I Z44 I (Lo G44 0 I (Lq I (Qn I) (Lq I (Qz I) (Lq I (Qy I) (Nk ?_)))))
               refine CB 50 I (fun h16=>?_) (fun h16=>?_)
               · refine Ai I (Cs I (Ak I (Af (Aa (An I I ?_)))))
                 exact fun _ h=>⟨_,rfl,trivial,h.e8⟩
               · refine Ab I (Ae (Kt (Cs I (Lfa U58 I Z56 I (Lq I (Cq (a.v.c) G56 Z56 0 I (Ans.v_part _) (Kv.e6 _)) (l_e I (E1 (Dg a.v) I call61 Tt (fun _ _=>Lm I ?_))))))))
                 refine CB 54 I (fun h17=>?_) (fun h17=>?_)
                 · refine Lfa U58 I Z4 I (Lo G4 0 I (Lm I (Sb 57 true I (h14) (Lx I (Lx I (Lx I (Lx I (Lq I (Qy I) (Lq I (Qy I) (Ak I (Af (An I I ?_))))))))))))
                   exact fun _ h=>⟨_,rfl,trivial,h.e8⟩
                 · refine Lx I (Lx I (Lx I (Lx I (Lx I (Lx I (Lx I (Lx I (Lq I (Qz I) (Ak I (Af (An I I ?_)))))))))))
                   exact fun _ h=>⟨_,rfl,trivial,h.e8⟩
           · refine Lx I (Lx I (Lx I (Lx I (Lx I (Lx I (Lx I (Lx I (Lq I (Qz I) (Nk (Ab I (Ae (Kt (Cs I (Lfa U58 I Z56 I (Lq I (Cq (a.v.c) G56 Z56 0 I (Ans.v_part _) (Kv.e6 _)) (l_e I (E1 (Dg a.v) I call61 Tt (fun _ _=>Lm I ?_))))))))))))))))))
             refine CB 54 I (fun h18=>?_) (fun h18=>?_)
             · refine Lfa U58 I Z4 I (Lo G4 0 I (Lm I (Sb 57 false I (h14) (Lfa U58 I Z56 I (Lq I (Cq (a.v.c) G56 Z56 0 I (Ans.v_part _) (Kv.e6 _)) (Lq I (AN ((kv0 16).c) I I (fun w=>by kernel_rfl)) (Lq I (JO (a.v) ((kv0 16)) I I I) (Lq I (Qz I) (Lq I (Qy I) (Ak I (Af (An I I ?_))))))))))))
               exact fun _ h=>⟨_,rfl,trivial,h.e8⟩
             · refine Lx I (Lx I (Lx I (Lx I (Lx I (Lx I (Lx I (Lx I (Lq I (Qz I) (Ak I (Af (An I I ?_)))))))))))
               exact fun _ h=>⟨_,rfl,trivial,h.e8⟩
       · refine Lx I (Lx I (Lx I (Lq I (Qz I) (Lm I (Lx I (Lx I (Lx I (Lx I (Lx I (Lx I (Lx I (Lx I (Lq I (Qz I) (Nk (Ab I (Ae (Ks (Cs I (Lfa U58 I Z4 I (Lo G4 0 I (Lm I ?_)))))))))))))))))))))
         refine Pre.caseB 41 I (fun h19=>?_) (fun h19=>?_)
         · refine Lfa U43 I Z3 I (Lo G3 1 I (Lq I (Qn I) (Lm I ?_)))
           refine CB 45 I (fun h20=>?_) (fun h20=>?_)
           · refine Lx I (Lx I (Lx I (Lq I (Qy I) (Lq I (Qy I) (Nk (Ai I (Cs I (Ak I (Af (Aa (An I I ?_)))))))))))
             exact fun _ h=>⟨_,rfl,trivial,h.e8⟩
           · refine Lfa U58 I Z44 I (Lo G44 0 I (Lq I (Qn I) (Lq I (Qz I) (Lq I (Qy I) (Nk ?_)))))
             refine CB 50 I (fun h21=>?_) (fun h21=>?_)
             · refine Ai I (Cs I (Ak I (Af (Aa (An I I ?_)))))
               exact fun _ h=>⟨_,rfl,trivial,h.e8⟩
             · refine Ab I (Ae (Kt (Cs I (Lfa U58 I Z56 I (Lq I (Cq (a.v.c) G56 Z56 0 I (Ans.v_part _) (Kv.e6 _)) (l_e I (E1 (Dg a.v) I call61 Tt (fun _ _=>Lm I ?_))))))))
               refine CB 54 I (fun h22=>?_) (fun h22=>?_)
               · refine Lfa U58 I Z4 I (Lo G4 0 I (Lm I (Sb 57 true I (h19) (Lx I (Lx I (Lx I (Lx I (Lq I (Qy I) (Lq I (Qy I) (Ak I (Af (An I I ?_))))))))))))
                 exact fun _ h=>⟨_,rfl,trivial,h.e8⟩
               · refine Lx I (Lx I (Lx I (Lx I (Lx I (Lx I (Lx I (Lx I (Lq I (Qz I) (Ak I (Af (An I I ?_)))))))))))
                 exact fun _ h=>⟨_,rfl,trivial,h.e8⟩
         · refine Lx I (Lx I (Lx I (Lx I (Lx I (Lx I (Lx I (Lx I (Lq I (Qz I) (Nk (Ab I (Ae (Kt (Cs I (Lfa U58 I Z56 I (Lq I (Cq (a.v.c) G56 Z56 0 I (Ans.v_part _) (Kv.e6 _)) (l_e I (E1 (Dg a.v) I call61 Tt (fun _ _=>Lm I ?_))))))))))))))))))
           refine CB 54 I (fun h23=>?_) (fun h23=>?_)
           · refine Lfa U58 I Z4 I (Lo G4 0 I (Lm I (Sb 57 false I (h19) (Lfa U58 I Z56 I (Lq I (Cq (a.v.c) G56 Z56 0 I (Ans.v_part _) (Kv.e6 _)) (Lq I (AN ((kv0 16).c) I I (fun w=>by kernel_rfl)) (Lq I (JO (a.v) ((kv0 16)) I I I) (Lq I (Qz I) (Lq I (Qy I) (Ak I (Af (An I I ?_))))))))))))
             exact fun _ h=>⟨_,rfl,trivial,h.e8⟩
           · refine Lx I (Lx I (Lx I (Lx I (Lx I (Lx I (Lx I (Lx I (Lq I (Qz I) (Ak I (Af (An I I ?_)))))))))))
             exact fun _ h=>⟨_,rfl,trivial,h.e8⟩
structure Ca where
 client:Int
 index:Int
 op:Opn
 from':Int
 to':Int
 a:Ans
namespace Ca
def c (e:Ca):List Value:=[.int .i64 e.client,.int .i64 e.index]++(e.op.c++([.int .i64 e.from',.int .i64 e.to']++e.a.c))
theorem e6 (e:Ca):e.c.length=27:=by simp[c,Ans.e6,Opn.c]
theorem one (e:Ca):∀v∈e.c,v.oneCell'=true:=by
 intro v hv
 rcases ib.1 hv with hv|hv
 · simp only[fq,iH,iI] at hv
   rcases hv with rfl|rfl<;>rfl
 rcases ib.1 hv with hv|hv
 · exact Opn.one _ _ hv
 rcases ib.1 hv with hv|hv
 · simp only[fq,iH,iI] at hv
   rcases hv with rfl|rfl<;>rfl
 · exact Ans.one _ _ hv
theorem a_part (e:Ca):(e.c.drop 8).take 19=e.a.c:=by
 show (e.a.c).take 19=_
 exact fZ (by rw[Ans.e6];exact ga _)
def enc:Enc Ca:={sz:=27,f:=Ca.c,len:=e6,pos:=by decide,one:=one}
end Ca
def bef (a b:Ca):Bool:=decide (0<=a.to')&&decide (a.to'<b.from')
theorem TB (a b:Ca):Con prog 30 [.agg a.c.toArray,.agg b.c.toArray] (fun _=>True) [] (fun _:Unit=>.bool (bef a b)) (fun _=>True) (fun _=>[]):=by
 intro w hE hH
 refine E0 func30 I hH ?_
 refine Cs I (l_e I (AQ I I I I (fun ba=>Ce a.c I (l_e I (AQ I I I I (fun bb=>Ce b.c I (Ak I (Cs I (Lfa U60 I Z3 I (Lo G3 1 I (Lq I (Qg I) (Lm I ?_))))))))))))
 refine CB 8 I (fun h1=>?_) (fun h1=>?_)
 · refine Lfa U60 I Z3 I (Lo G3 1 I (Lfa U60 I Z3 I (Lo G3 0 I (Lq I (Ql I) (Lq I (Qy I) (Ak I (Af (An I I ?_))))))))
   exact fun _ h=>⟨(),congrArg (fun z=>Ending.returned (Value.bool z)) (by simp[bef,h1]),trivial,h.e8⟩
 · refine Lx I (Lx I (Lx I (Lx I (Lx I (Lq I (Qz I) (Ak I (Af (An I I ?_))))))))
   exact fun _ h=>⟨(),congrArg (fun z=>Ending.returned (Value.bool z)) (by simp[bef];omega),trivial,h.e8⟩
def Ans.ks:List Sc:=[Sc.i .i64,Sc.b]++Kv.ks 16
theorem Ans.kinds {a:Ans} (h:(Lit.int .i64 a.code).wf=true):Kinds Ans.ks a.c:=by
 refine EH ⟨rfl,fun j k v h1 h2=>?_⟩ (Kv.kinds a.v)
 match j with
 |0=>cases h1;cases h2;exact⟨_,rfl,h⟩
 |1=>cases h1;cases h2;exact⟨_,rfl⟩
 |j+2=>simp at h1
theorem Ans.c_inj {a b:Ans}:a.c=b.c↔(a.code=b.code/\a.f=b.f/\a.v=b.v):=by
 constructor
 · intro h
   simp only[Ans.c,fu,gO,List.cons.injEq,Value.int.injEq,Value.bool.injEq,true_and] at h
   exact⟨h.1,h.2.1,Kv.c_inj.1 h.2.2⟩
 · rintro⟨h1,h2,h3⟩
   unfold Ans.c;rw[h1,h2,h3]
section
variable {n:Nat} {L:Env} {X:World->Prop} {o:Oper}
theorem bU {u:TypeId} {x y:Operand} (a:Ans) (ha:(Lit.int .i64 a.code).wf=true) (ho:o.op=.binOp .neq 58 x y u) (hx:ev L x=some (.agg a.c.toArray)) (hy:ev L y=some (.agg Bx.c.toArray)):QOp prog n L X o (.bool (!decide (a.code=Bx.code/\a.f=Bx.f/\a.v=Bx.v))) :=
 Mh (d:=4) (ks:=Ans.ks) _ (by kernel_rfl) (by kernel_rfl) (by decide) (by kernel_rfl) (by kernel_rfl) (by kernel_rfl) ho hx hy (Ans.kinds ha) (Ans.kinds (by decide)) (by rw[Ans.c_inj,ia])
end
theorem WI {n i:Nat}:∀x∈List.replicate n (0:Int),0<=x/\x<=(i:Int):=fun x hx=>by rw[(ic.1 hx).2];omega
theorem WJ {l:List Int} {i c:Nat} (h:∀x∈l,0<=x/\x<=(i:Int)) (hk:k<=i):∀x∈l.set c ((k+1:Nat):Int),0<=x/\x<=((i+1:Nat):Int):=fun x hx=>by
 rcases jW hx with h1|h1
 · have:=h x h1;omega
 · omega
theorem Zv {l:List Int} {i:Nat} (h:∀x∈l,0<=x/\x<=(i:Int)):∀x∈l,0<=x/\x<=((i+1:Nat):Int):=fun x hx=>by have:=h x hx;omega
theorem Evt.a_part (e:Evt):(e.c.drop 3).take 19=e.a.c:=by
 unfold Evt.c;exact fZ (by simp[Ans.e6])
theorem WK {l:List Int} {i c:Nat} (h:∀x∈l,0<=x/\x<=(i:Int)) (hc:c<l.length):∃k:Nat,l[c]?=some (k:Int)/\k<=i:=by
 have hx:=h _ (fH hc)
 exact⟨(l[c]).toNat,by rw[fD hc];congr 1;omega,by omega⟩
theorem TC {vo:Value} (l:List Evt) (vs:List Sv) (ops:List (List Opn)) (hn:l.length<=65536) (hk:ops.length<=65536) (hm:∀o∈ops,o.length<=65536) (hW:∀x∈l,(Lit.int .i64 x.a.code).wf=true):Con prog 66 [va,vo] (fun w=>RdV w va Evt.enc l/\RRo w vo vs ops) [] (fun b:Bool=>.bool b) (fun _=>True) (fun _=>[]):=by
 intro w hE hH
 obtain⟨hl,hO⟩:=hE
 have hvl:=hO.len
 refine E0 func66 I hH ?_
 refine Cs I (Ak I (Cs I (Lm I (Lq I (AL I U25 I (fun _ h=>hO.o.keep h (by simp[dom]))) (l_e I (BN (AG .i64) 0 vs.length I I I U22 Ez I I I I I I I (by simp only[ZH];omega) (by omega) (fun vb=>Ak I (Cs I (Lm I (Lq I (AL I U25 I (fun _ h=>hO.o.keep h (by simp[dom]))) (l_e I (BN (AG .i64) 0 vs.length I I I U22 Ez I I I I I I I (by simp only[ZH];omega) (by omega) (fun vd=>Ak I (Ag (Cs I (Ak I (Al (AM ?_))))))))))))))))))
 refine E3 (fun (i:Nat) (lb:List Int) (ld:List Int)=>[(0,va),(1,vo),(5,vb),(6,vd),(7,.int .i64 (i:Int))]) (fun (i:Nat) (lb:List Int) (ld:List Int)=>St w [] [Az vb 3 (AG .i64) lb,Az vd 3 (AG .i64) ld]) (fun (i:Nat) (lb:List Int) (ld:List Int)=>i<=l.length/\lb.length=vs.length/\ld.length=vs.length/\(∀x∈lb,0<=x/\x<=(i:Int))/\(∀x∈ld,0<=x/\x<=(i:Int))) (fun (i:Nat) (lb:List Int) (ld:List Int)=>l.length-i) (0) (List.replicate vs.length 0) (List.replicate vs.length 0) ⟨gb _,jB ..,jB ..,WI,WI⟩ (Si I) Ih (fun i lb ld hp=>Ag (Ag ?_))
 obtain⟨hi,hbl,hdl,hbb,hdb⟩:=hp
 refine Cr I (Lm I (Lm I (Lq I (AL I U34 I (fun _ h=>hl.keep h (by simp[dom]))) (Lq I (Ql I) (Nk ?_)))))
 refine CB 20 I (fun h1=>?_) (fun h1=>?_)
 · obtain⟨x,hx⟩:∃x,l[i]?=some x:=⟨_,fD (by omega)⟩
   have hxw:=hW x (hY hx)
   refine Ai I (Ae (Ks (Al (Cs I (Lm I (Lm I (Lq I (As i I U34 Z71 I (fun _ h=>hl.keep h (by simp[dom])) I I (by omega)) (Lfa U71 I Z3 I (Lq I (AI i 0 I G3 I I (fun _ h=>hl.keep h (by simp[dom])) hx I) (Ak I (Ag (Cs I (Lm I (Lq I (Ql I) (Lm I ?_)))))))))))))))
   refine CB 30 I (fun h2=>?_) (fun h2=>?_)
   · refine Lx I (Lx I (Lx I (Lx I (Lq I (Qy I) (Nk (Ai I (Cs I (Ak I (Af (Aa (Am (Aa (Aa (Am (Aa (An I I ?_))))))))))))))))
     exact fun _ h=>⟨_,rfl,trivial,h.e8⟩
   · refine Lm I (Lm I (Lq I (AL I U25 I (fun _ h=>hO.o.keep h (by simp[dom]))) (Lq I (Qg I) (Lq I (Qz I) (Nk ?_)))))
     refine CB 35 I (fun h3=>?_) (fun h3=>?_)
     · refine Ai I (Cs I (Ak I (Af (Aa (Am (Aa (Aa (Am (Aa (An I I ?_))))))))))
       exact fun _ h=>⟨_,rfl,trivial,h.e8⟩
     · obtain⟨c,hc⟩:∃c:Nat,x.cl=(c:Int):=⟨x.cl.toNat,by omega⟩
       obtain⟨s,hs⟩:∃s,vs[c]?=some s:=⟨_,fD (by omega)⟩
       obtain⟨lo,hlo⟩:∃o,ops[c]?=some o:=⟨_,fD (by omega)⟩
       have hrd:=hO.i c s lo hs hlo
       have hlm:=hm lo (hY hlo)
       obtain⟨kb,hkb,hkbi⟩:=WK (c:=c) hbb (by omega)
       obtain⟨kd,hkd,hkdi⟩:=WK (c:=c) hdb (by omega)
       refine Sv' 8 (.int .i64 (c:Int)) I (by rw[hc]) (Ab I (Ae (Kt (Cs I (Lm I (Lm I (Lq I (As c I U22 Z3 I (Hrd 0 I) I I (by omega)) (Lq I (AI c 0 I G3 I I (Hrd 0 I) hkb I) (Ak I (Ag (Cs I (Lm I (Lm I (Lq I (As i I U34 Z71 I (fun _ h=>hl.keep h (by simp[dom])) I I (by omega)) (Lfa U71 I Z4 I (Lq I (AI i 2 I G4 I I (fun _ h=>hl.keep h (by simp[dom])) hx I) (Nk ?_)))))))))))))))))
       refine Pre.caseB 44 I (fun hd=>?_) (fun hd=>?_)
       · refine Ai I (Cr I (Lm I (Lm I (Lq I (As c I U22 Z3 I (Hrd 1 I) I I (by omega)) (Lq I (AI c 0 I G3 I I (Hrd 1 I) hkd I) (Ak I (Ag (Cs I (Lm I (Lm I (Lq I (As i I U34 Z71 I (fun _ h=>hl.keep h (by simp[dom])) I I (by omega)) (Lfa U71 I Z3 I (Lq I (AI i 1 I G3 I I (fun _ h=>hl.keep h (by simp[dom])) hx I) (Lm I (Lq I (Qn I) (Lm I ?_))))))))))))))))
         refine CB 56 I (fun h5=>?_) (fun h5=>?_)
         · refine Lx I (Lx I (Lx I (Lx I (Lx I (Lx I (Lx I (Lq I (Qy I) (Nk (Ai I (Cs I (Ak I (Af (Aa (Am (Aa (Aa (Am (Aa (An I I ?_)))))))))))))))))))
           exact fun _ h=>⟨_,rfl,trivial,h.e8⟩
         · refine Lm I (Lm I (Lm I (Lq I (As c I U25 Z40 I (fun _ h=>hO.o.keep h (by simp[dom])) I I (by omega)) (Lq I (AI c 0 I G40 I I (fun _ h=>hO.o.keep h (by simp[dom])) hs I) (Lq I (AL I U40 I (fun _ h=>hrd.keep h (by simp[dom]))) (Lq I (Qg I) (Lq I (Qz I) (Nk ?_))))))))
           refine CB 64 I (fun h6=>?_) (fun h6=>?_)
           · refine Ai I (Cs I (Ak I (Af (Aa (Am (Aa (Aa (Am (Aa (An I I ?_))))))))))
             exact fun _ h=>⟨_,rfl,trivial,h.e8⟩
           · obtain⟨o,ho⟩:∃o,lo[kd]?=some o:=⟨_,fD (by omega)⟩
             refine Ab I (Ae (Kt (Cs I (Lm I (Lm I (Lq I (As c I U25 Z40 I (fun _ h=>hO.o.keep h (by simp[dom])) I I (by omega)) (Lq I (AI c 0 I G40 I I (fun _ h=>hO.o.keep h (by simp[dom])) hs I) (Lm I (Lq I (As kd I U40 Z43 I (fun _ h=>hrd.keep h (by simp[dom])) I I (by omega)) (Lq I (AU kd I G43 Z43 I I (fun _ h=>hrd.keep h (by simp[dom])) ho) (l_e I (Au I I I zeroValue43 (fun bo=>l_e I (Ah I I Z43 I I I (Opn.one _) (by show 0+4<=4;decide) (Ay (show Sep.splice _ 0 o.c=o.c from Sep.e7 I) (Ns (Cs I (Lm I (Lm I (Lq I (As i I U34 Z71 I (fun _ h=>hl.keep h (by simp[dom])) I I (by omega)) (Lfa U71 I Z4 I (Lq I (AI i 2 I G4 I I (fun _ h=>hl.keep h (by simp[dom])) hx I) (Nk (Sb 76 true I (hd) (Ai I (Ag (Ag (Do8 (rg 19) 1119214746 _ I St.drawn Ih (Dm I (Dm I (Dq I (As c I U22 Z3 I (Hrd 2 I) I I (by omega)) (Dq I (AI c 0 I G3 I I (Hrd 2 I) hkd I) (Dm I (Dm I (Dq I (As c I U22 Z3 I (Hrd 1 I) I I (by omega)) (Dq I (AI c 0 I G3 I I (Hrd 1 I) hkb I) ?_))))))))))))))))))))))))))))))))))))
             refine Dq I (Qg I) (Dm I ?_)
             refine CB 86 I (fun h7=>?_) (fun h7=>?_)
             · refine Dx I (Dx I (Dx I (Dx I (Dx I (Dx I (Dx I (Dx I (d_t I (e_q I I (Qy I) (AK (Kt (Ai I (Cs I (Ak I (Af (Aa (Aa (Am (Aa (Aa (Am (Aa (An I I ?_)))))))))))))))))))))))
               exact fun _ h=>⟨_,rfl,trivial,h.e8⟩
             · refine Dq I (Cq (o.c) G43 Z43 0 I (I) (I)) (Dm I (Dm I (Dq I (As i I U34 Z71 I (fun _ h=>hl.keep h (by simp[dom])) I I (by omega)) (Dfa U71 I Z58 I (Dq I (Ej i 3 I G58 Z58 I I (fun _ h=>hl.keep h (by simp[dom])) hx (by decide)) (Sv' 92 (.agg x.a.c.toArray) I (by show Value.agg (((Evt.c x).drop 3).take 19).toArray=_;rw[Evt.a_part]) (d_t I (E1 (Qj o x.a) I call114 Tt (fun ba _=>d_t I (e_q I I (Qt I) (d_t I (e_q I I (Qz I) (AK (Kt ?_))))))))))))))
               refine CB 95 I (fun h8=>?_) (fun h8=>?_)
               · refine Ai I (Cs I (Ak I (Af (Aa (Aa (Am (Aa (Aa (Am (Aa (An I I ?_)))))))))))
                 exact fun _ h=>⟨_,rfl,trivial,h.e8⟩
               · refine Ab I (Ae (Kt (Cs I (Lm I (Lm I (Lq I (As c I U22 Z3 I (Hrd 2 I) I I (by omega)) (Lq I (AI c 0 I G3 I I (Hrd 2 I) hkd I) (Lq I (Qi I (by omega)) (Lq I (As c I U22 Z3 I (Hrd 2 I) I I (by omega)) (AV (l_e I ?_)))))))))))
                 refine CE c 0 (((kd+1:Nat):Int)) I I Z3 I I I (fD (by omega)) (by decide) I ?_
                 refine Nk (AO (Ac (Ar (Kt (Cr I (Lm I (Lq I (Qi I (by omega)) (Las I (AB (AM (Av (AM ?_))))))))))))
                 exact AD ((i+1,lb,ld.set c ((kd+1:Nat):Int))) (by dsimp only;omega) ⟨by dsimp only;omega,hbl,(by rw[je];exact hdl),Zv hbb,WJ hdb hkdi⟩ (Si I) (fun _ h=>h)
       · refine Ab I (Ae (Ks (Cs I (Lm I (Lm I (Lq I (As i I U34 Z71 I (fun _ h=>hl.keep h (by simp[dom])) I I (by omega)) (Lfa U71 I Z3 I (Lq I (AI i 1 I G3 I I (fun _ h=>hl.keep h (by simp[dom])) hx I) (Lm I (Lq I (Qn I) (Lm I ?_)))))))))))
         refine CB 56 I (fun h5=>?_) (fun h5=>?_)
         · refine Lx I (Lx I (Lx I (Lx I (Lx I (Lx I (Lx I (Lq I (Qy I) (Nk (Ai I (Cs I (Ak I (Af (Aa (Am (Aa (Aa (Am (Aa (An I I ?_)))))))))))))))))))
           exact fun _ h=>⟨_,rfl,trivial,h.e8⟩
         · refine Lm I (Lm I (Lm I (Lq I (As c I U25 Z40 I (fun _ h=>hO.o.keep h (by simp[dom])) I I (by omega)) (Lq I (AI c 0 I G40 I I (fun _ h=>hO.o.keep h (by simp[dom])) hs I) (Lq I (AL I U40 I (fun _ h=>hrd.keep h (by simp[dom]))) (Lq I (Qg I) (Lq I (Qz I) (Nk ?_))))))))
           refine CB 64 I (fun h6=>?_) (fun h6=>?_)
           · refine Ai I (Cs I (Ak I (Af (Aa (Am (Aa (Aa (Am (Aa (An I I ?_))))))))))
             exact fun _ h=>⟨_,rfl,trivial,h.e8⟩
           · obtain⟨o,ho⟩:∃o,lo[kb]?=some o:=⟨_,fD (by omega)⟩
             refine Ab I (Ae (Kt (Cs I (Lm I (Lm I (Lq I (As c I U25 Z40 I (fun _ h=>hO.o.keep h (by simp[dom])) I I (by omega)) (Lq I (AI c 0 I G40 I I (fun _ h=>hO.o.keep h (by simp[dom])) hs I) (Lm I (Lq I (As kb I U40 Z43 I (fun _ h=>hrd.keep h (by simp[dom])) I I (by omega)) (Lq I (AU kb I G43 Z43 I I (fun _ h=>hrd.keep h (by simp[dom])) ho) (l_e I (Au I I I zeroValue43 (fun bo=>l_e I (Ah I I Z43 I I I (Opn.one _) (by show 0+4<=4;decide) (Ay (show Sep.splice _ 0 o.c=o.c from Sep.e7 I) (Ns (Cs I (Lm I (Lm I (Lq I (As i I U34 Z71 I (fun _ h=>hl.keep h (by simp[dom])) I I (by omega)) (Lfa U71 I Z4 I (Lq I (AI i 2 I G4 I I (fun _ h=>hl.keep h (by simp[dom])) hx I) (Nk (Sb 76 false I (hd) (Ab I (Ae (Ks (Ag (Do8 (rg 28) 22876749408240 _ I St.drawn Ih (Dm I (Dm I (Dq I (As c I U22 Z3 I (Hrd 2 I) I I (by omega)) (Dq I (AI c 0 I G3 I I (Hrd 2 I) hkd I) (Dm I (Dm I (Dq I (As c I U22 Z3 I (Hrd 1 I) I I (by omega)) ?_))))))))))))))))))))))))))))))))))))
             refine Dq I (AI c 0 I G3 I I (Hrd 1 I) hkb I) (Dq I (Qn I) (Dm I ?_))
             refine CB 111 I (fun h7=>?_) (fun h7=>?_)
             · refine Dx I (Dx I (Dx I (Dx I (Dx I (Dx I (Dx I (d_t I (e_q I I (Qy I) (d_t I (e_q I I (A0 I I) (Dx I (Dx I (Dx I (d_t I (e_q I I (Qy I) (d_t I (e_q I I (A0 I I) (Dx I (Dx I (Dx I (d_t I (e_q I I (Qy I) (AK ?_)))))))))))))))))))))))
               refine Kt (Ai I (Cs I (Ak I (Af (Aa (Am (Aa (Aa (Am (Aa (An I I ?_)))))))))))
               exact fun _ h=>⟨_,rfl,trivial,h.e8⟩
             · refine Dm I (Dm I (Dq I (As i I U34 Z71 I (fun _ h=>hl.keep h (by simp[dom])) I I (by omega)) (Dfa U71 I Z58 I (Dq I (Ej i 3 I G58 Z58 I I (fun _ h=>hl.keep h (by simp[dom])) hx (by decide)) (Dq I (AN (Bx.c) I I (fun w=>by kernel_rfl)) (Sv' 116 (.agg x.a.c.toArray) I (by show Value.agg (((Evt.c x).drop 3).take 19).toArray=_;rw[Evt.a_part]) (d_t I (e_q I I (bU x.a hxw I I I) (d_t I (e_q I I (Qz I) (d_t I (e_q I I (A0 I I) ?_))))))))))))
               refine Pre.caseB 120 I (fun h8=>?_) (fun h8=>?_)
               · refine Dx I (Dx I (Dx I (d_t I (e_q I I (Qy I) (d_t I (e_q I I (A0 I I) (Dx I (Dx I (Dx I (d_t I (e_q I I (Qy I) (AK (Kt (Ai I (Cs I (Ak I (Af (Aa (Am (Aa (Aa (Am (Aa ?_)))))))))))))))))))))))
                 refine An I I ?_
                 exact fun _ h=>⟨_,rfl,trivial,h.e8⟩
               · refine d_t I (e_q I I (Ba I U43 I Z3 I I) (d_t I (e_q I I (Ao I G3 I (Hat 0 I) I) (d_t I (e_q I I (Ql I) (d_t I (e_q I I (Qz I) (d_t I (e_q I I (A0 I I) ?_)))))))))
                 refine CB 125 I (fun h9=>?_) (fun h9=>?_)
                 · refine Dx I (Dx I (Dx I (d_t I (e_q I I (Qy I) (AK (Kt (Ai I (Cs I (Ak I (Af (Aa (Am (Aa (Aa (Am (Aa (An I I ?_)))))))))))))))))
                   exact fun _ h=>⟨_,rfl,trivial,h.e8⟩
                 · refine d_t I (e_q I I (Ba I U43 I Z3 I I) (d_t I (e_q I I (Ao I G3 I (Hat 0 I) I) (d_t I (e_q I I (BS I I I) (d_t I (e_q I I (Qz I) (AK (Kt ?_)))))))))
                   refine CB 129 I (fun h10=>?_) (fun h10=>?_)
                   · refine Ai I (Cs I (Ak I (Af (Aa (Am (Aa (Aa (Am (Aa (An I I ?_))))))))))
                     exact fun _ h=>⟨_,rfl,trivial,h.e8⟩
                   · refine Ab I (Ae (Kt (Cr I (Lm I (Lm I (Lq I (As c I U22 Z3 I (Hrd 1 I) I I (by omega)) (Lq I (AI c 0 I G3 I I (Hrd 1 I) hkb I) (Lq I (Qi I (by omega)) (Lq I (As c I U22 Z3 I (Hrd 1 I) I I (by omega)) (AM (l_e I ?_)))))))))))
                     refine CE c 0 (((kb+1:Nat):Int)) I I Z3 I I I (fD (by omega)) (by decide) I ?_
                     refine AB (Aw (Kt (Cr I (Lm I (Lq I (Qi I (by omega)) (Las I (AB (AM (Av ?_)))))))))
                     exact AD ((i+1,lb.set c ((kb+1:Nat):Int),ld)) (by dsimp only;omega) ⟨by dsimp only;omega,(by rw[je];exact hbl),hdl,WJ hbb hkbi,Zv hdb⟩ (Si I) (fun _ h=>h)
 · refine Ab I (AO (Ac (Ac (Ar (Kt (Cs I (Ak I (Af (An I I ?_)))))))))
   exact fun _ h=>⟨_,rfl,trivial,h.e8⟩
end Go.Proofs.YtloldofjddbjoaaGreat
namespace Go.Proofs.YtloldofjddbjoaaGreat
open Go.Sep Go.RowKit Tryz
def dS (ops:List (List Opn)) (e:Evt):Opn:=(ops.getD e.cl.toNat []).getD e.ix.toNat ⟨0,⟨#[]⟩,⟨#[]⟩,0,by decide,by decide⟩
def KX (ops:List (List Opn)) (i:Nat) (e:Evt):Ca:=⟨e.cl,e.ix,dS ops e,i,-1,Bx⟩
def toC (c:Ca) (i:Nat):Ca:={c with to':=(i:Int)}
def DO (i:Nat) (e:Evt) (c:Ca):Ca:=if c.client=e.cl/\c.index=e.ix then {toC c i with a:=e.a} else c
def LP (ops:List (List Opn)) (l:List Ca) (i:Nat) (e:Evt):List Ca:=if e.d=true then l.map (DO i e) else l++[KX ops i e]
def Bj (ops:List (List Opn)) (evs:List Evt):Nat->List Ca
 |0=>[]
 |i+1=>match evs[i]? with|some e=>LP ops (Bj ops evs i) i e|none=>Bj ops evs i
theorem KA {ops:List (List Opn)} {evs:List Evt} {i:Nat} {x:Evt} (h:evs[i]?=some x):Bj ops evs (i+1)=LP ops (Bj ops evs i) i x:=by simp only[Bj,h]
theorem LQ (ops:List (List Opn)) (evs:List Evt):∀i,(Bj ops evs i).length<=i
 |0=>ga _
 |i+1=>by
  have ih:=LQ ops evs i
  simp only[Bj]
  split
  · unfold LP
    split
    · rw[gS];omega
    · rw[fL];simp;omega
  · omega
theorem bV (c:Ca) (i:Nat):(Ca.c c).set 7 (.int .i64 (i:Int))=Ca.c (toC c i):=rfl
theorem bW (c:Ca) (a:Ans):Sep.splice (Ca.c c) 8 (Ans.c a)=Ca.c {c with a:=a}:=by
 have e:∀c:Ca,Ca.c c=([.int .i64 c.client,.int .i64 c.index]++(c.op.c++[.int .i64 c.from',.int .i64 c.to']))++(c.a.c++[]):=fun c=>by simp[Ca.c,gK]
 rw[e,e]
 exact Sep.splice_mid (a:=[.int .i64 c.client,.int .i64 c.index]++(c.op.c++[.int .i64 c.from',.int .i64 c.to'])) (b:=c.a.c) (c:=[]) (vs:=a.c) (k:=8) I (by rw[Ans.e6,Ans.e6])
def TD (ops:List (List Opn)) (l:List Evt):Prop:=∀x∈l,(Lit.int .i64 x.a.code).wf=true/\∃(c k:Nat) (lo:List Opn) (o:Opn),x.cl=(c:Int)/\x.ix=(k:Int)/\ops[c]?=some lo/\lo[k]?=some o/\dS ops x=o
theorem MR {α:Type} {l:List α} {c:Nat} {x:α} (h:l[c]?=some x):l.set c x=l:=by
 refine gv (fun j=>?_)
 rw[jD]
 split
 · rename_i hj;subst hj;have:=(gl.1 h).1;rw[fO this,h]
 · rfl
theorem WL {f:Ca->Ca} {l:List Ca} {j:Nat} {y:Ca} (h:l[j]?=some y):((l.take j).map f++l.drop j).set j (f y)=(l.take (j+1)).map f++l.drop (j+1):=by
 have hj:=(gl.1 h).1
 have hd:l.drop j=y::l.drop (j+1):=by
  rw[<-(gl.1 h).2];exact fA hj
 rw[hd,iq _ _ (by rw[gS,fJ];omega),gS,fJ,show j-min j l.length=0 from by omega,jd,h,gL]
 simp[gK]
theorem WM {b:Bool} {Q:Prop} (h1:b=true->Q) (h2:b=false->Q):Q:=by cases b;exact h2 rfl;exact h1 rfl
theorem bca (a b:Int) (o:Opn) (i:Nat) (w:World):(Instr.build 60 #[(0,.int .i64 a),(1,.int .i64 b),(2,.agg o.c.toArray),(3,.int .i64 (i:Int)),(4,.int .i64 (-1))]).run prog w=.ok (.agg (Ca.c ⟨a,b,o,(i:Int),-1,Bx⟩).toArray) w:=by kernel_rfl
theorem TE {va vo:Value} (l:List Evt) (vs:List Sv) (ops:List (List Opn)) (hn:l.length<=65536) (hk:ops.length<=65536) (hm:∀o∈ops,o.length<=65536) (hW:TD ops l):Con prog 29 [va,vo] (fun w=>RdV w va Evt.enc l/\RRo w vo vs ops) [] (fun v:Value×Bool=>v.1) (fun _=>True) (fun v=>[Az v.1 60 Ca.enc (if v.2=true then Bj ops l l.length else [])]):=by
 intro w hE hH
 obtain⟨hl,hO⟩:=hE
 have hvl:=hO.len
 refine E0 func29 I hH ?_
 refine Cs I (Ak I (Cs I (Ak I (Ag (Cs I (Lm I (Lm I (row0 60 Ca.enc none (l_e I (E1 (TC l vs ops hn hk hm (fun x hx=>(hW x hx).1)) I call66 (fun _ h=>⟨hl.keep h (by simp[dom]),hO.keep h⟩) (fun b0 _=>Lq I (Qt I) (Nk ?_))))))))))))
 refine CB 12 I (fun h0=>?_) (fun h0=>?_)
 · refine Ai I (Cs I (Lm I (Ak I (Af (Aa (An I I ?_))))))
   exact fun _ h=>⟨(_,b0),rfl,trivial,by dsimp only;rw[h0];exact h⟩
 · refine Ab I (Ae (Ks (Cs I (Ak I (Al ?_)))))
   refine CN (fun (i:Nat) (v:Value)=>[(0,va),(1,vo),(5,v),(6,.int .i64 (i:Int))]) (fun (i:Nat) (v:Value)=>St w [] [Az v 60 Ca.enc (Bj ops l i)]) (fun (i:Nat) (v:Value)=>i<=l.length) (fun (i:Nat) (v:Value)=>l.length-i) (0) (.slice none 0 0) (gb _) (Si I) Ih (fun i v hi=>Ag (Ag ?_))
   have hcl:=LQ ops l i
   refine Cr I (Lm I (Lm I (Lq I (AL I U34 I (fun _ h=>hl.keep h (by simp[dom]))) (Lq I (Ql I) (Nk ?_)))))
   refine CB 17 I (fun h1=>?_) (fun h1=>?_)
   · obtain⟨x,hx⟩:∃x,l[i]?=some x:=⟨_,fD (by omega)⟩
     have hcs:=KA (ops:=ops) hx
     obtain⟨_,c,k,lo,o,hc,hxk,hlo,ho,hop⟩:=hW x (hY hx)
     have hclt:=(gl.1 hlo).1
     have hklt:=(gl.1 ho).1
     obtain⟨s,hs⟩:∃s,vs[c]?=some s:=⟨_,fD (by omega)⟩
     have hrd:=hO.i c s lo hs hlo
     refine Ai I (Ae (Ks (Al (Cs I (Lm I (Lm I (Lq I (As i I U34 Z71 I (fun _ h=>hl.keep h (by simp[dom])) I I (by omega)) (Lq I (AU i I isAgg71 Z71 I I (fun _ h=>hl.keep h (by simp[dom])) hx) (l_e I (Au I I I zeroValue71 (fun be=>l_e I (Ah I I Z71 I I (Evt.e6 _) (Evt.one _) (by show 0+(Evt.c x).length<=22;rw[Evt.e6];decide) (Ay (show Sep.splice _ 0 x.c=x.c from Sep.e7 (by rw[Evt.e6];rfl)) (Ns (Cs I (Lfa U71 I Z4 I (Lo G4 0 I (Lq I (Qt I) (Nk ?_)))))))))))))))))))
     refine WM (b:=x.d) (fun hd=>?_) (fun hd=>?_)
     · have hcd:Bj ops l (i+1)=(Bj ops l i).map (DO i x):=by rw[hcs];unfold LP;rw[fO hd]
       refine Sb 26 false I (by rw[hd];rfl) (Ab I (Ae (Kt (Cs I (Ak I (Al (AM ?_)))))))
       refine CN (fun (j:Nat) (v:Value)=>[(0,va),(1,vo),(5,v),(6,.int .i64 (i:Int)),(7,.pointer (some ⟨be,0,none⟩)),(8,.int .i64 (j:Int))]) (fun (j:Nat) (v:Value)=>St w [] [Az v 60 Ca.enc (((Bj ops l i).take j).map (DO i x)++(Bj ops l i).drop j),Ad be 71 x.c]) (fun (j:Nat) (v:Value)=>j<=(Bj ops l i).length) (fun (j:Nat) (v:Value)=>(Bj ops l i).length-j) (0) (v) (gb _) (Si I) Ih (fun j v hj=>Ag (Ag ?_))
       have hll:(((Bj ops l i).take j).map (DO i x)++(Bj ops l i).drop j).length=(Bj ops l i).length:=by rw[fL,gS,fJ,fK];omega
       refine Cr I (Lm I (Lm I (Lq I (AL I U36 I (Hrd 0 I)) (Lq I (Ql I) (Nk ?_)))))
       refine CB 48 I (fun h2=>?_) (fun h2=>?_)
       · obtain⟨y,hyo⟩:∃y,(Bj ops l i)[j]?=some y:=⟨_,fD (by omega)⟩
         have hy:(((Bj ops l i).take j).map (DO i x)++(Bj ops l i).drop j)[j]?=some y:=by rw[fP (by rw[gS,fJ];omega),gS,fJ,fQ];rw[show j+(j-min j (Bj ops l i).length)=j from by omega];exact hyo
         have HX:((Bj ops l i).take (j+1)).map (DO i x)++(Bj ops l i).drop (j+1)=(((Bj ops l i).take j).map (DO i x)++(Bj ops l i).drop j).set j (DO i x y):=by rw[<-WL hyo]
         refine Ai I (Ae (Ks (Al (Ag (Do8 (rg 18) 344373768 _ I St.drawn Ih (Dm I (Dm I (Dq I (As j I U36 Z60 I (Hrd 0 I) I I (by omega)) (Dfa U60 I Z3 I (Dq I (AI j 0 I G3 I I (Hrd 0 I) hy I) (Dfa U71 I Z3 I (Dq I (Ao I G3 I (Hat 1 I) I) (Dq I (Qe I) (Dm I ?_))))))))))))))
         refine CB 59 I (fun h3=>?_) (fun h3=>?_)
         · refine Dm I (Dm I (Dq I (As j I U36 Z60 I (Hrd 0 I) I I (by omega)) (Dfa U60 I Z3 I (Dq I (AI j 1 I G3 I I (Hrd 0 I) hy I) (Dfa U71 I Z3 I (Dq I (Ao I G3 I (Hat 1 I) I) (d_t I (e_q I I (Qe I) (d_t I (e_q I I (Qy I) (AK (Kt ?_))))))))))))
           refine CB 68 I (fun h4=>?_) (fun h4=>?_)
           · have hans:DO i x y={toC y i with a:=x.a}:=by unfold DO;rw[fO ⟨h3,h4⟩]
             have hls:((((Bj ops l i).take j).map (DO i x)++(Bj ops l i).drop j).set j (toC y i)).length=(((Bj ops l i).take j).map (DO i x)++(Bj ops l i).drop j).length:=je
             refine Ai I (Cs I (Lm I (Lm I (Lm I (Lq I (As j I U36 Z60 I (Hrd 0 I) I I (by omega)) (Lfa U60 I Z3 I (l_e I (CE j 7 ((toC y i)) I I Z3 I I I hy (by decide) (bV y i) (Nk (Cr I (Lm I (Lm I (Lfa U71 I Z58 I (Lq I (Cq (x.a.c) G58 Z58 1 I (Evt.a_part _) (Ans.e6 _)) (Lq I (As j I U36 Z60 I (Hrd 0 I) I I (by omega)) (Lfa U60 I Z58 I ?_))))))))))))))))
             have hy2:((((Bj ops l i).take j).map (DO i x)++(Bj ops l i).drop j).set j (toC y i))[j]?=some (toC y i):=jV (by omega)
             refine l_e I (FD j 8 ({toC y i with a:=x.a}:Ca) I I Z58 I I I hy2 (Ans.e6 _) (by decide) (Ans.one _) (bW _ _) (Bo (List.set_set ..) (AB (Aw (Kt (Cr I (Lm I (Lq I (Qi I (by omega)) (Las I (AB ?_))))))))))
             rw[hans] at HX
             refine AM (AM ?_)
             exact AD ((j+1,v)) (by dsimp only;omega) (by dsimp only;omega) (Si I) (fun _ h=>by dsimp only;rw[HX];exact h)
           · have hans:DO i x y=y:=by unfold DO;rw[fR (fun e=>h4 e.2)]
             rw[hans,MR hy] at HX
             refine Ab I (Ae (Aw (Kt (Cr I (Lm I (Lq I (Qi I (by omega)) (Las I (AB ?_))))))))
             exact AD ((j+1,v)) (by dsimp only;omega) (by dsimp only;omega) (Si I) (fun _ h=>by dsimp only;rw[HX];exact h)
         · have hans:DO i x y=y:=by unfold DO;rw[fR (fun e=>h3 e.1)]
           rw[hans,MR hy] at HX
           refine Dx I (Dx I (Dx I (Dx I (Dx I (Dx I (Dx I (Dx I (d_t I (e_q I I (Qz I) (AK (Kt (Ab I (Ae (Aw (Kt (Cr I (Lm I (Lq I (Qi I (by omega)) (Las I (AB ?_))))))))))))))))))))
           exact AD ((j+1,v)) (by dsimp only;omega) (by dsimp only;omega) (Si I) (fun _ h=>by dsimp only;rw[HX];exact h)
       · have hje:j=(Bj ops l i).length:=by omega
         have hfin:((Bj ops l i).take j).map (DO i x)++(Bj ops l i).drop j=Bj ops l (i+1):=by rw[hcd,hje,jH,List.drop_length,jc]
         refine Ab I (AO (Ac (Ac (Ar (Aw (Kt (Cr I (Lm I (Lq I (Qi I (by omega)) (Las I (AB (AM (Av ?_)))))))))))))
         exact AD ((i+1,v)) (by dsimp only;omega) (by dsimp only;omega) (Si I) (fun _ h=>by dsimp only;rw[<-hfin];exact h)
     · have hcd:Bj ops l i++[KX ops i x]=Bj ops l (i+1):=by rw[hcs];unfold LP;rw[fR (by rw[hd];decide)]
       have hcn:KX ops i x=⟨x.cl,x.ix,o,i,-1,Bx⟩:=by unfold KX;rw[hop]
       refine Sb 26 true I (by rw[hd];rfl) (Ai I (Ag (Do8 (rg 19) 1076168025 (fun w2=>RdV w2 vo DM vs/\RdV w2 s.v Opn.enc lo/\(Ad be 71 x.c).at w2) I St.drawn (fun _ h=>⟨hO.o.keep h (by simp[dom]),hrd.keep h (by simp[dom]),h.at 0 rfl⟩) (Dm I (Dfa U71 I Z3 I (Dq I (Ao I G3 I (fun _ h=>h.2.2) I) (Dfa U71 I Z3 I (Dq I (Ao I G3 I (fun _ h=>h.2.2) I) (Dm I (Dfa U71 I Z3 I (Dq I (Ao I G3 I (fun _ h=>h.2.2) I) (Dq I (As c I U25 Z40 I (fun _ h=>h.1) I hc (by omega)) (Dq I (AI c 0 I G40 I I (fun _ h=>h.1) hs I) (Dfa U71 I Z3 I (Dq I (Ao I G3 I (fun _ h=>h.2.2) I) (Dq I (As k I U40 Z43 I (fun _ h=>h.2.1) I hxk (by omega)) (Dq I (AU k I G43 Z43 I I (fun _ h=>h.2.1) ho) (Dm I (Dq I (AN ((KX ops i x).c) I I (fun w=>(by rw[hcn];exact bca _ _ _ _ w))) (d_e I (Ax (sz:=27) [.tmp 42] I I I I I U36 Z60 I zeroValue60 (by simp[Value.cells,Ca.e6]) (fun b3=>Aj (fun _ h=>⟨hO.o.keep h (by simp[dom]),hrd.keep h (by simp[dom]),h.at 1 rfl⟩) (AV (d_t I (Ap U36 U36 ZJ I (fun _ h=>AW (h.at 1 I) Ca.enc [(KX ops i x)] I I) (by simp only[fL,fv,jn];omega) ?_)))))))))))))))))))))))))
       intro v2
       refine Bo (hcd) (AM (Av (d_t I (e_q I I (AE I I) (AK (Kt (AO (Ac (Ar (Kt (Cr I (Lm I (Lq I (Qi I (by omega)) (Las I (AB (AM (Av ?_)))))))))))))))))
       exact AD ((i+1,v2)) (by dsimp only;omega) (by dsimp only;omega) (Si I) (fun _ h=>h)
   · have hie:i=l.length:=by omega
     subst hie
     refine Ab I (AO (Ac (Ac (Ar (Kt (Cs I (Lm I (Ak I (Af (An I I ?_))))))))))
     exact fun _ h=>⟨(v,b0),rfl,trivial,by dsimp only;rw[h0];exact h⟩
theorem Qk {v n:Int} (hn:0<n):(if v.tmod n<0 then v.tmod n+n else v.tmod n)=v%n:=by
 have h1:=Int.tmod_lt_of_pos v hn
 have h2 : -n<v.tmod n:=Int.lt_tmod_of_pos v hn
 have h3:=Int.mul_tdiv_add_tmod v n
 have key:∀r:Int,0<=r->r<n->(∃q,v=n*q+r)->r=v%n:=by
  rintro r hr0 hr1 ⟨q,hq⟩
  rw[hq,Int.mul_add_emod_self_left,Int.emod_eq_of_lt hr0 hr1]
 split
 · exact key _ (by omega) (by omega) ⟨v.tdiv n-1,by rw[Int.mul_sub];omega⟩
 · exact key _ (by omega) (by omega) ⟨v.tdiv n,by omega⟩
theorem Fp (v n:Int) (hn:0<n) (hn2:n<=4611686018427387904):Con prog 27 [.int .i64 v,.int .i64 n] (fun _=>True) [] (fun _:Unit=>.int .i64 (v%n)) (fun _=>True) (fun _=>[]):=by
 intro w hE hH
 have h1:=Int.tmod_lt_of_pos v hn
 have h2 : -n<v.tmod n:=Int.lt_tmod_of_pos v hn
 have h3:=Qk (v:=v) hn
 refine E0 func27 I hH ?_
 refine Cs I (Ak I (Cs I (Lm I (Lm I (Lq I (T4 I I I (by omega)) (Ak I (Ag (Cs I (Lm I (Lq I (Ql I) (Nk ?_)))))))))))
 refine CB 10 I (fun h=>?_) (fun h=>?_)
 · rw[fO h] at h3
   refine Ai I (Cr I (Lm I (Lm I (Lq I (Bf I I I (by omega)) (Ak I (Cs I (Lm I (Ak I (Af (An I I ?_))))))))))
   exact fun _ h=>⟨(),congrArg (fun z=>Ending.returned (Value.int .i64 z)) h3,trivial,h⟩
 · rw[fR h] at h3
   refine Ab I (Ae (Kt (Cs I (Lm I (Ak I (Af (An I I ?_)))))))
   exact fun _ h=>⟨(),congrArg (fun z=>Ending.returned (Value.int .i64 z)) h3,trivial,h⟩
theorem MS (k:Kv 8):Con prog 60 [.agg k.c.toArray] (fun _=>True) [] (fun _:Unit=>.bool (kck k)) (fun _=>True) (fun _=>[]):=by
 intro w hE hH
 refine E0 func60 I hH ?_
 refine Cs I (l_e I (AQ I I I I (fun bk=>Ce k.c I (Ak I (Ag (Cs I (Lfa U77 I Z3 I (Lo G3 0 I (Lq I (Ql I) (Lm I ?_))))))))))
 refine CB 7 I (fun h1=>?_) (fun h1=>?_)
 · rw[Uk h1]
   refine Lx I (Lx I (Lx I (Lq I (Qy I) (Nk (Ai I (Cs I (Ak I (Af (Aa (An I I ?_))))))))))
   exact fun _ h=>⟨(),rfl,trivial,h.e8⟩
 · refine Lfa U77 I Z3 I (Lo G3 0 I (Lq I (BS I I I) (Lq I (Qz I) (Nk ?_))))
   refine CB 11 I (fun h2=>?_) (fun h2=>?_)
   · rw[Ul h2]
     refine Ai I (Cs I (Ak I (Af (Aa (An I I ?_)))))
     exact fun _ h=>⟨(),rfl,trivial,h.e8⟩
   · obtain⟨m,hm,hm16⟩:∃m:Nat,k.n=(m:Int)/\m<=8:=⟨k.n.toNat,by omega,by omega⟩
     refine Ab I (Ae (Ks (Cs I (Lfa U77 I Z3 I (Lo G3 0 I (Ak I (Al ?_)))))))
     refine Bc (fun (i:Nat)=>[(1,.pointer (some ⟨bk,0,none⟩)),(3,.int .i64 (i:Int))]) (fun (i:Nat)=>St w [] [Ad bk 77 k.c]) (fun (i:Nat)=>i<=8/\m<=i/\∀j,m<=j->j<i->k.b.getD j 0=0) (fun (i:Nat)=>8-i) (m) ⟨hm16,ga _,fun j h1 h2=>by omega⟩ (Sn I (Sub.consE I (by rw[hm]) Sub.nil)) Ih (fun i hp=>Ag (Ag ?_))
     obtain⟨hi,hmi,hz⟩:=hp
     refine Cr I (Lm I (Lq I (Ql I) (Nk ?_)))
     refine CB 15 I (fun hil=>?_) (fun hil=>?_)
     · refine Ai I (Ae (Ks (Al (Cs I (Lm I (Lfa U77 I Z75 I (Lq I (AZ i I U75 Z5 I I I (by omega)) (Lq I (Ao I G5 I (Hat 0 I) (ZP k (by omega))) (Lq I (Qn I) (Nk ?_))))))))))
       refine CB 22 I (fun hne=>?_) (fun hne=>?_)
       · have hf:kck k=false:=ZQ (i:=i) (by omega) (by omega) (by simpa using hne)
         rw[hf]
         refine Ai I (Cs I (Ak I (Af (Am (Aa (Aa (Am (Aa (An I I ?_)))))))))
         exact fun _ h=>⟨(),rfl,trivial,h.e8⟩
       · refine Ab I (Ae (Aw (Kt (Cr I (Lm I (Lq I (Qi I (by omega)) (Las I (AB ?_))))))))
         exact AD (i+1) (by omega) ⟨by omega,by omega,fun j h1 h2=>by
          rcases ke.1 h2 with h3|rfl
          · exact hz j h1 h3
          · simpa using hne⟩ (Si I) (fun _ h=>h)
     · have hf:kck k=true:=QY hm hm16 (fun j h1 h2=>hz j h1 (by omega))
       rw[hf]
       refine Ab I (AO (Ac (Ac (Ar (Kt (Cs I (Ak I (Af (An I I ?_)))))))))
       exact fun _ h=>⟨(),rfl,trivial,h.e8⟩
theorem bX (s:ByteArray) (hs:s.size<=8):Con prog 67 [.string s] (fun _=>True) [] (fun q:Kv 8=>.tuple #[.agg q.c.toArray,.int .i64 0]) (fun q=>kck q=true) (fun _=>[]):=fun w he hh=>(Fo s hs w he hh).mono (fun e w' ⟨_,h1,h2,h3⟩=>⟨kof s hs,h1,Un _ _ _,h3⟩)
theorem bY (s:ByteArray) (hs:s.size<=16):Con prog 69 [.string s] (fun _=>True) [] (fun q:Kv 16=>.tuple #[.agg q.c.toArray,.int .i64 0]) (fun _=>True) (fun _=>[]):=fun w he hh=>(LL s hs w he hh).mono (fun e w' ⟨_,h1,h2,h3⟩=>⟨vof s hs,h1,trivial,h3⟩)
theorem By (l:List Int):(strOfNums l).size=l.length:=by unfold strOfNums;simp[ByteArray.size]
theorem dT {k:Kv 8} (h:kck k=true):∃m:Nat,k.n=(m:Int)/\m<=8:=by unfold kck at h;have:=jt h;exact⟨k.n.toNat,by omega,by omega⟩
theorem dU {k:Kv 16} (h:vck k=true):∃m:Nat,k.n=(m:Int)/\m<=16:=by unfold vck at h;have:=jt h;exact⟨k.n.toNat,by omega,by omega⟩
theorem Zw {d:Nat} (k:Kv d) {m:Nat}:(k.c.drop 1).take (m*(AG .u8).sz)=(AG .u8).flat (k.b.take m):=by
 rw[Gu]
 show ((k.b.map (Value.int .u8))).take (m*1)=_
 rw[jv,List.map_take]
theorem WN (l:List Int) {d:Nat} (h:l.length<=d):(strOfNums l).size<=d:=by rw[By];exact h
theorem WO (k:Kv 8):Con prog 110 [.agg k.c.toArray] (fun _=>True) [] (fun t:ByteArray=>.string t) (fun t=>t.size<=8) (fun _=>[]):=by
 intro w hE hH
 refine E0 func110 I hH ?_
 refine Cs I (l_e I (AQ I I I I (fun bk=>Ce k.c I (Ak I (Ag (Cs I (Lq I (Cq (k.c) G77 Z77 0 I (AY _) (Kv.e6 _)) (l_e I (E1 (MS k) I call60 Tt (fun _ _=>Lq I (Qt I) (Nk ?_)))))))))))
 refine CB 5 I (fun h1=>?_) (fun h1=>?_)
 · refine Ai I (Cs I (Ak I (Af (Aa (An I I ?_)))))
   exact fun _ h=>⟨.empty,rfl,by decide,h.e8⟩
 · obtain⟨m,hm,hm8⟩:=dT h1
   have hkl:=k.len
   refine Ab I (Ae (Kt (Cs I (Lfa U77 I Z75 I (Lfa U77 I Z3 I (Lo G3 0 I (Lq I (Eh m I U75 Z5 I I hm (by omega)) (Lq I (E4 (l:=k.b.take m) I U23 U5 U9 I (fun _ h=>Jg (h.at 0 I) (AG .u8) (k.b.take m) (by rw[fJ];omega) (by omega) (Zw k))) (Ak I (Af (An I I ?_)))))))))))
   exact fun _ h=>⟨strOfNums (k.b.take m),rfl,WN _ (by rw[fJ];omega),h.e8⟩
theorem WQ (k:Kv 16):Con prog 112 [.agg k.c.toArray] (fun _=>True) [] (fun t:ByteArray=>.string t) (fun t=>t.size<=16) (fun _=>[]):=by
 intro w hE hH
 refine E0 func112 I hH ?_
 refine Cs I (l_e I (AQ I I I I (fun bk=>Ce k.c I (Ak I (Ag (Cs I (Lq I (Cq (k.c) G56 Z56 0 I (AY _) (Kv.e6 _)) (l_e I (E1 (Dg k) I call61 Tt (fun _ _=>Lq I (Qt I) (Nk ?_)))))))))))
 refine CB 5 I (fun h1=>?_) (fun h1=>?_)
 · refine Ai I (Cs I (Ak I (Af (Aa (An I I ?_)))))
   exact fun _ h=>⟨.empty,rfl,by decide,h.e8⟩
 · obtain⟨m,hm,hm8⟩:=dU h1
   have hkl:=k.len
   refine Ab I (Ae (Kt (Cs I (Lfa U56 I sizeOf54 I (Lfa U56 I Z3 I (Lo G3 0 I (Lq I (Eh m I underlying54 Z5 I I hm (by omega)) (Lq I (E4 (l:=k.b.take m) I U23 U5 U9 I (fun _ h=>Jg (h.at 0 I) (AG .u8) (k.b.take m) (by rw[fJ];omega) (by omega) (Zw k))) (Ak I (Af (An I I ?_)))))))))))
   exact fun _ h=>⟨strOfNums (k.b.take m),rfl,WN _ (by rw[fJ];omega),h.e8⟩
theorem WR (v:Int):Con prog 113 [.int .i64 v] (fun _=>True) [] (fun k:Kv 16=>.agg k.c.toArray) (fun _=>True) (fun _=>[]):=by
 intro w hE hH
 refine E0 func113 I hH ?_
 refine Cs I (l_e I (Au I I I zeroValue56 (fun br=>Ce (kv0 16).c I (Nk (Cs I (Lm I (l_e I (E1 (Fp (v) 1099511627776 (by decide) (by decide)) I call27 Tt (fun _ _=>Ak I (Ag ?_))))))))))
 obtain⟨k,hk,hkb⟩:∃k:Nat,v%1099511627776=(k:Int)/\k<1099511627776:=⟨(v%1099511627776).toNat,by omega,by omega⟩
 refine Sv' 3 (.int .i64 (k:Int)) I (by rw[hk]) ?_
 obtain⟨n,hn,hn17⟩:∃n:Nat,(k:Int)%17=(n:Int)/\n<17:=⟨k%17,by omega,by omega⟩
 refine Cr I (Lm I (Lq I (Bh I I I (by omega) (by omega)) (Ak I (Ag (Sv' 4 (.int .i64 (n:Int)) I (by rw[hn]) (Cr I (Lm I (l_e I (BN (AG .u8) 0 n I I I U23 IQ I I I I I I I (by simp only[Sh];omega) (by omega) (fun vb=>Ak I (Ag (Cs I (Ak I (Al ?_))))))))))))))
 refine CN (fun (i:Nat) (l:List Int)=>[(2,.pointer (some ⟨br,0,none⟩)),(3,.int .i64 (k:Int)),(4,.int .i64 (n:Int)),(5,vb),(6,.int .i64 (i:Int))]) (fun (i:Nat) (l:List Int)=>St w [] [Az vb 5 (AG .u8) l,Ad br 56 (kv0 16).c]) (fun (i:Nat) (l:List Int)=>i<=n/\l.length=n) (fun (i:Nat) (l:List Int)=>n-i) (0) (List.replicate n 0) ⟨gb _,by simp⟩ (Si I) Ih (fun i l hp=>Ag (Ag ?_))
 obtain⟨hi,hl⟩:=hp
 refine Cr I (Lm I (Lm I (Lq I (Ql I) (Nk ?_))))
 refine CB 17 I (fun hil=>?_) (fun hil=>?_)
 · have hmul:(0:Int)<=(i:Int)*((k:Int)/4352)/\(i:Int)*((k:Int)/4352)<=17592186044416:=by
    have h1:(i:Int)*((k:Int)/4352)=((i*(k/4352):Nat):Int):=by rw[jb,Int.natCast_ediv];rfl
    have h2:i*(k/4352)<=16*1099511627776:=Nat.mul_le_mul (by omega) (by omega)
    rw[h1];omega
   refine Ai I (Ae (Ks (Al (Cr I (Lm I (Lm I (Lm I (Lq I (Br I I I (by omega) (by omega) (by omega)) (Lm I (Lm I (Lq I (Br I I I (by omega) (by omega) (by omega)) (Lq I (Gl I I I (by omega)) (Lq I (Bf I I I (by omega)) (Lq I (GR I U3 U5 I) (Lq I (As i I U23 Z5 I (Hrd 0 I) I I (by omega)) (l_e I ?_))))))))))))))))
   refine CE i 0 ((IntKind.u8.wrap ((k:Int)/17+(i:Int)*((k:Int)/4352)))) I I Z5 I I I (fD (by omega)) (by decide) I ?_
   refine AB (Aw (Kt (Cr I (Lm I (Lq I (Qi I (by omega)) (Las I (AB ?_)))))))
   exact AD ((i+1,l.set i (IntKind.u8.wrap ((k:Int)/17+(i:Int)*((k:Int)/4352))))) (by dsimp only;omega) ⟨by dsimp only;omega,by dsimp only;rw[je];exact hl⟩ (Si I) (fun _ h=>h)
 · refine Ab I (AO (Ac (Ac (Ar (Kt (Cs I (Lm I (Lq I (E4 I U23 U5 U9 I (Hrd 0 I)) (Av (l_e I (E1 (bY _ (by rw[By];omega)) I call69 Tt (fun ky _=>Lm I (Lq I (Qx I) (Lq I (Qx I) (l_e I (Au I I I zeroValue56 (fun bo=>Ce (kv0 16).c I (l_e I (Ah I I Z56 I I (Kv.e6 _) (Kv.one _) (by simp only[Kv.e6];decide) (Ay (show Sep.splice _ 0 (ky).c=(ky).c from Sep.e7 (by simp only[Kv.e6])) (Ak I (Cs I (Lq I (Cq (ky.c) G56 Z56 0 I (AY _) (Kv.e6 _)) (AM (l_e I (Ah I I Z56 I I (Kv.e6 _) (Kv.one _) (by simp only[Kv.e6];decide) (Ay (show Sep.splice _ 0 (ky).c=(ky).c from Sep.e7 (by simp only[Kv.e6])) (Nk (Af (CL I (AJ I G56 Z56 (Hat 0 I) (Kv.e6 _)) ?_))))))))))))))))))))))))))))))
   exact fun _ h=>⟨ky,rfl,trivial,h.e8⟩
section
variable {P:Program} {n:Nat} {L:Env} {X:World->Prop} {o:Oper}
theorem q_addS {t u:TypeId} {x y:Operand} {p q:ByteArray} (ho:o.op=.binOp .add t x y u) (hx:ev L x=some (.string p)) (hy:ev L y=some (.string q)) (hb:p.size+q.size<=9223372036854775807):QOp P n L X o (.string (p++q)) :=
 CW ho hx hy (fun w _=>by
  have h:(binOp .add t (.string p) (.string q)).run P w=.ok (.string (p++q)) w:=by
   have hb':¬((p.size+q.size:Nat):Int)>IntKind.i64.max:=by
    show ¬((p.size+q.size:Nat):Int)>9223372036854775807
    omega
   show (Go.Op.stringOp .add p q).run P w=_
   unfold Go.Op.stringOp
   simp only[fR hb'];rfl
  exact DQ I h)
end
theorem TF (z:Int):(Lit.int .u64 (IntKind.u64.wrap z)).wf=true:=by
 simp only[Lit.wf,gQ,ia,fw]
 exact⟨by show (0:Int)<=_;omega,by show _<=(2^64-1:Int);omega⟩
theorem KB {z:Int} (h0:0<=z) (h1:z<=65536):(Lit.int .i64 z).wf=true:=by
 simp only[Lit.wf,gQ,ia]
 exact⟨by show (-2^63:Int)<=_;omega,by show _<=(2^63-1:Int);omega⟩
theorem bZ (v:Int):Con prog 111 [.int .i64 v] (fun _=>True) [] (fun k:Kv 8=>.agg k.c.toArray) (fun _=>True) (fun _=>[]):=by
 intro w hE hH
 refine E0 func111 I hH ?_
 refine Cs I (l_e I (Au I I I zeroValue77 (fun br=>Ce (kv0 8).c I (Nk (Cs I (Lm I (l_e I (E1 (Fp (v) 1099511627776 (by decide) (by decide)) I call27 Tt (fun _ _=>Ak I (Cs I (Ak I (Ag (Cs I (Lm I (Lq I (Bh I I I (by omega) (by omega)) (Nk ?_))))))))))))))))
 obtain⟨k,hk,hkb⟩:∃k:Nat,v%1099511627776=(k:Int)/\k<1099511627776:=⟨(v%1099511627776).toNat,by omega,by omega⟩
 refine Sv' 3 (.int .i64 (k:Int)) I (by rw[hk]) ?_
 refine Gp (fun (s:ByteArray)=>[(2,ptV br),(4,.string s)]) (fun (s:ByteArray)=>St w [] [Ad br 77 (kv0 8).c]) (fun (s:ByteArray)=>s.size<=8) ?_ ?_
 · refine Al (Ag (Cs I (Lq I (Qe I) (Ak I ?_))))
   refine CB 25 I (fun h1=>?_) (fun h1=>?_)
   · refine Ai I (Ae (Kt (Ai I (Cr I (Lm I (Lq I (Br I I I (by omega) (by omega) (by omega)) (Lq I (Bh I I I (by omega) (by omega)) (Lq I (Bf I I I (by omega)) (Lq I (Bq I U3 U5 I (BR (by omega))) (l_e I (Ax (sz:=1) [.tmp 33] I I I I I U23 Z5 I zeroValue5 I (fun b2=>Lq I (E4 (l:=[97+(k:Int)/8%6]) I U23 U5 U9 I (fun _ h=>AW (h.at 0 I) (AG .u8) [97+(k:Int)/8%6] I I)) (Las I (AB (Aw (Av ?_))))))))))))))))
     exact Bb (_) (by first|(rw[By];exact iy I)|(rw[kG,By];simp only[fv,jn];omega)) (Si I) (fun _ h=>h)
   · refine Ab I (Cs I (Lq I (Qe I) (Ak I ?_)))
     refine CB 25 I (fun h3=>?_) (fun h3=>?_)
     · refine Ai I (Ae (Kt (Ai I (Cr I (Lm I (Lq I (Br I I I (by omega) (by omega) (by omega)) (Lq I (Bh I I I (by omega) (by omega)) (Lq I (Bf I I I (by omega)) (Lq I (Bq I U3 U5 I (BR (by omega))) (l_e I (Ax (sz:=1) [.tmp 33] I I I I I U23 Z5 I zeroValue5 I (fun b4=>Lq I (E4 (l:=[97+(k:Int)/8%6]) I U23 U5 U9 I (fun _ h=>AW (h.at 0 I) (AG .u8) [97+(k:Int)/8%6] I I)) (Las I (AB (Aw (Av ?_))))))))))))))))
       exact Bb (_) (by first|(rw[By];exact iy I)|(rw[kG,By];simp only[fv,jn];omega)) (Si I) (fun _ h=>h)
     · refine Ab I (Cr I (Lq I (Qe I) (Ak I ?_)))
       refine CB 25 I (fun h5=>?_) (fun h5=>?_)
       · refine Ai I (Cr I (Lm I (Lq I (Br I I I (by omega) (by omega) (by omega)) (Lq I (Bh I I I (by omega) (by omega)) (Lq I (Bf I I I (by omega)) (Lq I (Bq I U3 U5 I (BR (by omega))) (l_e I (Ax (sz:=1) [.tmp 33] I I I I I U23 Z5 I zeroValue5 I (fun b6=>Lq I (E4 (l:=[97+(k:Int)/8%6]) I U23 U5 U9 I (fun _ h=>AW (h.at 0 I) (AG .u8) [97+(k:Int)/8%6] I I)) (Las I (AB (Aw (Av ?_)))))))))))))
         exact Bb (_) (by first|(rw[By];exact iy I)|(rw[kG,By];simp only[fv,jn];omega)) (Si I) (fun _ h=>h)
       · refine Ab I (Ag (Cs I (Lq I (Qe I) (Ak I ?_))))
         refine CB 36 I (fun h7=>?_) (fun h7=>?_)
         · refine Ai I (Ae (Kt (Ai I (Cr I (Lm I (Lq I (Br I I I (by omega) (by omega) (by omega)) (Lq I (Bh I I I (by omega) (by omega)) (Lq I (Bf I I I (by omega)) (Lq I (Bq I U3 U5 I (BR (by omega))) (Lm I (Lq I (Br I I I (by omega) (by omega) (by omega)) (Lq I (Bh I I I (by omega) (by omega)) (Lq I (Bf I I I (by omega)) (Lq I (Bq I U3 U5 I (BR (by omega))) (l_e I (Ax (sz:=1) [.tmp 43,.tmp 48] I I I I I U23 Z5 I zeroValue5 I (fun b8=>Lq I (E4 (l:=[97+(k:Int)/8%5,97+(k:Int)/40%4]) I U23 U5 U9 I (fun _ h=>AW (h.at 0 I) (AG .u8) [97+(k:Int)/8%5,97+(k:Int)/40%4] I I)) (Las I (AB (Aw (Av ?_)))))))))))))))))))))
           exact Bb (_) (by first|(rw[By];exact iy I)|(rw[kG,By];simp only[fv,jn];omega)) (Si I) (fun _ h=>h)
         · refine Ab I (Cr I (Lq I (Qe I) (Ak I ?_)))
           refine CB 36 I (fun h9=>?_) (fun h9=>?_)
           · refine Ai I (Cr I (Lm I (Lq I (Br I I I (by omega) (by omega) (by omega)) (Lq I (Bh I I I (by omega) (by omega)) (Lq I (Bf I I I (by omega)) (Lq I (Bq I U3 U5 I (BR (by omega))) (Lm I (Lq I (Br I I I (by omega) (by omega) (by omega)) (Lq I (Bh I I I (by omega) (by omega)) (Lq I (Bf I I I (by omega)) (Lq I (Bq I U3 U5 I (BR (by omega))) (l_e I (Ax (sz:=1) [.tmp 43,.tmp 48] I I I I I U23 Z5 I zeroValue5 I (fun b10=>Lq I (E4 (l:=[97+(k:Int)/8%5,97+(k:Int)/40%4]) I U23 U5 U9 I (fun _ h=>AW (h.at 0 I) (AG .u8) [97+(k:Int)/8%5,97+(k:Int)/40%4] I I)) (Las I (AB (Aw (Av ?_))))))))))))))))))
             exact Bb (_) (by first|(rw[By];exact iy I)|(rw[kG,By];simp only[fv,jn];omega)) (Si I) (fun _ h=>h)
           · refine Ab I (Cs I (Lq I (Qe I) (Ak I ?_)))
             refine CB 51 I (fun h11=>?_) (fun h11=>?_)
             · refine Ai I (Cr I (Lm I (Lq I (Br I I I (by omega) (by omega) (by omega)) (Lq I (Bh I I I (by omega) (by omega)) (Lq I (Bf I I I (by omega)) (Lq I (Bq I U3 U5 I (BR (by omega))) (Lm I (Lq I (Br I I I (by omega) (by omega) (by omega)) (Lq I (Bh I I I (by omega) (by omega)) (Lq I (Bq I U3 U5 I (BR (by omega))) (Lm I (Lq I (Br I I I (by omega) (by omega) (by omega)) (Lq I (Bh I I I (by omega) (by omega)) (Lq I (Bq I U3 U5 I (BR (by omega))) (Lm I (Lq I (Br I I I (by omega) (by omega) (by omega)) (Lq I (Bh I I I (by omega) (by omega)) (Lq I (Bf I I I (by omega)) (Lq I (Bq I U3 U5 I (BR (by omega))) (l_e I (Ax (sz:=1) [.tmp 57,.const (.int .u8 0),.tmp 61,.tmp 65,.const (.int .u8 255),.const (.int .u8 120),.const (.int .u8 121),.tmp 70] I I I I I U23 Z5 I zeroValue5 I ?_)))))))))))))))))))))
               intro b12
               refine Lq I (E4 (l:=[97+(k:Int)/8%4,0,(k:Int)/32%256,(k:Int)/8192%4,255,120,121,97+(k:Int)/32768%3]) I U23 U5 U9 I (fun _ h=>AW (h.at 0 I) (AG .u8) [97+(k:Int)/8%4,0,(k:Int)/32%256,(k:Int)/8192%4,255,120,121,97+(k:Int)/32768%3] I I)) (Las I (AB (Aw (Av ?_))))
               exact Bb (_) (by first|(rw[By];exact iy I)|(rw[kG,By];simp only[fv,jn];omega)) (Si I) (fun _ h=>h)
             · refine Ab I (Cs I (Lq I (Qe I) (Ak I ?_)))
               refine CB 73 I (fun h13=>?_) (fun h13=>?_)
               · refine Ai I (Cr I (Lm I (Lq I (Br I I I (by omega) (by omega) (by omega)) (Lq I (Bh I I I (by omega) (by omega)) (Lq I (Bf I I I (by omega)) (Lq I (Bq I U3 U5 I (BR (by omega))) (Lm I (Lq I (Br I I I (by omega) (by omega) (by omega)) (Lq I (Bh I I I (by omega) (by omega)) (Lq I (Bf I I I (by omega)) (Lq I (Bq I U3 U5 I (BR (by omega))) (l_e I (Ax (sz:=1) [.tmp 79,.const (.int .u8 108),.const (.int .u8 111),.const (.int .u8 110),.const (.int .u8 103),.const (.int .u8 101),.const (.int .u8 114),.tmp 84] I I I I I U23 Z5 I zeroValue5 I (fun b14=>Lq I (E4 (l:=[98+(k:Int)/8%3,108,111,110,103,101,114,48+(k:Int)/24%9]) I U23 U5 U9 I (fun _ h=>AW (h.at 0 I) (AG .u8) [98+(k:Int)/8%3,108,111,110,103,101,114,48+(k:Int)/24%9] I I)) (Las I (AB (Aw (Av ?_))))))))))))))))))
                 exact Bb (_) (by first|(rw[By];exact iy I)|(rw[kG,By];simp only[fv,jn];omega)) (Si I) (fun _ h=>h)
               · refine Ab I (Cr I (Lm I (Lq I (Br I I I (by omega) (by omega) (by omega)) (Lq I (Bh I I I (by omega) (by omega)) (Lq I (Bq I U3 U5 I (BR (by omega))) (Lm I (Lq I (Br I I I (by omega) (by omega) (by omega)) (Lq I (Bh I I I (by omega) (by omega)) (Lq I (Bq I U3 U5 I (BR (by omega))) (l_e I (Ax (sz:=1) [.tmp 14,.tmp 18] I I I I I U23 Z5 I zeroValue5 I (fun b15=>Lq I (E4 (l:=[(k:Int)/8%256,(k:Int)/2048%256]) I U23 U5 U9 I (fun _ h=>AW (h.at 0 I) (AG .u8) [(k:Int)/8%256,(k:Int)/2048%256] I I)) (Lm I (Lq I (Br I I I (by omega) (by omega) (by omega)) (Lq I (Bh I I I (by omega) (by omega)) (Lq I (Sj (((k:Int)/524288%3).toNat) I U9 I I (by omega) (by rw[By];simp only[fv,jn];omega)) (Las I (AB (Aw (Av ?_))))))))))))))))))))
                 exact Bb (_) (by first|(rw[By];exact iy I)|(rw[kG,By];simp only[fv,jn];omega)) (Si I) (fun _ h=>h)
 · intro s hs8
   refine Cs I (Lm I (l_e I (E1 (bX s hs8) I call67 Tt (fun ky _=>Lm I (Lq I (Qx I) (Lq I (Qx I) (l_e I (Au I I I zeroValue77 (fun bo=>Ce (kv0 8).c I (l_e I (Ah I I Z77 I I (Kv.e6 _) (Kv.one _) (by simp only[Kv.e6];decide) (Ay (show Sep.splice _ 0 (ky).c=(ky).c from Sep.e7 (by simp only[Kv.e6])) (Ak I (Cs I (Lq I (Cq (ky.c) G77 Z77 0 I (AY _) (Kv.e6 _)) (AM (l_e I (Ah I I Z77 I I (Kv.e6 _) (Kv.one _) (by simp only[Kv.e6];decide) (Ay (show Sep.splice _ 0 (ky).c=(ky).c from Sep.e7 (by simp only[Kv.e6])) (Nk (Af (CL I (AJ I G77 Z77 (Hat 0 I) (Kv.e6 _)) ?_))))))))))))))))))))))
   exact fun _ h=>⟨ky,rfl,trivial,h.e8⟩
end Go.Proofs.YtloldofjddbjoaaGreat
namespace Go.Proofs.YtloldofjddbjoaaGreat
open Go.Sep Go.RowKit Tryz
variable {va vd:Value} {o:Opn} {i:Nat} {d:List Bool} {a b:Bool}
theorem RT (v:Int):Con prog 65 [.int .i64 v] (fun _=>True) [] (fun o:Opn=>.agg o.c.toArray) (fun o=>1<=o.kind/\o.kind<=4/\o.key.size<=17) (fun _=>[]):=by
 intro w hE hH
 refine E0 func65 I hH ?_
 refine Cs I (l_e I (Au I I I zeroValue43 (fun br=>Ce [.int .i64 0,.string ⟨#[]⟩,.string ⟨#[]⟩,.int .u64 0] I (Nk (Cs I (Lm I (l_e I (E1 (Fp (v) 1099511627776 (by decide) (by decide)) I call27 Tt (fun _ _=>Ak I (Ag ?_))))))))))
 obtain⟨k,hk,hkb⟩:∃k:Nat,v%1099511627776=(k:Int)/\k<1099511627776:=⟨(v%1099511627776).toNat,by omega,by omega⟩
 refine Sv' 3 (.int .i64 (k:Int)) I (by rw[hk]) (Cr I (Lm I (Lq I (Bh I I I (by omega) (by omega)) (Lq I (Bf I I I (by omega)) (Lm I (Lq I (Br I I I (by omega) (by omega) (by omega)) (l_e I (E1 (bZ _) I call111 Tt (fun ky _=>l_e I (E1 (WO ky) I call110 Tt (fun t ht=>Lq I (AN ([.int .i64 (1+(k:Int)%4),.string t,.string .empty,.int .u64 0]) I I (fun w=>by kernel_rfl)) (l_e I (Au I I I zeroValue43 (fun bo=>Ce [.int .i64 0,.string ⟨#[]⟩,.string ⟨#[]⟩,.int .u64 0] I (l_e I (Ah rfl rfl Z43 rfl rfl rfl (by intro v hv;simp only[fq,iH,iI] at hv;rcases hv with rfl|rfl|rfl|rfl<;>rfl) (by show 0+4<=4;decide) (Ay (I) (Ns (Cs I (Lfa U43 I Z3 I (Lo G3 0 I (Nk ?_))))))))))))))))))))))
 refine DC (fun (tv:ByteArray) (b:Int)=>[(2,ptV br),(3,.int .i64 (k:Int)),(4,ptV bo)]) (fun (tv:ByteArray) (b:Int)=>St w [] [Ad bo 43 [.int .i64 (1+(k:Int)%4),.string t,.string tv,.int .u64 b],Ad br 43 [.int .i64 0,.string .empty,.string .empty,.int .u64 0]]) (fun (tv:ByteArray) (b:Int)=>tv.size<=16/\(Lit.int .u64 b).wf=true) ?_ ?_
 · refine Al (Cs I (Lq I (Qe I) (Ak I ?_)))
   refine CB 17 I (fun h1=>?_) (fun h1=>?_)
   · refine Ai I (Cr I (Lm I (Lq I (Br I I I (by omega) (by omega) (by omega)) (l_e I (E1 (WR _) I call113 Tt (fun vl _=>l_e I (E1 (WQ vl) I call112 Tt (fun tv htv=>Lfa U43 I Z9 I (l_e I (AF I I Z9 I I I (by show 2<4;decide) (Ce [.int .i64 (1+(k:Int)%4),.string t,.string tv,.int .u64 0] I (AB (Aw ?_)))))))))))))
     exact Bb ((tv,0)) ⟨htv,by show (Lit.int .u64 0).wf=true;decide⟩ (Si I) (fun _ h=>h)
   · refine Ab I (Cs I (Lq I (Qe I) (Ak I ?_)))
     refine CB 24 I (fun h2=>?_) (fun h2=>?_)
     · refine Ai I (Cr I (Lm I (Lq I (Br I I I (by omega) (by omega) (by omega)) (Lq I (Bq I U3 underlying41 I (EL (by omega))) (Lq I (Za I I I) (Lfa U43 I Z41 I (l_e I (AF I I Z41 I I I (by show 3<4;decide) (Ce [.int .i64 (1+(k:Int)%4),.string t,.string .empty,.int .u64 (IntKind.u64.wrap ((k:Int)/4096*4099))] I (AB (Aw ?_)))))))))))
       exact Bb ((.empty,(IntKind.u64.wrap ((k:Int)/4096*4099)))) ⟨by show ByteArray.size .empty<=16;decide,TF _⟩ (Si I) (fun _ h=>h)
     · refine Ab I (Ae (Aw ?_))
       exact Bb ((.empty,0)) ⟨by show ByteArray.size .empty<=16;decide,by show (Lit.int .u64 0).wf=true;decide⟩ (Si I) (fun _ h=>h)
 · intro tv b hm1
   obtain⟨htv,hbw⟩:=hm1
   refine Ag (Cs I (Lm I (Lq I (Br I I I (by omega) (by omega) (by omega)) (Lq I (Bh I I I (by omega) (by omega)) (Lq I (Qe I) (Nk ?_))))))
   refine Gp (fun (t2:ByteArray)=>[(2,ptV br),(3,.int .i64 (k:Int)),(4,ptV bo)]) (fun (t2:ByteArray)=>St w [] [Ad bo 43 [.int .i64 (1+(k:Int)%4),.string t2,.string tv,.int .u64 b],Ad br 43 [.int .i64 0,.string .empty,.string .empty,.int .u64 0]]) (fun (t2:ByteArray)=>t2.size<=17) ?_ ?_
   · refine CB 34 I (fun h3=>?_) (fun h3=>?_)
     · refine Ai I (Cr I (Lfa U43 I Z9 I (Lo G9 0 I (Lq I (q_addS I I I (by show t.size+9<=_;omega)) (Lfa U43 I Z9 I (l_e I (AF I I Z9 I I I (by show 1<4;decide) (Ce [.int .i64 (1+(k:Int)%4),.string (t++(⟨#[49,50,51,52,53,54,55,56,57]⟩:ByteArray)),.string tv,.int .u64 b] I (AB ?_)))))))))
       exact Bb (t++(⟨#[49,50,51,52,53,54,55,56,57]⟩:ByteArray)) (by show ByteArray.size (_++_)<=17;rw[ByteArray.size_append];show t.size+9<=17;omega) (Si I) (fun _ h=>h)
     · refine Ab I (Ae ?_)
       exact Bb (t) (by omega) (Si I) (fun _ h=>h)
   · intro t2 ht2
     refine Ag (Cs I (Lm I (Lq I (Br I I I (by omega) (by omega) (by omega)) (Lq I (Bh I I I (by omega) (by omega)) (Lq I (Qe I) (Lm I ?_))))))
     refine CB 43 I (fun h1=>?_) (fun h1=>?_)
     · refine Lfa U43 I Z3 I (Lo G3 0 I (Lq I (Qe I) (Lq I (Qy I) (Nk ?_))))
       refine CB 47 I (fun h2=>?_) (fun h2=>?_)
       · refine Ai I (Cr I (Lfa U43 I Z9 I (Lo G9 0 I (Lq I (q_addS I I I (by show tv.size+18<=_;omega)) (Lfa U43 I Z9 I (l_e I (AF I I Z9 I I I (by show 2<4;decide) (Ce [.int .i64 (1+(k:Int)%4),.string t2,.string (tv++(⟨#[115,101,118,101,110,116,101,101,110,32,98,121,116,101,115,32,46,46]⟩:ByteArray)),.int .u64 b] I (Nk (Cs I (Lq I (Cq ([.int .i64 (1+(k:Int)%4),.string t2,.string (tv++(⟨#[115,101,118,101,110,116,101,101,110,32,98,121,116,101,115,32,46,46]⟩:ByteArray)),.int .u64 b]) G43 Z43 0 I (I) (I)) (AM (l_e I (Ah rfl rfl Z43 rfl rfl rfl (by intro v hv;simp only[fq,iH,iI] at hv;rcases hv with rfl|rfl|rfl|rfl<;>rfl) (by show 0+4<=4;decide) (Ce [.int .i64 (1+(k:Int)%4),.string t2,.string (tv++(⟨#[115,101,118,101,110,116,101,101,110,32,98,121,116,101,115,32,46,46]⟩:ByteArray)),.int .u64 b] I (Nk (Af (CL I (AJ I G43 Z43 (Hat 0 I) (I)) ?_))))))))))))))))))
         exact fun _ h=>⟨⟨(1+(k:Int)%4),t2,(tv++(⟨#[115,101,118,101,110,116,101,101,110,32,98,121,116,101,115,32,46,46]⟩:ByteArray)),b,KB (by omega) (by omega),hbw⟩,rfl,⟨by show 1<=(1+(k:Int)%4);omega,by show (1+(k:Int)%4)<=4;omega,ht2⟩,h.e8⟩
       · refine Ab I (Ae (Kt (Cs I (Lq I (Cq ([.int .i64 (1+(k:Int)%4),.string t2,.string tv,.int .u64 b]) G43 Z43 0 I (I) (I)) (AM (l_e I (Ah rfl rfl Z43 rfl rfl rfl (by intro v hv;simp only[fq,iH,iI] at hv;rcases hv with rfl|rfl|rfl|rfl<;>rfl) (by show 0+4<=4;decide) (Ce [.int .i64 (1+(k:Int)%4),.string t2,.string tv,.int .u64 b] I (Nk (Af (CL I (AJ I G43 Z43 (Hat 0 I) (I)) ?_)))))))))))
         exact fun _ h=>⟨⟨(1+(k:Int)%4),t2,tv,b,KB (by omega) (by omega),hbw⟩,rfl,⟨by show 1<=(1+(k:Int)%4);omega,by show (1+(k:Int)%4)<=4;omega,ht2⟩,h.e8⟩
     · refine Lx I (Lx I (Lx I (Lq I (Qz I) (Nk (Ab I (Ae (Kt (Cs I (Lq I (Cq ([.int .i64 (1+(k:Int)%4),.string t2,.string tv,.int .u64 b]) G43 Z43 0 I (I) (I)) (AM (l_e I (Ah rfl rfl Z43 rfl rfl rfl (by intro v hv;simp only[fq,iH,iI] at hv;rcases hv with rfl|rfl|rfl|rfl<;>rfl) (by show 0+4<=4;decide) (Ce [.int .i64 (1+(k:Int)%4),.string t2,.string tv,.int .u64 b] I (Nk (Af (CL I (AJ I G43 Z43 (Hat 0 I) (I)) ?_))))))))))))))))
       exact fun _ h=>⟨⟨(1+(k:Int)%4),t2,tv,b,KB (by omega) (by omega),hbw⟩,rfl,⟨by show 1<=(1+(k:Int)%4);omega,by show (1+(k:Int)%4)<=4;omega,ht2⟩,h.e8⟩
structure OpsR where
 vo:Value
 q0:Sv
 q1:Sv
 q2:Sv
 q3:Sv
 o0:List Opn
 o1:List Opn
 o2:List Opn
 o3:List Opn
def OpG (o:Opn):Prop:=1<=o.kind/\o.kind<=4/\o.key.size<=17
def OpsR.vs (b:OpsR) (n:Nat):List Sv:=[b.q0,b.q1,b.q2,b.q3].take n
def OpsR.ops (b:OpsR) (n:Nat):List (List Opn):=[b.o0,b.o1,b.o2,b.o3].take n
theorem Qm {i n:Nat} {Q:Prop} (h1:1<=n) (h4:n<=4) (a:(i:Int)%(n:Int)=((0:Nat):Int)/\0<n->Q) (b:(i:Int)%(n:Int)=((1:Nat):Int)/\1<n->Q) (c:(i:Int)%(n:Int)=((2:Nat):Int)/\2<n->Q) (d:(i:Int)%(n:Int)=((3:Nat):Int)/\3<n->Q):Q:=by
 have h:(i:Int)%(n:Int)=((i%n:Nat):Int):=by rw[Int.natCast_emod]
 have hlt:i%n<n:=gg _ (by omega)
 rw[h] at a b c d
 generalize i%n=j at a b c d hlt
 match j with
 |0=>exact a ⟨rfl,hlt⟩
 |1=>exact b ⟨rfl,hlt⟩
 |2=>exact c ⟨rfl,hlt⟩
 |3=>exact d ⟨rfl,hlt⟩
 |j+4=>omega
theorem WT (l:List Int) (n:Nat) (h1n:1<=n) (h4:n<=4):Con prog 25 [va,.int .i64 (n:Int)] (fun w=>RdV w va (AG .i64) l) [] (fun b:OpsR=>b.vo) (fun b=>b.o0.length+b.o1.length+b.o2.length+b.o3.length<=l.length/\∀o,o∈b.o0\/o∈b.o1\/o∈b.o2\/o∈b.o3->OpG o) (fun b=>[Az b.vo 40 DM (b.vs n),Az b.q0.v 43 Opn.enc b.o0,Az b.q1.v 43 Opn.enc b.o1,Az b.q2.v 43 Opn.enc b.o2,Az b.q3.v 43 Opn.enc b.o3]):=by
 intro w hl hH
 refine E0 func25 I hH ?_
 refine Cs I (Ak I (Cs I (Lm I (l_e I (BN DM sv0 n I I I U25 Ud I I I I I I I (by simp only[cX];omega) (by omega) (fun vo=>Ak I (Ag (Cs I (Ak I (Al (row0 43 Opn.enc none (row0 43 Opn.enc none (row0 43 Opn.enc none (row0 43 Opn.enc none (Pm [4] I ?_)))))))))))))))
 have hvl:∀q0 q1 q2 q3:Sv,([q0,q1,q2,q3].take n).length=n:=fun q0 q1 q2 q3=>by rw[fJ];exact gV h4
 have hrep:List.replicate n sv0=[sv0,sv0,sv0,sv0].take n:=by
  have e:[sv0,sv0,sv0,sv0]=List.replicate 4 sv0:=rfl
  rw[e,List.take_replicate,gV h4]
 refine Xo (fun (i:Nat) (q0:Sv) (q1:Sv) (q2:Sv) (q3:Sv) (o0:List Opn) (o1:List Opn) (o2:List Opn) (o3:List Opn)=>[(0,va),(1,.int .i64 (n:Int)),(5,vo),(6,.int .i64 (i:Int))]) (fun (i:Nat) (q0:Sv) (q1:Sv) (q2:Sv) (q3:Sv) (o0:List Opn) (o1:List Opn) (o2:List Opn) (o3:List Opn)=>St w [] [Az vo 40 DM ([q0,q1,q2,q3].take n),Az q0.v 43 Opn.enc o0,Az q1.v 43 Opn.enc o1,Az q2.v 43 Opn.enc o2,Az q3.v 43 Opn.enc o3]) (fun (i:Nat) (q0:Sv) (q1:Sv) (q2:Sv) (q3:Sv) (o0:List Opn) (o1:List Opn) (o2:List Opn) (o3:List Opn)=>i<=l.length/\i<=96/\o0.length+o1.length+o2.length+o3.length=i/\∀o,o∈o0\/o∈o1\/o∈o2\/o∈o3->OpG o) (fun (i:Nat) (q0:Sv) (q1:Sv) (q2:Sv) (q3:Sv) (o0:List Opn) (o1:List Opn) (o2:List Opn) (o3:List Opn)=>l.length-i) (0) (sv0) (sv0) (sv0) (sv0) ([]) ([]) ([]) ([]) ⟨gb _,gb _,rfl,fun o h=>by simp at h⟩ (Si I) (fun _ h=>by rw[<-hrep];exact h) (fun i q0 q1 q2 q3 o0 o1 o2 o3 hp=>Ag (Ag ?_))
 obtain⟨hi,hi96,gs,hg⟩:=hp
 have hvn:=hvl q0 q1 q2 q3
 refine Cr I (Lm I (Lm I (Lq I (AL I U22 I (fun _ h=>hl.keep h (by simp[dom]))) (Lq I (Ql I) (Lm I ?_)))))
 refine CB 13 I (fun h1=>?_) (fun h1=>?_)
 · refine Lm I (Lm I (Lq I (Gl I I I (by omega)) (Lq I (Ql I) (Lq I (Qy I) (Nk ?_)))))
   refine CB 18 I (fun h2=>?_) (fun h2=>?_)
   · obtain⟨x,hx⟩:∃x,l[i]?=some x:=⟨_,fD (by omega)⟩
     refine Ai I (Ae (Ks (Al ?_)))
     refine Qm (i:=i) h1n h4 (fun hj=>?_) (fun hj=>?_) (fun hj=>?_) (fun hj=>?_)
     · obtain⟨hjm,hjn⟩:=hj
       have hq:([q0,q1,q2,q3].take n)[0]?=some q0:=by rw[kH hjn];rfl
       refine Dn (rg 19) 837019575 (fun w2=>RdV w2 vo DM ([q0,q1,q2,q3].take n)/\RdV w2 va (AG .i64) l) I St.drawn (fun _ h=>⟨h.rd 0 rfl,hl.keep h (by simp[dom])⟩) (Dm I (Dm I (Dm I (Dq I (Bh I I I (by omega) (by omega)) (Dm I (Dm I (Dm I (Dq I (Bh I I I (by omega) (by omega)) (Dq I (As 0 I U25 Z40 I (fun _ h=>h.1) I hjm (by omega)) (Dq I (AI 0 0 I G40 I I (fun _ h=>h.1) hq I) (Dm I (Dm I (Dq I (As i I U22 Z3 I (fun _ h=>h.2) I I (by omega)) (Dq I (AI i 0 I G3 I I (fun _ h=>h.2) hx I) (d_e I (E1 (RT x) I call65 Tt (fun op hop=>Aj (fun _ h=>⟨h.rd 0 rfl,hl.keep h (by simp[dom])⟩) (d_e I (Ax (sz:=4) [.tmp 35] I I I I I U40 Z43 I zeroValue43 I (fun b2=>Aj (fun _ h=>⟨h.rd 1 rfl,hl.keep h (by simp[dom])⟩) (AV (d_e I (Ap U40 U40 JE I (fun _ h=>AW (h.at 1 I) Opn.enc [op] I I) (by simp only[fL,fv,jn];omega) (fun v=>Pre.fact (fun _ h=>B0 (h.at 0 I)) ?_))))))))))))))))))))))))
       rintro⟨ad,cp,rfl⟩
       refine Aj (fun _ h=>⟨h.rd 2 rfl,hl.keep h (by simp[dom])⟩) (Dq I (As 0 I U25 Z40 I (fun _ h=>h.1) I hjm (by omega)) (AV (d_t I (CE 0 0 ((⟨ad,(o0++[op]).length,cp⟩:Sv)) I I Z40 I I I hq (by decide) I (AK (Aw (Kt (Cr I (Lm I (Lq I (Qi I (by omega)) (Las I (AB (AV (Av ?_))))))))))))))
       exact AD ((i+1,⟨ad,(o0++[op]).length,cp⟩,q1,q2,q3,o0++[op],o1,o2,o3)) (by dsimp only;omega) ⟨by dsimp only;omega,by dsimp only;omega,by dsimp only;(try rw[fL]);simp only[fv,jn];omega,by dsimp only;intro o ho;simp only[ib,iE] at ho;exact (Classical.em (o=op)).elim (fun e=>e▸hop) (fun e=>hg o (by simpa [e] using ho))⟩ (Si I) (fun _ h=>by dsimp only;rw[<-iZ] at h;exact h)
     · obtain⟨hjm,hjn⟩:=hj
       have hq:([q0,q1,q2,q3].take n)[1]?=some q1:=by rw[kH hjn];rfl
       refine Dn (rg 19) 837019575 (fun w2=>RdV w2 vo DM ([q0,q1,q2,q3].take n)/\RdV w2 va (AG .i64) l) I St.drawn (fun _ h=>⟨h.rd 0 rfl,hl.keep h (by simp[dom])⟩) (Dm I (Dm I (Dm I (Dq I (Bh I I I (by omega) (by omega)) (Dm I (Dm I (Dm I (Dq I (Bh I I I (by omega) (by omega)) (Dq I (As 1 I U25 Z40 I (fun _ h=>h.1) I hjm (by omega)) (Dq I (AI 1 0 I G40 I I (fun _ h=>h.1) hq I) (Dm I (Dm I (Dq I (As i I U22 Z3 I (fun _ h=>h.2) I I (by omega)) (Dq I (AI i 0 I G3 I I (fun _ h=>h.2) hx I) (d_e I (E1 (RT x) I call65 Tt (fun op hop=>Aj (fun _ h=>⟨h.rd 0 rfl,hl.keep h (by simp[dom])⟩) (d_e I (Ax (sz:=4) [.tmp 35] I I I I I U40 Z43 I zeroValue43 I (fun b4=>Aj (fun _ h=>⟨h.rd 1 rfl,hl.keep h (by simp[dom])⟩) (DS (d_e I (Ap U40 U40 JE I (fun _ h=>AW (h.at 1 I) Opn.enc [op] I I) (by simp only[fL,fv,jn];omega) (fun v=>Pre.fact (fun _ h=>B0 (h.at 0 I)) ?_))))))))))))))))))))))))
       rintro⟨ad,cp,rfl⟩
       refine Aj (fun _ h=>⟨h.rd 2 rfl,hl.keep h (by simp[dom])⟩) (Dq I (As 1 I U25 Z40 I (fun _ h=>h.1) I hjm (by omega)) (AV (d_t I (CE 1 0 ((⟨ad,(o1++[op]).length,cp⟩:Sv)) I I Z40 I I I hq (by decide) I (AK (Aw (Kt (Cr I (Lm I (Lq I (Qi I (by omega)) (Las I (AB (AV (Av (Pm [0,1] I ?_)))))))))))))))
       exact AD ((i+1,q0,⟨ad,(o1++[op]).length,cp⟩,q2,q3,o0,o1++[op],o2,o3)) (by dsimp only;omega) ⟨by dsimp only;omega,by dsimp only;omega,by dsimp only;(try rw[fL]);simp only[fv,jn];omega,by dsimp only;intro o ho;simp only[ib,iE] at ho;exact (Classical.em (o=op)).elim (fun e=>e▸hop) (fun e=>hg o (by simpa [e] using ho))⟩ (Si I) (fun _ h=>by dsimp only;rw[<-iZ] at h;exact h)
     · obtain⟨hjm,hjn⟩:=hj
       have hq:([q0,q1,q2,q3].take n)[2]?=some q2:=by rw[kH hjn];rfl
       refine Dn (rg 19) 837019575 (fun w2=>RdV w2 vo DM ([q0,q1,q2,q3].take n)/\RdV w2 va (AG .i64) l) I St.drawn (fun _ h=>⟨h.rd 0 rfl,hl.keep h (by simp[dom])⟩) (Dm I (Dm I (Dm I (Dq I (Bh I I I (by omega) (by omega)) (Dm I (Dm I (Dm I (Dq I (Bh I I I (by omega) (by omega)) (Dq I (As 2 I U25 Z40 I (fun _ h=>h.1) I hjm (by omega)) (Dq I (AI 2 0 I G40 I I (fun _ h=>h.1) hq I) (Dm I (Dm I (Dq I (As i I U22 Z3 I (fun _ h=>h.2) I I (by omega)) (Dq I (AI i 0 I G3 I I (fun _ h=>h.2) hx I) (d_e I (E1 (RT x) I call65 Tt (fun op hop=>Aj (fun _ h=>⟨h.rd 0 rfl,hl.keep h (by simp[dom])⟩) (d_e I (Ax (sz:=4) [.tmp 35] I I I I I U40 Z43 I zeroValue43 I (fun b6=>Aj (fun _ h=>⟨h.rd 1 rfl,hl.keep h (by simp[dom])⟩) (CY (d_e I (Ap U40 U40 JE I (fun _ h=>AW (h.at 1 I) Opn.enc [op] I I) (by simp only[fL,fv,jn];omega) (fun v=>Pre.fact (fun _ h=>B0 (h.at 0 I)) ?_))))))))))))))))))))))))
       rintro⟨ad,cp,rfl⟩
       refine Aj (fun _ h=>⟨h.rd 2 rfl,hl.keep h (by simp[dom])⟩) (Dq I (As 2 I U25 Z40 I (fun _ h=>h.1) I hjm (by omega)) (AV (d_t I (CE 2 0 ((⟨ad,(o2++[op]).length,cp⟩:Sv)) I I Z40 I I I hq (by decide) I (AK (Aw (Kt (Cr I (Lm I (Lq I (Qi I (by omega)) (Las I (AB (AV (Av (Pm [0,1,1] I ?_)))))))))))))))
       exact AD ((i+1,q0,q1,⟨ad,(o2++[op]).length,cp⟩,q3,o0,o1,o2++[op],o3)) (by dsimp only;omega) ⟨by dsimp only;omega,by dsimp only;omega,by dsimp only;(try rw[fL]);simp only[fv,jn];omega,by dsimp only;intro o ho;simp only[ib,iE] at ho;exact (Classical.em (o=op)).elim (fun e=>e▸hop) (fun e=>hg o (by simpa [e] using ho))⟩ (Si I) (fun _ h=>by dsimp only;rw[<-iZ] at h;exact h)
     · obtain⟨hjm,hjn⟩:=hj
       have hq:([q0,q1,q2,q3].take n)[3]?=some q3:=by rw[kH hjn];rfl
       refine Dn (rg 19) 837019575 (fun w2=>RdV w2 vo DM ([q0,q1,q2,q3].take n)/\RdV w2 va (AG .i64) l) I St.drawn (fun _ h=>⟨h.rd 0 rfl,hl.keep h (by simp[dom])⟩) (Dm I (Dm I (Dm I (Dq I (Bh I I I (by omega) (by omega)) (Dm I (Dm I (Dm I (Dq I (Bh I I I (by omega) (by omega)) (Dq I (As 3 I U25 Z40 I (fun _ h=>h.1) I hjm (by omega)) (Dq I (AI 3 0 I G40 I I (fun _ h=>h.1) hq I) (Dm I (Dm I (Dq I (As i I U22 Z3 I (fun _ h=>h.2) I I (by omega)) (Dq I (AI i 0 I G3 I I (fun _ h=>h.2) hx I) (d_e I (E1 (RT x) I call65 Tt (fun op hop=>Aj (fun _ h=>⟨h.rd 0 rfl,hl.keep h (by simp[dom])⟩) (d_e I (Ax (sz:=4) [.tmp 35] I I I I I U40 Z43 I zeroValue43 I (fun b8=>Aj (fun _ h=>⟨h.rd 1 rfl,hl.keep h (by simp[dom])⟩) (Ex (d_e I (Ap U40 U40 JE I (fun _ h=>AW (h.at 1 I) Opn.enc [op] I I) (by simp only[fL,fv,jn];omega) (fun v=>Pre.fact (fun _ h=>B0 (h.at 0 I)) ?_))))))))))))))))))))))))
       rintro⟨ad,cp,rfl⟩
       refine Aj (fun _ h=>⟨h.rd 2 rfl,hl.keep h (by simp[dom])⟩) (Dq I (As 3 I U25 Z40 I (fun _ h=>h.1) I hjm (by omega)) (AV (d_t I (CE 3 0 ((⟨ad,(o3++[op]).length,cp⟩:Sv)) I I Z40 I I I hq (by decide) I (AK (Aw (Kt (Cr I (Lm I (Lq I (Qi I (by omega)) (Las I (AB (AV (Av (Pm [0,1,1,1] I ?_)))))))))))))))
       exact AD ((i+1,q0,q1,q2,⟨ad,(o3++[op]).length,cp⟩,o0,o1,o2,o3++[op])) (by dsimp only;omega) ⟨by dsimp only;omega,by dsimp only;omega,by dsimp only;(try rw[fL]);simp only[fv,jn];omega,by dsimp only;intro o ho;simp only[ib,iE] at ho;exact (Classical.em (o=op)).elim (fun e=>e▸hop) (fun e=>hg o (by simpa [e] using ho))⟩ (Si I) (fun _ h=>by dsimp only;rw[<-iZ] at h;exact h)
   · refine Ab I (AO (Ac (Ac (Ar (Kt (Cs I (Lm I (Ak I (Af (An I I ?_))))))))))
     exact fun _ h=>⟨⟨vo,q0,q1,q2,q3,o0,o1,o2,o3⟩,rfl,⟨by show o0.length+o1.length+o2.length+o3.length<=_;omega,hg⟩,h⟩
 · refine Lx I (Lx I (Lx I (Lx I (Lq I (Qz I) (Nk (Ab I (AO (Ac (Ac (Ar (Kt (Cs I (Lm I (Ak I (Af (An I I ?_))))))))))))))))
   exact fun _ h=>⟨⟨vo,q0,q1,q2,q3,o0,o1,o2,o3⟩,rfl,⟨by show o0.length+o1.length+o2.length+o3.length<=_;omega,hg⟩,h⟩
theorem MT (h:(8:Int)<o.key.size):BX o=true:=by unfold BX;rw[jo (show ¬o.key.size<=8 by omega)];rfl
theorem MU (h:o.key.size<=8) (hk:o.kind=1):decide ((16:Int)<o.val.size)=BX o:=by
 unfold BX
 rw[jq h,jq hk]
 by_cases h2:o.val.size<=16
 · rw[jq h2,jo (by omega)];rfl
 · rw[jo h2,jq (by omega)];rfl
theorem MV (h:o.key.size<=8) (hk:¬o.kind=1):false=BX o:=by unfold BX;rw[jq h,jo hk];rfl
theorem DN (o:Opn):Con prog 64 [.agg o.c.toArray] (fun _=>True) [] (fun _:Unit=>.bool (BX o)) (fun _=>True) (fun _=>[]):=by
 intro w hE hH
 refine E0 func64 I hH ?_
 refine Cs I (l_e I (AQ I I I I (fun bo=>Ce o.c I (Ak I (Cs I (Lfa U43 I Z9 I (Lo G9 0 I (Lq I (Ep I U9 I) (Lq I (BS I I I) (Lm I ?_))))))))))
 refine CB 7 I (fun h1=>?_) (fun h1=>?_)
 · refine Lx I (Lx I (Lx I (Lx I (Lx I (Lx I (Lx I (Lx I (Lx I (Lq I (Qy I) (Ak I (Af (An I I ?_))))))))))))
   exact fun _ h=>⟨(),congrArg (fun z=>Ending.returned (Value.bool z)) (by first|exact (MT (by omega)).symm|exact MU (by omega) (by omega)|exact MV (by omega) (by omega)),trivial,h.e8⟩
 · refine Lfa U43 I Z3 I (Lo G3 0 I (Lq I (Qe I) (Lm I ?_)))
   refine CB 11 I (fun h2=>?_) (fun h2=>?_)
   · refine Lfa U43 I Z9 I (Lo G9 0 I (Lq I (Ep I U9 I) (Lq I (BS I I I) (Lq I (Qy I) (Lq I (Qz I) (Ak I (Af (An I I ?_))))))))
     exact fun _ h=>⟨(),congrArg (fun z=>Ending.returned (Value.bool z)) (by first|exact (MT (by omega)).symm|exact MU (by omega) (by omega)|exact MV (by omega) (by omega)),trivial,h.e8⟩
   · refine Lx I (Lx I (Lx I (Lx I (Lq I (Qz I) (Lq I (Qz I) (Ak I (Af (An I I ?_))))))))
     exact fun _ h=>⟨(),congrArg (fun z=>Ending.returned (Value.bool z)) (by first|exact (MT (by omega)).symm|exact MU (by omega) (by omega)|exact MV (by omega) (by omega)),trivial,h.e8⟩
theorem IF (h:BX o=false):o.key.size<=8:=by unfold BX at h;simp at h;omega
theorem Qo (h:BX o=false) (hk:o.kind=1):o.val.size<=16:=by unfold BX at h;simp[hk] at h;omega
theorem Jr (h:BX o=false):kof o.key (IF h)=kOf o:=by unfold kOf;rw[dif_pos (IF h)]
theorem YS (h:BX o=false) (hk:o.kind=1):vof o.val (Qo h hk)=vOf o:=by unfold vOf;rw[dif_pos (Qo h hk)]
theorem YT (l:List En) (o:Opn) (hs:B8 l) (hn:l.length<=1000) (hT:BX o=true):Con prog 33 [va,.agg o.c.toArray] (fun w=>RdV w va En.enc l) [] (fun _:Unit=>.tuple #[va,.agg (Ans.c (⟨2,false,kv0 16⟩:Ans)).toArray]) (fun _=>True) (fun _=>[]):=by
 intro w hl hH
 refine E0 func33 I hH ?_
 refine Cs I (l_e I (AQ I I I I (fun bo=>Ce o.c I (Las I (l_e I (Au I I I zeroValue58 (fun ba=>Ce (Ans.c Bx) I (Ns (Cs I (Lq I (Cq (o.c) G43 Z43 1 I (I) (I)) (l_e I (E1 (DN o) I call64 Tt (fun _ _=>Nk (Sb 12 true I (by first|rfl|(rw[hkd];rfl)|exact hT) (Ai I (Cs I (Lm I (Lq I (AN (Ans.c (⟨2,false,kv0 16⟩:Ans)) I I (fun w=>by kernel_rfl)) (Las I (l_e I (Ah I I Z58 I I (Ans.e6 _) (Ans.one _) (by simp only[Ans.e6];decide) (Ce (Ans.c (⟨2,false,kv0 16⟩:Ans)) (Sep.e7 (by simp only[Ans.e6])) (Nk (Af (Aa (BI I (show Sep.look _ _=some _ from I) (AJ I G58 Z58 (Hat 0 I) (Ans.e6 _)) ?_))))))))))))))))))))))))))
 exact fun _ h=>⟨(),rfl,trivial,h.e8⟩
theorem YU (l:List En) (o:Opn) (hs:B8 l) (hn:l.length<=1000) (hT:BX o=false) (hkd:o.kind=4):Con prog 33 [va,.agg o.c.toArray] (fun w=>RdV w va En.enc l) [] (fun _:Unit=>.tuple #[va,.agg (Ans.c (⟨0,(AS l (kOf o)).2,(AS l (kOf o)).1⟩:Ans)).toArray]) (fun _=>True) (fun _=>[]):=by
 intro w hl hH
 refine E0 func33 I hH ?_
 refine Cs I (l_e I (AQ I I I I (fun bo=>Ce o.c I (Las I (l_e I (Au I I I zeroValue58 (fun ba=>Ce (Ans.c Bx) I (Ns (Cs I (Lq I (Cq (o.c) G43 Z43 1 I (I) (I)) (l_e I (E1 (DN o) I call64 Tt (fun _ _=>Nk (Sb 12 false I (by first|rfl|(rw[hkd];rfl)|exact hT) (Ab I (Ae (Kt (Cs I (Lfa U43 I Z9 I (Lo G9 1 I (l_e I (E1 (Fo o.key (IF hT)) I call67 Tt ?_))))))))))))))))))))))
 intro _ _
 rw[Jr hT]
 refine Lm I (Lq I (Qx I) (Lq I (Qx I) (l_e I (Au I I I zeroValue77 (fun bk=>Ce (kv0 8).c I (l_e I (Ah I I Z77 I I (Kv.e6 _) (Kv.one _) (by simp only[Kv.e6];decide) (Ay (show Sep.splice _ 0 ((kOf o)).c=((kOf o)).c from Sep.e7 (by simp only[Kv.e6])) (Ak I (Ag (Cs I (Lfa U43 I Z3 I (Lo G3 2 I (Lq I (Qe I) (Nk (Sb 23 true I (by first|rfl|(rw[hkd];rfl)|exact hT) (Ai I (Cs I (Lm I (Lq I (Cq ((kOf o).c) G77 Z77 0 I (AY _) (Kv.e6 _)) (l_e I (E1 (Kz l (kOf o) hs hn) I call68 (fun _ h=>hl.keep h (by simp)) (fun _ _=>Lm I (Lq I (Qx I) (Lq I (Qx I) (l_e I (Au I I I zeroValue56 (fun bv=>Ce (kv0 16).c I (l_e I (Ah I I Z56 I I (Kv.e6 _) (Kv.one _) (by simp only[Kv.e6];decide) (Ay (show Sep.splice _ 0 ((AS l (kOf o)).1).c=((AS l (kOf o)).1).c from Sep.e7 (by simp only[Kv.e6])) (Ak I (Ag (Do8 (rg 6) 486 _ I St.drawn Ih (Dm I (Dm I (Dq I (Cq ((AS l (kOf o)).1.c) G56 Z56 0 I (AY _) (Kv.e6 _)) (Dq I (AN (Ans.c (⟨0,(AS l (kOf o)).2,(AS l (kOf o)).1⟩:Ans)) I I (dD (AS l (kOf o)).2 (AS l (kOf o)).1)) (Das I (AV (d_t I (Ah I I Z58 I I (Ans.e6 _) (Ans.one _) (by simp only[Ans.e6];decide) (Ce (Ans.c (⟨0,(AS l (kOf o)).2,(AS l (kOf o)).1⟩:Ans)) (Sep.e7 (by simp only[Ans.e6])) (AK (Kt (Af (Aa (BI I (show Sep.look _ _=some _ from I) (AJ I G58 Z58 (Hat 0 I) (Ans.e6 _)) ?_))))))))))))))))))))))))))))))))))))))))))))))))
 exact fun _ h=>⟨(),rfl,trivial,h.e8⟩
theorem WU (l:List En) (o:Opn) (hs:B8 l) (hn:l.length<=1000) (hck:∀e∈l,kck e.key=true) (hT:BX o=false) (hkd:o.kind=1):Con prog 33 [va,.agg o.c.toArray] (fun w=>RdV w va En.enc l) [] (fun v:Value=>.tuple #[v,.agg (Ans.c Bx).toArray]) (fun _=>True) (fun v=>[Az v 79 En.enc (Bu l (mOf o))]):=by
 intro w hl hH
 refine E0 func33 I hH ?_
 refine Cs I (l_e I (AQ I I I I (fun bo=>Ce o.c I (Las I (l_e I (Au I I I zeroValue58 (fun ba=>Ce (Ans.c Bx) I (Ns (Cs I (Lq I (Cq (o.c) G43 Z43 1 I (I) (I)) (l_e I (E1 (DN o) I call64 Tt (fun _ _=>Nk (Sb 12 false I (by first|rfl|(rw[hkd];rfl)|exact hT) (Ab I (Ae (Kt (Cs I (Lfa U43 I Z9 I (Lo G9 1 I (l_e I (E1 (Fo o.key (IF hT)) I call67 Tt ?_))))))))))))))))))))))
 intro _ _
 rw[Jr hT]
 refine Lm I (Lq I (Qx I) (Lq I (Qx I) (l_e I (Au I I I zeroValue77 (fun bk=>Ce (kv0 8).c I (l_e I (Ah I I Z77 I I (Kv.e6 _) (Kv.one _) (by simp only[Kv.e6];decide) (Ay (show Sep.splice _ 0 ((kOf o)).c=((kOf o)).c from Sep.e7 (by simp only[Kv.e6])) (Ak I (Ag (Cs I (Lfa U43 I Z3 I (Lo G3 2 I (Lq I (Qe I) (Nk (Sb 23 false I (by first|rfl|(rw[hkd];rfl)|exact hT) (Ab I (Ae (Ks (Cs I (Lfa U43 I Z3 I (Lo G3 2 I (Lq I (Ql I) (Lm I (Sb 37 false I (by first|rfl|(rw[hkd];rfl)|exact hT) (Lfa U43 I Z3 I (Lo G3 2 I (Lq I (BS I I I) ?_))))))))))))))))))))))))))))
 refine Lq I (Qz I) (Nk (Sb 41 false I (by first|rfl|(rw[hkd];rfl)|exact hT) (Ab I (Ae (Kt (Cs I (Lfa U43 I Z3 I (Lo G3 2 I (Lq I (Cq ((kOf o).c) G77 Z77 0 I (AY _) (Kv.e6 _)) (Lq I (AN (Ms.c (m0 o)) I I (VT o.kind o.wk (kOf o))) (l_e I (Au I I I zeroValue154 (fun bm=>Ce ms0.c I (l_e I (Ah I I Bi I I (Ms.e6 _) (Ms.one _) (by simp only[Ms.e6];decide) (Ce (Ms.c (m0 o)) (Sep.e7 (by simp only[Ms.e6])) (Ns (Cs I (Lfa U43 I Z3 I (Lo G3 3 I (Lq I (Qe I) (Nk (Sb 50 true I (by first|rfl|(rw[hkd];rfl)|exact hT) (Ai I (Cr I (Lfa U43 I Z9 I (Lo G9 3 I (l_e I (E1 (LL o.val (Qo hT hkd)) I call69 Tt ?_)))))))))))))))))))))))))))))
 intro _ _
 rw[YS hT hkd]
 refine Lm I (Lq I (Qx I) (Lq I (Qx I) (Lfa B7 I Z56 I (l_e I (Ah I I Z56 I I (Kv.e6 _) (Kv.one _) (by rw[Kv.e6,Ms.e6];decide) (Ay (Ms.set_val _ _) (Ns (Cs I (Lfa U43 I Z3 I (Lo G3 3 I (Lq I (Qe I) (Nk (Sb 60 false I (by first|rfl|(rw[hkd];rfl)|exact hT) (Ab I (Ae (Kt (Cs I (Lm I (Lq I (Cq (((m0 o).setVal (vOf o)).c) Cm Bi 0 I (Bm _) (Ms.e6 _)) ?_)))))))))))))))))))
 have hmo:((m0 o).setVal (vOf o))=mOf o:=by rw[Rx hkd]
 rw[hmo]
 refine l_e I (AX (IE l (mOf o) hs hn hck (E9 o) (by show o.kind=1\/o.kind=2\/o.kind=3;omega)) I I I call70 I (fun _ h=>hl.keep h (by simp)) (fun v _=>Lq I (AN (Ans.c Bx) I I (fun w=>by kernel_rfl)) (Las I (DS (l_e I (Ah I I Z58 I I (Ans.e6 _) (Ans.one _) (by simp only[Ans.e6];decide) (Ce (Ans.c Bx) (Sep.e7 (by simp only[Ans.e6])) (Nk (Af (Pm [0,1,1,1] I (BI I (show Sep.look _ _=some _ from I) (AJ I G58 Z58 (Hat 0 I) (Ans.e6 _)) ?_)))))))))))
 exact fun _ h=>⟨v,rfl,trivial,h.drop.drop.drop.drop⟩
theorem WV (l:List En) (o:Opn) (hs:B8 l) (hn:l.length<=1000) (hck:∀e∈l,kck e.key=true) (hT:BX o=false) (hkd:o.kind=2):Con prog 33 [va,.agg o.c.toArray] (fun w=>RdV w va En.enc l) [] (fun v:Value=>.tuple #[v,.agg (Ans.c Bx).toArray]) (fun _=>True) (fun v=>[Az v 79 En.enc (Bu l (mOf o))]):=by
 intro w hl hH
 refine E0 func33 I hH ?_
 refine Cs I (l_e I (AQ I I I I (fun bo=>Ce o.c I (Las I (l_e I (Au I I I zeroValue58 (fun ba=>Ce (Ans.c Bx) I (Ns (Cs I (Lq I (Cq (o.c) G43 Z43 1 I (I) (I)) (l_e I (E1 (DN o) I call64 Tt (fun _ _=>Nk (Sb 12 false I (by first|rfl|(rw[hkd];rfl)|exact hT) (Ab I (Ae (Kt (Cs I (Lfa U43 I Z9 I (Lo G9 1 I (l_e I (E1 (Fo o.key (IF hT)) I call67 Tt ?_))))))))))))))))))))))
 intro _ _
 rw[Jr hT]
 refine Lm I (Lq I (Qx I) (Lq I (Qx I) (l_e I (Au I I I zeroValue77 (fun bk=>Ce (kv0 8).c I (l_e I (Ah I I Z77 I I (Kv.e6 _) (Kv.one _) (by simp only[Kv.e6];decide) (Ay (show Sep.splice _ 0 ((kOf o)).c=((kOf o)).c from Sep.e7 (by simp only[Kv.e6])) (Ak I (Ag (Cs I (Lfa U43 I Z3 I (Lo G3 2 I (Lq I (Qe I) (Nk (Sb 23 false I (by first|rfl|(rw[hkd];rfl)|exact hT) (Ab I (Ae (Ks (Cs I (Lfa U43 I Z3 I (Lo G3 2 I (Lq I (Ql I) (Lm I (Sb 37 false I (by first|rfl|(rw[hkd];rfl)|exact hT) (Lfa U43 I Z3 I (Lo G3 2 I (Lq I (BS I I I) ?_))))))))))))))))))))))))))))
 refine Lq I (Qz I) (Nk (Sb 41 false I (by first|rfl|(rw[hkd];rfl)|exact hT) (Ab I (Ae (Kt (Cs I (Lfa U43 I Z3 I (Lo G3 2 I (Lq I (Cq ((kOf o).c) G77 Z77 0 I (AY _) (Kv.e6 _)) (Lq I (AN (Ms.c (m0 o)) I I (VT o.kind o.wk (kOf o))) (l_e I (Au I I I zeroValue154 (fun bm=>Ce ms0.c I (l_e I (Ah I I Bi I I (Ms.e6 _) (Ms.one _) (by simp only[Ms.e6];decide) (Ce (Ms.c (m0 o)) (Sep.e7 (by simp only[Ms.e6])) (Ns (Cs I (Lfa U43 I Z3 I (Lo G3 3 I (Lq I (Qe I) (Nk (Sb 50 false I (by first|rfl|(rw[hkd];rfl)|exact hT) (Ab I (Ae (Ks (Cs I (Lfa U43 I Z3 I (Lo G3 3 I (Lq I (Qe I) (Nk (Sb 60 false I (by first|rfl|(rw[hkd];rfl)|exact hT) (Ab I (Ae (Kt (Cs I ?_))))))))))))))))))))))))))))))))))))
 refine Lm I (Lq I (Cq ((m0 o).c) Cm Bi 0 I (Bm _) (Ms.e6 _)) ?_)
 have hmo:(m0 o)=mOf o:=by rw[Rz hkd]
 rw[hmo]
 refine l_e I (AX (IE l (mOf o) hs hn hck (E9 o) (by show o.kind=1\/o.kind=2\/o.kind=3;omega)) I I I call70 I (fun _ h=>hl.keep h (by simp)) (fun v _=>Lq I (AN (Ans.c Bx) I I (fun w=>by kernel_rfl)) (Las I (DS (l_e I (Ah I I Z58 I I (Ans.e6 _) (Ans.one _) (by simp only[Ans.e6];decide) (Ce (Ans.c Bx) (Sep.e7 (by simp only[Ans.e6])) (Nk (Af (Pm [0,1,1,1] I (BI I (show Sep.look _ _=some _ from I) (AJ I G58 Z58 (Hat 0 I) (Ans.e6 _)) ?_)))))))))))
 exact fun _ h=>⟨v,rfl,trivial,h.drop.drop.drop.drop⟩
theorem WW (l:List En) (o:Opn) (hs:B8 l) (hn:l.length<=1000) (hck:∀e∈l,kck e.key=true) (hT:BX o=false) (hkd:o.kind=3):Con prog 33 [va,.agg o.c.toArray] (fun w=>RdV w va En.enc l) [] (fun v:Value=>.tuple #[v,.agg (Ans.c Bx).toArray]) (fun _=>True) (fun v=>[Az v 79 En.enc (Bu l (mOf o))]):=by
 intro w hl hH
 refine E0 func33 I hH ?_
 refine Cs I (l_e I (AQ I I I I (fun bo=>Ce o.c I (Las I (l_e I (Au I I I zeroValue58 (fun ba=>Ce (Ans.c Bx) I (Ns (Cs I (Lq I (Cq (o.c) G43 Z43 1 I (I) (I)) (l_e I (E1 (DN o) I call64 Tt (fun _ _=>Nk (Sb 12 false I (by first|rfl|(rw[hkd];rfl)|exact hT) (Ab I (Ae (Kt (Cs I (Lfa U43 I Z9 I (Lo G9 1 I (l_e I (E1 (Fo o.key (IF hT)) I call67 Tt ?_))))))))))))))))))))))
 intro _ _
 rw[Jr hT]
 refine Lm I (Lq I (Qx I) (Lq I (Qx I) (l_e I (Au I I I zeroValue77 (fun bk=>Ce (kv0 8).c I (l_e I (Ah I I Z77 I I (Kv.e6 _) (Kv.one _) (by simp only[Kv.e6];decide) (Ay (show Sep.splice _ 0 ((kOf o)).c=((kOf o)).c from Sep.e7 (by simp only[Kv.e6])) (Ak I (Ag (Cs I (Lfa U43 I Z3 I (Lo G3 2 I (Lq I (Qe I) (Nk (Sb 23 false I (by first|rfl|(rw[hkd];rfl)|exact hT) (Ab I (Ae (Ks (Cs I (Lfa U43 I Z3 I (Lo G3 2 I (Lq I (Ql I) (Lm I (Sb 37 false I (by first|rfl|(rw[hkd];rfl)|exact hT) (Lfa U43 I Z3 I (Lo G3 2 I (Lq I (BS I I I) ?_))))))))))))))))))))))))))))
 refine Lq I (Qz I) (Nk (Sb 41 false I (by first|rfl|(rw[hkd];rfl)|exact hT) (Ab I (Ae (Kt (Cs I (Lfa U43 I Z3 I (Lo G3 2 I (Lq I (Cq ((kOf o).c) G77 Z77 0 I (AY _) (Kv.e6 _)) (Lq I (AN (Ms.c (m0 o)) I I (VT o.kind o.wk (kOf o))) (l_e I (Au I I I zeroValue154 (fun bm=>Ce ms0.c I (l_e I (Ah I I Bi I I (Ms.e6 _) (Ms.one _) (by simp only[Ms.e6];decide) (Ce (Ms.c (m0 o)) (Sep.e7 (by simp only[Ms.e6])) (Ns (Cs I (Lfa U43 I Z3 I (Lo G3 3 I (Lq I (Qe I) (Nk (Sb 50 false I (by first|rfl|(rw[hkd];rfl)|exact hT) (Ab I (Ae (Ks (Cs I (Lfa U43 I Z3 I (Lo G3 3 I (Lq I (Qe I) (Nk (Sb 60 true I (by first|rfl|(rw[hkd];rfl)|exact hT) (Ai I (Cr I (Lfa U43 I Z41 I (Lo G41 3 I ?_))))))))))))))))))))))))))))))))))))
 refine Lfa B7 I Z41 I (l_e I (AF I I Z41 I I I (by rw[Ms.e6];decide) (Ay (Ms.set_by _ _ o.wb) (Nk (Cs I (Lm I (Lq I (Cq (((m0 o).setBy o.by' o.wb).c) Cm Bi 0 I (Bm _) (Ms.e6 _)) ?_)))))))
 have hmo:((m0 o).setBy o.by' o.wb)=mOf o:=by rw[Ry hkd]
 rw[hmo]
 refine l_e I (AX (IE l (mOf o) hs hn hck (E9 o) (by show o.kind=1\/o.kind=2\/o.kind=3;omega)) I I I call70 I (fun _ h=>hl.keep h (by simp)) (fun v _=>Lq I (AN (Ans.c Bx) I I (fun w=>by kernel_rfl)) (Las I (DS (l_e I (Ah I I Z58 I I (Ans.e6 _) (Ans.one _) (by simp only[Ans.e6];decide) (Ce (Ans.c Bx) (Sep.e7 (by simp only[Ans.e6])) (Nk (Af (Pm [0,1,1,1] I (BI I (show Sep.look _ _=some _ from I) (AJ I G58 Z58 (Hat 0 I) (Ans.e6 _)) ?_)))))))))))
 exact fun _ h=>⟨v,rfl,trivial,h.drop.drop.drop.drop⟩
def ca0:Ca:=⟨0,0,⟨0,⟨#[]⟩,⟨#[]⟩,0,by decide,by decide⟩,0,0,Bx⟩
def FM (l:List Ca) (d:List Bool):Bool:=(List.range l.length).all (fun i=>decide ((l.getD i ca0).to'<0)||d.getD i false)
theorem WX {l:List Ca} {x:Ca} (hx:l[i]?=some x) (h1:0<=x.to') (h2:d[i]?=some false):FM l d=false:=by
 unfold FM
 rw[j9]
 refine⟨i,gk.2 (gl.1 hx).1,?_⟩
 rw[ju,ju,hx,h2]
 simp;omega
theorem TG {l:List Ca} (h:∀i x b,i<l.length->l[i]?=some x->d[i]?=some b->x.to'<0\/b=true) (hl:d.length=l.length):FM l d=true:=by
 unfold FM
 rw[iD]
 intro i hi
 have hi:=gk.1 hi
 have h1:=h i _ _ hi (fD hi) (fD (by omega))
 rw[ju,ju,fD hi,fD (show i<d.length by omega)]
 simpa using h1
def Fq (l:List Ca) (d:List Bool) (i:Nat):Bool:=!d.getD i false&&(List.range l.length).all (fun j=>decide (j=i)||d.getD j false||!bef (l.getD j ca0) (l.getD i ca0))
theorem LR {l:List Ca} (h:d[i]?=some true):Fq l d i=false:=by
 unfold Fq
 rw[ju,h];rfl
theorem WY {l:List Ca} {j:Nat} {x y:Ca} (hx:l[i]?=some x) (hy:l[j]?=some y) (hj:j≠i) (hd:d[j]?=some false) (hb:bef y x=true):Fq l d i=false:=by
 unfold Fq
 rw[Bool.and_eq_false_iff]
 right
 rw[j9]
 refine⟨j,gk.2 (gl.1 hy).1,?_⟩
 rw[ju,ju,ju,hx,hy,hd]
 simp[hj,hb]
theorem TH {l:List Ca} {x:Ca} (hx:l[i]?=some x) (hi:d[i]?=some false) (h:∀j y b,j<l.length->l[j]?=some y->d[j]?=some b->j=i\/b=true\/bef y x=false) (hl:d.length=l.length):Fq l d i=true:=by
 unfold Fq
 rw[gQ]
 refine⟨by rw[ju,hi];rfl,?_⟩
 rw[iD]
 intro j hj
 have hj:=gk.1 hj
 have h1:=h j _ _ hj (fD hj) (fD (by omega))
 rw[ju,ju,ju,fD hj,fD (show j<d.length by omega),hx]
 simp only[gq]
 rcases h1 with h1|h1|h1
 · simp[h1]
 · simp[h1]
 · simp[h1]
theorem Qp (l:List Ca) (d:List Bool) (hn:l.length<=1000) (hl:d.length=l.length):Con prog 152 [va,vd] (fun w=>RdV w va Ca.enc l/\RdV w vd Fb d) [] (fun _:Unit=>.bool (FM l d)) (fun _=>True) (fun _=>[]):=by
 intro w hE hH
 refine E0 func152 I hH ?_
 refine Cs I (Ak I (Ag (Cs I (Ak I (Al ?_)))))
 refine Bc (fun (i:Nat)=>[(0,va),(1,vd),(5,.int .i64 (i:Int))]) (fun (i:Nat)=>St w [] []) (fun (i:Nat)=>i<=l.length/\∀j x b,j<i->l[j]?=some x->d[j]?=some b->x.to'<0\/b=true) (fun (i:Nat)=>l.length-i) (0) ⟨gb _,fun j x b h=>absurd h (jy _)⟩ (Si I) Ih (fun i hp=>Ag (Ag ?_))
 obtain⟨hi,hno⟩:=hp
 refine Cr I (Lm I (Lm I (Lq I (AL I U36 I (fun _ h=>hE.1.keep h (by simp[dom]))) (Lq I (Ql I) (Nk ?_)))))
 refine CB 9 I (fun h1=>?_) (fun h1=>?_)
 · obtain⟨xi,hxi⟩:∃x,l[i]?=some x:=⟨_,fD (by omega)⟩
   obtain⟨bi,hdi⟩:∃b,d[i]?=some b:=⟨_,fD (by omega)⟩
   refine Ai I (Ae (Ks (Al (Cs I (Lm I (Lm I (Lq I (As i I U36 Z60 I (fun _ h=>hE.1.keep h (by simp[dom])) I I (by omega)) (Lfa U60 I Z3 I (Lq I (AI i 7 I G3 I I (fun _ h=>hE.1.keep h (by simp[dom])) hxi I) (Lq I (Qg I) (Lm I ?_)))))))))))
   refine CB 18 I (fun h1=>?_) (fun h1=>?_)
   · refine Lm I (Lm I (Lq I (As i I FO Z4 I (fun _ h=>hE.2.keep h (by simp[dom])) I I (by omega)) (Lq I (AI i 0 I G4 I I (fun _ h=>hE.2.keep h (by simp[dom])) hdi I) (Lq I (Qt I) (Lq I (Qy I) (Nk ?_))))))
     refine CB 24 I (fun h2=>?_) (fun h2=>?_)
     · refine Ai I (Cs I (Ak I (Af (Am (Aa (Aa (Am (Aa (An I I ?_)))))))))
       exact fun _ h=>⟨(),congrArg (fun z=>Ending.returned (Value.bool z)) (WX hxi (by omega) (by first|exact hdi|(rw[hdi];congr 1;done)|(rw[hdi];congr 1;simp_all))).symm,trivial,h⟩
     · refine Ab I (Ae (Aw (Kt (Cr I (Lm I (Lq I (Qi I (by omega)) (Las I (AB ?_))))))))
       exact AD (i+1) (by omega) ⟨by omega,fun j x b hj hx hb=>by
        rcases ke.1 hj with h3|rfl
        · exact hno j x b h3 hx hb
        · rw[hxi] at hx;rw[hdi] at hb;cases hx;cases hb;all_goals (first|(left;omega)|(right;simp_all))⟩ (Si I) (fun _ h=>h)
   · refine Lx I (Lx I (Lx I (Lx I (Lx I (Lq I (Qz I) (Nk (Ab I (Ae (Aw (Kt (Cr I (Lm I (Lq I (Qi I (by omega)) (Las I (AB ?_)))))))))))))))
     exact AD (i+1) (by omega) ⟨by omega,fun j x b hj hx hb=>by
      rcases ke.1 hj with h3|rfl
      · exact hno j x b h3 hx hb
      · rw[hxi] at hx;rw[hdi] at hb;cases hx;cases hb;all_goals (first|(left;omega)|(right;simp_all))⟩ (Si I) (fun _ h=>h)
 · refine Ab I (AO (Ac (Ac (Ar (Kt (Cs I (Ak I (Af (An I I ?_)))))))))
   exact fun _ h=>⟨(),congrArg (fun z=>Ending.returned (Value.bool z)) (TG (fun j x b hj=>hno j x b (by omega)) hl).symm,trivial,h⟩
theorem Qq (l:List Ca) (d:List Bool) (i:Nat) (hi:i<l.length) (hn:l.length<=1000) (hl:d.length=l.length):Con prog 154 [va,vd,.int .i64 (i:Int)] (fun w=>RdV w va Ca.enc l/\RdV w vd Fb d) [] (fun _:Unit=>.bool (Fq l d i)) (fun _=>True) (fun _=>[]):=by
 intro w hE hH
 obtain⟨xi,hxi⟩:∃x,l[i]?=some x:=⟨_,fD (by omega)⟩
 obtain⟨bi,hdi⟩:∃b,d[i]?=some b:=⟨_,fD (by omega)⟩
 refine E0 func154 I hH ?_
 refine Cs I (Ak I (Ag (Cs I (Lm I (Lm I (Lq I (As i I FO Z4 I (fun _ h=>hE.2.keep h (by simp[dom])) I I (by omega)) (Lq I (AI i 0 I G4 I I (fun _ h=>hE.2.keep h (by simp[dom])) hdi I) (Nk ?_))))))))
 cases bi
 · refine Sb 11 false I (I) (Ab I (Ae (Ks (Cs I (Ak I (Al ?_))))))
   refine Bc (fun (j:Nat)=>[(0,va),(1,vd),(2,.int .i64 (i:Int)),(7,.int .i64 (j:Int))]) (fun (j:Nat)=>St w [] []) (fun (j:Nat)=>j<=l.length/\∀k y b,k<j->l[k]?=some y->d[k]?=some b->k=i\/b=true\/bef y xi=false) (fun (j:Nat)=>l.length-j) (0) ⟨gb _,fun k y b h=>absurd h (jy _)⟩ (Si I) Ih (fun j hp=>Ag (Ag ?_))
   obtain⟨hj,hno⟩:=hp
   refine Cr I (Lm I (Lm I (Lq I (AL I U36 I (fun _ h=>hE.1.keep h (by simp[dom]))) (Lq I (Ql I) (Nk ?_)))))
   refine CB 15 I (fun h1=>?_) (fun h1=>?_)
   · obtain⟨xj,hxj⟩:∃x,l[j]?=some x:=⟨_,fD (by omega)⟩
     obtain⟨bj,hdj⟩:∃b,d[j]?=some b:=⟨_,fD (by omega)⟩
     refine Ai I (Ae (Ks (Al (Ag (Do8 (rg 21) 9298091736 (fun w2=>RdV w2 va Ca.enc l/\RdV w2 vd Fb d) I St.drawn (fun _ h=>⟨hE.1.keep h (by simp),hE.2.keep h (by simp)⟩) (Dm I (Dm I (Dq I (Qn I) (Dm I ?_)))))))))
     refine CB 21 I (fun h2=>?_) (fun h2=>?_)
     · refine Dm I (Dm I (Dq I (As j I FO Z4 I (fun _ h=>h.2) I I (by omega)) (Dq I (AI j 0 I G4 I I (fun _ h=>h.2) hdj I) (Dq I (Qt I) (Dq I (Qy I) (Dm I ?_))))))
       refine CB 28 I (fun h3=>?_) (fun h3=>?_)
       · refine Dm I (Dm I (Dq I (As j I U36 Z60 I (fun _ h=>h.1) I I (by omega)) (Dq I (AU j I G60 Z60 I I (fun _ h=>h.1) hxj) (Dm I (Dm I (Dq I (As i I U36 Z60 I (fun _ h=>h.1) I I (by omega)) (Dq I (AU i I G60 Z60 I I (fun _ h=>h.1) hxi) (d_t I (E1 (TB xj xi) I call30 Tt (fun _ _=>d_t I (e_q I I (Qy I) (AK (Kt ?_)))))))))))))
         refine CB 38 I (fun h4=>?_) (fun h4=>?_)
         · refine Ai I (Cs I (Ak I (Af (Am (Aa (Aa (Am (Aa (An I I ?_)))))))))
           exact fun _ h=>⟨(),congrArg (fun z=>Ending.returned (Value.bool z)) (WY hxi hxj (by omega) (by first|exact hdj|(rw[hdj];congr 1;done)|(rw[hdj];simp_all)) (by assumption)).symm,trivial,h⟩
         · refine Ab I (Ae (Aw (Kt (Cr I (Lm I (Lq I (Qi I (by omega)) (Las I (AB ?_))))))))
           exact AD (j+1) (by omega) ⟨by omega,fun k y b hk hy hb=>by
            rcases ke.1 hk with h3|rfl
            · exact hno k y b h3 hy hb
            · rw[hxj] at hy;rw[hdj] at hb;cases hy;cases hb;all_goals (first|(left;omega)|(right;left;rfl)|(right;left;assumption)|(right;right;assumption)|(right;simp_all))⟩ (Si I) (fun _ h=>h)
       · refine Dx I (Dx I (Dx I (Dx I (Dx I (Dx I (Dx I (Dx I (Dx I (d_t I (e_q I I (Qz I) (AK (Kt (Ab I (Ae (Aw (Kt (Cr I (Lm I (Lq I (Qi I (by omega)) (Las I (AB ?_)))))))))))))))))))))
         exact AD (j+1) (by omega) ⟨by omega,fun k y b hk hy hb=>by
          rcases ke.1 hk with h3|rfl
          · exact hno k y b h3 hy hb
          · rw[hxj] at hy;rw[hdj] at hb;cases hy;cases hb;all_goals (first|(left;omega)|(right;left;rfl)|(right;left;assumption)|(right;right;assumption)|(right;simp_all))⟩ (Si I) (fun _ h=>h)
     · refine Dx I (Dx I (Dx I (Dx I (Dx I (Dq I (Qz I) (Dm I (Dx I (Dx I (Dx I (Dx I (Dx I (Dx I (Dx I (Dx I (Dx I (d_t I (e_q I I (Qz I) (AK (Kt (Ab I (Ae (Aw (Kt ?_)))))))))))))))))))))))
       refine Cr I (Lm I (Lq I (Qi I (by omega)) (Las I (AB ?_))))
       exact AD (j+1) (by omega) ⟨by omega,fun k y b hk hy hb=>by
        rcases ke.1 hk with h3|rfl
        · exact hno k y b h3 hy hb
        · rw[hxj] at hy;rw[hdj] at hb;cases hy;cases hb;all_goals (first|(left;omega)|(right;left;rfl)|(right;left;assumption)|(right;right;assumption)|(right;simp_all))⟩ (Si I) (fun _ h=>h)
   · refine Ab I (AO (Ac (Ac (Ar (Kt (Cs I (Ak I (Af (An I I ?_)))))))))
     exact fun _ h=>⟨(),congrArg (fun z=>Ending.returned (Value.bool z)) (TH hxi hdi (fun k y b hk=>hno k y b (by omega)) hl).symm,trivial,h⟩
 · refine Sb 11 true I (I) (Ai I (Cs I (Ak I (Af (Aa (An I I ?_))))))
   exact fun _ h=>⟨(),congrArg (fun z=>Ending.returned (Value.bool z)) (LR hdi).symm,trivial,h⟩
def fB (c:Ca):Bool:=decide (0<=c.to')&&(decide (c.a.code=3)||decide (c.a.code=2))
def rDo (l:List En) (o:Opn):List En×Ans:=if BX o=true then (l,⟨2,false,kv0 16⟩) else if o.kind=4 then (l,⟨0,(AS l (kOf o)).2,(AS l (kOf o)).1⟩) else (Bu l (mOf o),Bx)
def LS (a b:Ans):Bool:=decide (a.code=b.code/\a.f=b.f/\a.v=b.v)
def BA (l:List En) (c:Ca):List En×Bool:=if fB c=true then (l,decide (c.a.code=3)||BX c.op) else ((rDo l c.op).1,decide (c.to'<0)||LS (rDo l c.op).2 c.a)
theorem Ca.op_part (e:Ca):(e.c.drop 2).take 4=e.op.c:=by
 unfold Ca.c;rfl
section
variable {n:Nat} {L:Env} {X:World->Prop} {o:Oper}
theorem KC {u:TypeId} {x y:Operand} (a b:Ans) (ho:o.op=.binOp .eql 58 x y u) (hx:ev L x=some (.agg a.c.toArray)) (hy:ev L y=some (.agg b.c.toArray)) (ha:(Lit.int .i64 a.code).wf=true:=by first|assumption|decide|(show (Lit.int .i64 0).wf=true;decide)) (hb:(Lit.int .i64 b.code).wf=true:=by first|assumption|decide|(show (Lit.int .i64 0).wf=true;decide)):QOp prog n L X o (.bool (LS a b)) :=
 Jh (d:=4) (ks:=Ans.ks) _ (by kernel_rfl) (by kernel_rfl) (by decide) (by kernel_rfl) (by kernel_rfl) (by kernel_rfl) ho hx hy (Ans.kinds ha) (Ans.kinds hb) (by rw[Ans.c_inj];unfold LS;rw[ia])
end
theorem cd {c:Ca} (h:¬0<=c.to'):false=fB c:=by unfold fB;rw[jo h];rfl
theorem cg {c:Ca} (h:0<=c.to') (h2:c.a.code=3):true=fB c:=by unfold fB;rw[jq h,jq h2];rfl
theorem cj {c:Ca} (h:0<=c.to') (h2:¬c.a.code=3):decide (c.a.code=2)=fB c:=by unfold fB;rw[jq h,jo h2];rfl
theorem Ds (c:Ca):Con prog 63 [.agg c.c.toArray] (fun _=>True) [] (fun _:Unit=>.bool (fB c)) (fun _=>True) (fun _=>[]):=by
 intro w hE hH
 refine E0 func63 I hH ?_
 refine Cs I (l_e I (AQ I I I I (fun bc=>Ce c.c I (Ak I (Cs I (Lfa U60 I Z3 I (Lo G3 0 I (Lq I (Qg I) (Lm I ?_)))))))))
 refine CB 6 I (fun h1=>?_) (fun h1=>?_)
 · refine Lfa U60 I Z58 I (Lfa U58 I Z44 I (Lo G44 0 I (Lq I (Qe I) (Lm I ?_))))
   refine CB 11 I (fun h2=>?_) (fun h2=>?_)
   · refine Lx I (Lx I (Lx I (Lx I (Lq I (Qy I) (Lq I (Qy I) (Ak I (Af (An I I ?_))))))))
     exact fun _ h=>⟨(),congrArg (fun z=>Ending.returned (Value.bool z)) (by first|exact cd (by omega)|exact cg (by omega) (by omega)|exact cj (by omega) (by omega)),trivial,h.e8⟩
   · refine Lfa U60 I Z58 I (Lfa U58 I Z44 I (Lo G44 0 I (Lq I (Qe I) (Lq I (Qz I) (Lq I (Qy I) (Ak I (Af (An I I ?_))))))))
     exact fun _ h=>⟨(),congrArg (fun z=>Ending.returned (Value.bool z)) (by first|exact cd (by omega)|exact cg (by omega) (by omega)|exact cj (by omega) (by omega)),trivial,h.e8⟩
 · refine Lx I (Lx I (Lx I (Lx I (Lx I (Lx I (Lx I (Lx I (Lx I (Lx I (Lq I (Qz I) (Ak I (Af (An I I ?_)))))))))))))
   exact fun _ h=>⟨(),congrArg (fun z=>Ending.returned (Value.bool z)) (by first|exact cd (by omega)|exact cg (by omega) (by omega)|exact cj (by omega) (by omega)),trivial,h.e8⟩
theorem WZ {l:List En} {c:Ca} (h:fB c=true):BA l c=(l,decide (c.a.code=3)||BX c.op):=by unfold BA;rw[fO h]
theorem Fs {l:List En} {c:Ca} {q:List En×Ans} (h:fB c=false) (hq:rDo l c.op=q):BA l c=(q.1,decide (c.to'<0)||LS q.2 c.a):=by unfold BA;rw[fR (by rw[h];decide),hq]
theorem Qr {l:List En} (h:BX o=true):rDo l o=(l,⟨2,false,kv0 16⟩):=by unfold rDo;rw[fO h]
theorem MW {l:List En} (h:BX o=false) (hk:o.kind=4):rDo l o=(l,⟨0,(AS l (kOf o)).2,(AS l (kOf o)).1⟩):=by unfold rDo;rw[fR (by rw[h];decide),fO hk]
theorem D9 {l:List En} (h:BX o=false) (hk:o.kind≠4):rDo l o=(Bu l (mOf o),Bx):=by unfold rDo;rw[fR (by rw[h];decide),fR hk]
theorem Jc (h:a=true):true=(a||b):=by rw[h];rfl
theorem Jd (h:a=false):b=(a||b):=by rw[h];rfl
theorem Qs (l:List En) (c:Ca) (hs:B8 l) (hn:l.length<=1000) (hF:fB c=true):Con prog 22 [va,.agg c.c.toArray] (fun w=>RdV w va En.enc l) [] (fun _:Unit=>.tuple #[va,.bool (BA l c).2]) (fun _=>True) (fun _=>[]):=by
 intro w hl hH
 refine E0 func22 I hH ?_
 refine Cs I (l_e I (AQ I I I I (fun bc=>Ce c.c I (Las I (Ak I (Ag (Cs I (Lq I (Cq (c.c) G60 Z60 0 I (fZ (by rw[fV,Ca.e6];decide)) (Ca.e6 _)) (l_e I (E1 (Ds c) I call63 Tt (fun _ _=>Nk (Sb 9 true I (hF) (Ai I (Cs I (Lm I (Lfa U60 I Z58 I (Lfa U58 I Z44 I (Lo G44 0 I (Lq I (Qe I) (Lm I ?_))))))))))))))))))))
 refine CB 15 I (fun h1=>?_) (fun h1=>?_)
 · refine Lx I (Lx I (Lx I (Lq I (Qy I) (Las I (Ak I (Af (Aa (Be (rs:=[.tmp 4,.tmp 5]) I I ?_))))))))
   exact fun _ h=>⟨(),by rw[WZ hF];exact congrArg (fun z=>Ending.returned (Value.tuple #[va,.bool z])) (by first|exact Jc (by first|assumption|exact jq (by omega))|exact Jd (by first|assumption|exact jo (by omega))),trivial,h.e8⟩
 · refine Lfa U60 I Z43 I (Lq I (Cq (c.op.c) G43 Z43 0 I (Ca.op_part _) (I)) (l_e I (E1 (DN c.op) I call64 Tt (fun _ _=>Lq I (Qz I) (Las I (Ak I (Af (Aa (Be (rs:=[.tmp 4,.tmp 5]) I I ?_)))))))))
   exact fun _ h=>⟨(),by rw[WZ hF];exact congrArg (fun z=>Ending.returned (Value.tuple #[va,.bool z])) (by first|exact Jc (by first|assumption|exact jq (by omega))|exact Jd (by first|assumption|exact jo (by omega))),trivial,h.e8⟩
theorem TI (l:List En) (c:Ca) (hs:B8 l) (hn:l.length<=1000) (hw:(Lit.int .i64 c.a.code).wf=true) (hF:fB c=false) (hT:BX c.op=true):Con prog 22 [va,.agg c.c.toArray] (fun w=>RdV w va En.enc l) [] (fun _:Unit=>.tuple #[va,.bool (BA l c).2]) (fun _=>True) (fun _=>[]):=by
 intro w hl hH
 refine E0 func22 I hH ?_
 refine Cs I (l_e I (AQ I I I I (fun bc=>Ce c.c I (Las I (Ak I (Ag (Cs I (Lq I (Cq (c.c) G60 Z60 0 I (fZ (by rw[fV,Ca.e6];decide)) (Ca.e6 _)) (l_e I (E1 (Ds c) I call63 Tt (fun _ _=>Nk (Sb 9 false I (hF) (Ab I (Ae (Kt (Cs I (Lm I (Lfa U60 I Z43 I (Lq I (Cq (c.op.c) G43 Z43 0 I (Ca.op_part _) (I)) (l_e I (E1 (YT l c.op hs hn hT) I call33 (fun _ h=>hl.keep h (by simp)) (fun _ _=>Lm I (Lq I (Qx I) (Lq I (Qx I) (l_e I (Au I I I zeroValue58 (fun ba=>Ce (Ans.c Bx) I (Las I (l_e I (Ah I I Z58 I I (Ans.e6 _) (Ans.one _) (by simp only[Ans.e6];decide) (Ce (Ans.c (⟨2,false,kv0 16⟩:Ans)) (Sep.e7 (by simp only[Ans.e6])) (Ns (Do8 (rg 12) 354294 _ I St.drawn Ih (Dm I (Dfa U60 I Z3 I (Dq I (Ao I G3 I (Hat 1 I) I) (Dq I (Ql I) (Dm I ?_))))))))))))))))))))))))))))))))))))))
 refine CB 31 I (fun h2=>?_) (fun h2=>?_)
 · refine Dx I (Dx I (Dx I (Dx I (Dq I (Qy I) (Das I (d_t I (e_q I I (AE I I) (AK (Kt (Af (Be (rs:=[.tmp 4,.tmp 5]) I I ?_)))))))))))
   exact fun _ h=>⟨(),by rw[Fs hF (Qr hT)];exact congrArg (fun z=>Ending.returned (Value.tuple #[va,.bool z])) (by first|exact Jc (jq (by omega))|exact Jd (jo (by omega))),trivial,h.e8⟩
 · refine Dq I (Cq (Ans.c (⟨2,false,kv0 16⟩:Ans)) G58 Z58 0 I (fZ (by rw[fV,Ans.e6];decide)) (Ans.e6 _)) (Dfa U60 I Z58 I (Dq I (Cq (c.a.c) G58 Z58 1 I (Ca.a_part _) (Ans.e6 _)) (Dq I (KC ((⟨2,false,kv0 16⟩:Ans)) (c.a) I I I) (Dq I (Qz I) (Das I (d_t I (e_q I I (AE I I) (AK (Kt (Af (Be (rs:=[.tmp 4,.tmp 5]) I I ?_)))))))))))
   exact fun _ h=>⟨(),by rw[Fs hF (Qr hT)];exact congrArg (fun z=>Ending.returned (Value.tuple #[va,.bool z])) (by first|exact Jc (jq (by omega))|exact Jd (jo (by omega))),trivial,h.e8⟩
end Go.Proofs.YtloldofjddbjoaaGreat
