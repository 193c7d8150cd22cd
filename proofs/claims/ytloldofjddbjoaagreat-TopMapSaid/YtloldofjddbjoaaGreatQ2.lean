/- Part 2 of the proof: texts of my own, laid behind one another. No condition. -/
import Derived.Test.YtloldofjddbjoaaGreatQ1
set_option linter.unusedVariables false
set_option linter.unusedSimpArgs false
namespace Go.Sep
end Go.Sep
namespace Go.Proofs.YtloldofjddbjoaaGreat
open Tryz
abbrev U77:=@underlying77
abbrev Z3:=@sizeOf3
abbrev G3:=@isAgg3
abbrev Z77:=@sizeOf77
abbrev Z75:=@sizeOf75
abbrev U75:=@underlying75
abbrev Z5:=@sizeOf5
abbrev U23:=@underlying23
abbrev G77:=@isAgg77
abbrev U9:=@underlying9
abbrev U5:=@underlying5
abbrev B8:=@underlying154
abbrev Z56:=@sizeOf56
abbrev G56:=@isAgg56
abbrev Z41:=@sizeOf41
abbrev G41:=@isAgg41
abbrev Cm:=@isAgg154
abbrev Bl:=@sizeOf154
abbrev U56:=@underlying56
abbrev U22:=@underlying22
abbrev Kh:=@underlying277
abbrev Fj:=@underlying255
abbrev ER:=@sizeOf277
abbrev Ny:=@isAgg277
abbrev U49:=@underlying49
abbrev Z79:=@sizeOf79
abbrev FJ:=@underlying132
abbrev BO:=@underlying133
abbrev U3:=@underlying3
abbrev Db:=@underlying257
abbrev U89:=@underlying89
abbrev Gg:=@sizeOf253
abbrev G2:=@isAgg253
abbrev FK:=@underlying253
abbrev E5:=@sizeOf259
abbrev EG:=@underlying259
abbrev IM:=@sizeOf255
abbrev Nz:=@isAgg255
abbrev Ul:=@sizeOf254
abbrev Q9:=@underlying254
abbrev L0:=@underlying379
abbrev Cu:=@underlying135
abbrev Z49:=@sizeOf49
abbrev G49:=@isAgg49
abbrev Z22:=@sizeOf22
abbrev G22:=@isAgg22
abbrev NA:=@sizeOf132
abbrev Ra:=@isAgg132
abbrev Hs:=@sizeOf133
abbrev IN:=@isAgg133
abbrev Bx:=@isAgg135
abbrev AU:=@sizeOf135
abbrev Ht:=@underlying284
abbrev Z4:=@sizeOf4
abbrev G4:=@isAgg4
abbrev Wf:=@underlying198
abbrev Rb:=@underlying324
abbrev U79:=@underlying79
abbrev G79:=@isAgg79
abbrev OV:=@underlying365
abbrev OW:=@underlying366
abbrev JK:=@underlying363
abbrev L3:=@isAgg361
abbrev G5:=@isAgg5
abbrev Wg:=@underlying270
abbrev NB:=@underlying161
abbrev Um:=@sizeOf159
abbrev Gh:=@underlying159
abbrev Wh:=@underlying158
abbrev Un:=@underlying241
abbrev Eh:=@underlying200
abbrev G6:=@sizeOf241
abbrev D4:=@underlying275
abbrev G7:=@sizeOf200
abbrev L4:=@isAgg200
abbrev U91:=@underlying91
abbrev Z87:=@sizeOf87
abbrev Z86:=@sizeOf86
abbrev G86:=@isAgg86
abbrev Z88:=@sizeOf88
abbrev U88:=@underlying88
abbrev BF:=@underlying226
abbrev BX:=@underlying229
abbrev Rc:=@sizeOf177
abbrev Z44:=@sizeOf44
abbrev Dx:=@underlying249
abbrev G44:=@isAgg44
abbrev Dj:=@underlying125
abbrev G8:=@sizeOf122
abbrev JL:=@isAgg122
abbrev NC:=@underlying122
abbrev Gp:=@sizeOf123
abbrev ND:=@isAgg123
abbrev Uo:=@underlying123
abbrev Z40:=@sizeOf40
abbrev G40:=@isAgg40
abbrev U40:=@underlying40
abbrev Cn:=@underlying100
abbrev Z34:=@sizeOf34
abbrev G58:=@isAgg58
abbrev Z58:=@sizeOf58
abbrev U34:=@underlying34
abbrev Z71:=@sizeOf71
abbrev Z43:=@sizeOf43
abbrev G43:=@isAgg43
abbrev U43:=@underlying43
abbrev Z9:=@sizeOf9
abbrev G9:=@isAgg9
abbrev Z47:=@sizeOf47
abbrev G47:=@isAgg47
abbrev Hu:=@underlying171
abbrev OX:=@sizeOf169
abbrev OY:=@underlying169
abbrev Z98:=@sizeOf98
abbrev G98:=@isAgg98
abbrev U98:=@underlying98
abbrev Hv:=@sizeOf102
abbrev JM:=@isAgg102
abbrev IP:=@underlying103
abbrev ZT:=@underlying108
abbrev Z97:=@sizeOf97
abbrev G97:=@isAgg97
abbrev U25:=@underlying25
abbrev U27:=@underlying27
abbrev Z25:=@sizeOf25
abbrev G25:=@isAgg25
abbrev G27:=@isAgg27
abbrev Z27:=@sizeOf27
abbrev ZU:=@underlying202
abbrev U24:=@underlying24
abbrev U58:=@underlying58
abbrev U60:=@underlying60
abbrev U71:=@underlying71
abbrev U36:=@underlying36
abbrev Z60:=@sizeOf60
abbrev G60:=@isAgg60
abbrev NF:=@underlying196
abbrev Up:=@sizeOf194
abbrev Uq:=@underlying194
end Go.Proofs.YtloldofjddbjoaaGreat
set_option maxHeartbeats 8000000
set_option maxRecDepth 100000
namespace Go.Proofs.YtloldofjddbjoaaGreat
open Go.Sep Go.RowKit Tryz
theorem EA:Tryz.prog.info? 3=some Tryz.t3:=by kernel_rfl
theorem eH:Tryz.t3.bytes=8:=rfl
theorem SN:Tryz.prog.info? 4=some Tryz.t4:=by kernel_rfl
theorem eI:Tryz.t4.bytes=1:=rfl
theorem Ju:Tryz.prog.info? 5=some Tryz.t5:=by kernel_rfl
theorem Ur:Tryz.t5.bytes=1:=rfl
theorem Wi:Tryz.prog.info? 40=some Tryz.t40:=by kernel_rfl
theorem iw:Tryz.t40.bytes=24:=rfl
theorem Ki:Tryz.prog.info? 43=some Tryz.t43:=by kernel_rfl
theorem eJ:Tryz.prog.info? 60=some Tryz.t60:=by kernel_rfl
theorem Re:Tryz.prog.info? 71=some Tryz.t71:=by kernel_rfl
theorem eK:Tryz.prog.info? 77=some Tryz.t77:=by kernel_rfl
theorem CK:Tryz.prog.info? 79=some Tryz.t79:=by kernel_rfl
theorem Gq:Tryz.t79.bytes=40:=rfl
theorem NG:Tryz.prog.info? 102=some Tryz.t102:=by kernel_rfl
theorem Dy:Tryz.prog.info? 154=some Tryz.t154:=by kernel_rfl
theorem EH:Tryz.t154.bytes=64:=rfl
theorem ZV:Tryz.prog.info? 202=some Tryz.t202:=by kernel_rfl
theorem ZW:Tryz.prog.info? 203=some Tryz.t203:=by kernel_rfl
theorem NH:Tryz.prog.info? 241=some Tryz.t241:=by kernel_rfl
theorem ZX:Tryz.prog.info? 259=some Tryz.t259:=by kernel_rfl
theorem SO:Tryz.prog.info? 277=some Tryz.t277:=by kernel_rfl
theorem SP:Tryz.prog.info? 279=some Tryz.t279:=by kernel_rfl
theorem Wj:Tryz.t279.bytes=256:=rfl
theorem ZY:Tryz.prog.info? 284=some Tryz.t284:=by kernel_rfl
theorem ZZ:Tryz.prog.info? 320=some Tryz.t320:=by kernel_rfl
theorem eN:Tryz.t320.bytes=32:=rfl
end Go.Proofs.YtloldofjddbjoaaGreat
namespace Go.Sep
open Go.RowKit Go.Proofs.YtloldofjddbjoaaGreat
section
variable {P:Program} {n:Nat} {L:Env} {X:World->Prop} {fn:Func} {R:Ending->World->Prop}
def H7 (P:Program) (L:Env) (X:World->Prop):ResultVar->Value->Prop
 |.tmp t,v=>look L t=some v
 |.cell x t,v=>∃p,look L x=some (.pointer (some p))/\∀w,X w->(loadVar t p).run P w=.ok v w
theorem DR {a:Act} {w:World} (k:Know n L a) (x:X w):∀{r:ResultVar} {v:Value},H7 P L X r v->(Hn a.tmps r).run P w=.ok v w
 |.tmp t,v,h=>by
  have:=k.get t v h
  simp[Hn,nc,this]
 |.cell y t,v,⟨p,hp,hl⟩=>by
  have:=k.get y _ hp
  simp[Hn,nc,this,asAddr,hl w x]
theorem Hw (fn:Func) (tmps:Array Value):results fn tmps=(do let vs<-fn.results.mapM (Hn tmps); pure (if h:vs.size=1 then vs[0] else .tuple vs)):=rfl
theorem CJ {r:ResultVar} {v:Value} (hr:fn.results=#[r]) (h:H7 P L X r v) (hR:∀w,X w->R (.returned v) w):Pre n L X (bodyPost P fn R .ret):=λa w k x =>
 ⟨k.defers,v,by rw[Hw,hr]; simp[DR k x h],hR w x⟩
theorem BM {r r':ResultVar} {u v:Value} (hr:fn.results=#[r,r']) (h1:H7 P L X r u) (h2:H7 P L X r' v) (hR:∀w,X w->R (.returned (.tuple #[u,v])) w):Pre n L X (bodyPost P fn R .ret):=λa w k x =>
 ⟨k.defers,_,by rw[Hw,hr]; simp[DR k x h1,DR k x h2],hR w x⟩
theorem AK {x b sz:Nat} {t T:TypeId} {cs:List Value} (hx:look L x=some (pV b)) (hg:∀w,(isAgg t).run P w=.ok true w) (hz:∀w,(sizeOf t).run P w=.ok sz w) (hr:∀w,X w->(Ad b T cs).at w) (hl:cs.length=sz):H7 P L X (.cell x t) (.agg cs.toArray) :=
 ⟨_,hx,λw hX=>by
  have:=Er (P:=P) b 0 w sz 0 cs #[] hl (λj v hj=>by rw[me,me]; exact DT (hr w hX) hj)
  simp[loadVar,hg,hz,loadCells,this]⟩
end
section
variable {P:Program} {n:Nat} {L:Env} {X:World->Prop} {o:Oper} {Q:Exit->Act->World->Prop} {K:Act->World->Prop}
variable {w0:World} {D:List Nat} {H:List Ent} {α:Type} {E:Enc α} {l:List α} {v:Value}
theorem Rf {w:World} {m:Nat} (h:RdV w v E l) (hm:m<=l.length):(Builtin.firstCells E.sz m v).run P w=.ok (E.flat (l.take m)).toArray w:=by
 obtain⟨a,c,rfl,hc,h⟩:=h
 have h':RdV w (.slice a (l.take m).length c) E (l.take m):=⟨a,c,rfl,by rw[k9]; omega,by
  rcases h with rfl|⟨b,off,rfl,h⟩
  .exact .inl (by simp)
  .refine .inr ⟨b,off,rfl,λk u hk=>h k u ?_⟩
   rw[<-E.flat_take,lr] at hk
   split at hk
   .exact hk
   .cases hk⟩
 have:=Eg (P:=P) h'
 rw[k9,mE hm] at this
 cases a<;>exact this
theorem OZ {t tx e ty:TypeId} {x:Value} {b off dn dc:Nat} {T:TypeId} {cs:List Value} {w:World} (ht:P.underlying t=some (.slice e)) (hz:∀w,(sizeOf e).run P w=.ok E.sz w) (h:St w0 D (Ad b T cs::H) w) (hx:RdV w x E l) (hfit:off+min l.length dn*E.sz<=cs.length) :
 ∃w',(Builtin.copy_ #[t,tx] ty #[.slice (some ⟨b,off,none⟩) dn dc,x]).run P w=.ok (.int .i64 (min l.length dn:Nat)) w'/\St w0 D (Ad b T (splice cs off (E.flat (l.take (min l.length dn))))::H) w':=by
 have hf:=Rf (P:=P) hx (Nat.min_le_left l.length dn)
 have hl:=IK (P:=P) hx
 have hlen:(E.flat (l.take (min l.length dn))).length=min l.length dn*E.sz:=by rw[E.kB,k9,mE (Nat.min_le_left ..)]
 obtain⟨w',hr,h'⟩:=B6 (P:=P) (off:=off) (E.flat (l.take (min l.length dn))) _ 0 h (by omega) (λu hu=>E.flat_one _ u hu)
 refine⟨w',?_,by simpa using h'⟩
 have hmin:Nat.min l.length dn=min l.length dn:=rfl
 simp[Builtin.copy_,AW ht,hl,hz,hmin,hf,hr,goInt]
theorem Rg {t tx e:TypeId} {x y:Operand} {xv:Value} {b off dn dc:Nat} {T:TypeId} {cs:List Value} {d:Nat} (ho:o.op=.call ⟨.builtin .copy,#[y,x],#[t,tx]⟩) (hd:o.dst=some d) (hnn:d.blt n) (ht:P.underlying t=some (.slice e)) (hz:∀w,(sizeOf e).run P w=.ok E.sz w)
 (hy:ev L y=some (.slice (some ⟨b,off,none⟩) dn dc)) (hxv:ev L x=some xv) (hx:∀w,St w0 D (Ad b T cs::H) w->RdV w xv E l) (hfit:off+min l.length dn*E.sz<=cs.length)
 (h:Pre n ((d,.int .i64 (min l.length dn:Nat))::L) (St w0 D (Ad b T (splice cs off (E.flat (l.take (min l.length dn))))::H)) K):EOp P n L (St w0 D (Ad b T cs::H)) o Q K :=
 EOp.val (β:=Unit) (λ_=>.int .i64 (min l.length dn:Nat)) Tr (λ_=>St w0 D (Ad b T (splice cs off (E.flat (l.take (min l.length dn))))::H)) hd hnn (λa w kn hX=>by
  obtain⟨w',hr,h'⟩:=OZ (P:=P) (ty:=o.type) (tx:=tx) (dc:=dc) ht hz hX (hx w hX) hfit
  exact⟨(),w',by simp[execOp,ho,resolve,invoke,builtin,kn.eval hy,kn.eval hxv,hr],T0,h'⟩) (λ_ _=>h)
theorem JT {w:World} {b off k c:Nat} {T:TypeId} {cs:List Value} (h:(Ad b T cs).at w) (E:Enc α) (l:List α) (hk:l.length=k) (hc:k<=c) (hf:(cs.drop off).take (k*E.sz)=E.flat l):RdV w (.slice (some ⟨b,off,none⟩) k c) E l:=by
 subst hk
 refine⟨_,c,rfl,hc,.inr ⟨b,off,rfl,λj u hj=>DT h ?_⟩⟩
 rw[<-hf,lr] at hj
 split at hj
 .rwa[ly] at hj
 .cases hj
theorem O0 {t:TypeId} {x i:Operand} {s:ByteArray} {k:IntKind} {p:Int} (j:Nat) (b:UInt8) (ho:o.op=.index t x i) (ht:P.underlying t=some .string) (hx:ev L x=some (.string s)) (hi:ev L i=some (.int k p)) (hp:p=(j:Int)) (hb:s[j]?=some b):QOp P n L X o (.int .u8 (b.toNat:Int)) :=
 QOp.mk (λa=>Instr.index t (a.eval x) (a.eval i)) (λa=>by simp[execOp,ho]) (λa w hk _=>by
  subst hp
  rw[hk.eval hx,hk.eval hi]
  simp[Instr.index,asIntOf,AW ht,hb])
theorem Us {t:TypeId} {x hi:Operand} {s:ByteArray} {k:IntKind} {zh:Int} (h:Nat) (ho:o.op=.slice t x none (some hi) none) (ht:P.underlying t=some .string) (hx:ev L x=some (.string s)) (hhi:ev L hi=some (.int k zh)) (eh:zh=(h:Int)) (h2:h<=s.size):QOp P n L X o (.string (s.extract 0 h)) :=
 QOp.mk (λa=>Instr.sliceAt t (a.eval x) none (some (a.eval hi)) none) (λa=>by simp[execOp,ho]) (λa w hk _=>by
  subst eh
  rw[hk.eval hx,hk.eval hhi]
  have hb:(Instr.sliceBound (.int k (h:Int)) s.size .sliceAlen).run P w=.ok h w:=CG w rfl h2
  simp only[Instr.sliceAt,Instr.slice,Instr.sliceBounds,l5,AW ht,l7,l6]
  simp[hb])
theorem E6 {l:List Int} {r t e:TypeId} {x:Operand} (ho:o.op=.convert r t x) (hs:P.underlying r=some (.slice e)) (he:P.underlying e=some (.int .u8)) (ht:P.underlying t=some .string) (hx:ev L x=some v) (hr:∀w,X w->RdV w v (AH .u8) l):QOp P n L X o (.string (strOfNums l)):=λa w hk hX=>by
 obtain⟨ad,c,rfl,hc,h⟩:=hr w hX
 have hrun:(convert r t (.slice ad l.length c)).run P w=.ok (.string (strOfNums l)) w:=by
  rcases h with rfl|⟨b,off,rfl,h⟩
  .cases ad with
   |none=>exact run_convert_bytes_nil w r e hs he 0 c t ht
   |some p=>simp[convert,AW hs,AW ht,AW he,Conv.bytesToString,loadCells,loadCellsFrom,strOfNums]; rfl
  .exact run_convert_bytes_arg w r e hs he b off l.length c l rfl (λi hi=>by
    refine h i _ ?_
    have:=(AH .u8).flat_get l i 0 (l.getD i 0) (.int .u8 (l.getD i 0)) (by simp[om,hi]) rfl
    have e1:(AH .u8).sz=1:=rfl
    rw[e1,oq,nB] at this
    exact this) t ht
 have:=QOp.mk (P:=P) (n:=n) (L:=L) (X:=λw'=>w'=w) (o:=o) (v:=.string (strOfNums l)) (λa=>convert r t (a.eval x)) (λa=>by simp[execOp,ho]) (λa w' hk hw=>by subst hw; rw[hk.eval hx]; exact hrun)
 exact this a w hk rfl
theorem Mr {w:World} {d:Nat} {t:TypeId} {ks:List Sc} {xs ys:List Value} {b:Bool} (hf:flat P d t=some ks) (hk:P.keyTypeAt d t) (hd:d.ble 10000) (hc:P.cellsOf t=ks.length)
 (ha:(match P.underlying t with|some (.struct _)|some (.array _ _)=>true|_=>false)=true) (hx:Kinds ks xs) (hy:Kinds ks ys) (hb:xs=ys↔b=true):(Op.equal t (.agg xs.toArray) (.agg ys.toArray)).run P w=.ok b w:=by
 obtain⟨r,h1,h2⟩:=Gj (P:=P) (w:=w) (n:=d) (t:=t) (ks:=ks) (xs:=xs.toArray) (ys:=ys.toArray) hf hk (ng hd) hc ha hx hy
 have hr:r=b:=by
  rw[mR,h2,<-hb]
  exact⟨λh=>by simpa using h,λh=>by rw[h]⟩
 rw[<-hr]; exact h1
theorem JU {t u:TypeId} {x y:Operand} {d:Nat} {ks:List Sc} {xs ys:List Value} (b:Bool) (hf:flat P d t=some ks) (hk:P.keyTypeAt d t) (hd:d.ble 10000) (hc:P.cellsOf t=ks.length)
 (ha:(match P.underlying t with|some (.struct _)|some (.array _ _)=>true|_=>false)=true) (hm:P.eqGuardType P.depth t=false) (ho:o.op=.binOp .eql t x y u) (hx:ev L x=some (.agg xs.toArray)) (hy:ev L y=some (.agg ys.toArray)) (kx:Kinds ks xs) (ky:Kinds ks ys) (hb:xs=ys↔b=true):QOp P n L X o (.bool b) :=
 CV ho hx hy (λw _=>D1 (run_eqGuard_agg (w:=w) .eql t x y _ _ hm) (Nq w rfl (Mr hf hk hd hc ha kx ky hb)))
theorem NI {t u:TypeId} {x y:Operand} {d:Nat} {ks:List Sc} {xs ys:List Value} (b:Bool) (hf:flat P d t=some ks) (hk:P.keyTypeAt d t) (hd:d.ble 10000) (hc:P.cellsOf t=ks.length)
 (ha:(match P.underlying t with|some (.struct _)|some (.array _ _)=>true|_=>false)=true) (hm:P.eqGuardType P.depth t=false) (ho:o.op=.binOp .neq t x y u) (hx:ev L x=some (.agg xs.toArray)) (hy:ev L y=some (.agg ys.toArray)) (kx:Kinds ks xs) (ky:Kinds ks ys) (hb:xs=ys↔b=true):QOp P n L X o (.bool (!b)) :=
 CV ho hx hy (λw _=>D1 (run_eqGuard_agg (w:=w) .neq t x y _ _ hm) (Q5 w rfl (Mr hf hk hd hc ha kx ky hb)))
end
theorem Hx {P:Program} {f:FuncId} {vs:List Value} {v:Value} {E:World->Prop} (h:∀w,E w->Calls P f vs.toArray w (λe w'=>e=.returned v/\Go.RowKit.Below w.heap.size w w')):Con P f vs E [] (λ_:Unit=>v) Tr (λ_=>[]):=λw hE hH =>
 (h w hE).mono (λe w' ⟨he,hb⟩=>⟨(),he,T0,⟨HP.nil w',λb hb'=>(by cases hb'),⟨hb.os,hb.tape,hb.output,hb.size,λb hb' _=>hb.block b hb'⟩⟩⟩)
theorem ku {cs vs:List Value} (h:vs.length=cs.length):splice cs 0 vs=vs:=by
 rw[splice_eq _ _ _ (by omega)]; simp[h]
theorem splice_mid {a b c vs:List Value} {k:Nat} (ha:a.length=k) (h:vs.length=b.length):splice (a++(b++c)) k vs=a++(vs++c):=by
 subst ha
 rw[splice_eq _ _ _ (by simp[h]),nQ]
 rw[h,<-lp,<-mj,List.drop_left,mj]
theorem O1 {a b c:List Value} {k m:Nat} (ha:a.length=k) (hb:b.length=m):((a++(b++c)).drop k).take m=b:=by
 subst ha; subst hb
 rw[List.drop_left,nQ]
structure Kv (m:Nat) where
 n:Int
 b:List Int
 len:b.length=m
 wn:(Lit.int .i64 n).wf=true
 wb:∀x∈b,(Lit.int .u8 x).wf=true
namespace Kv
variable {m:Nat}
def c (k:Kv m):List Value:=.int .i64 k.n::k.b.map (.int .u8)
theorem ext' {k j:Kv m} (hn:k.n=j.n) (hb:k.b=j.b):k=j:=by
 cases k; cases j; simp only at hn hb; subst hn; subst hb; rfl
instance:DecidableEq (Kv m):=λk j=>if h:k.n=j.n/\k.b=j.b then isTrue (ext' h.1 h.2) else isFalse (λe=>h (by subst e; exact⟨rfl,rfl⟩))
theorem ko (k:Kv m):k.c.length=m+1:=by simp[c,k.len]
theorem SQ {α:Type} {f:α->Value} (hf:∀a b,f a=f b->a=b):∀{xs ys:List α},xs.map f=ys.map f->xs=ys
 |[],[],_=>rfl
 |[],y::ys,h=>by simp at h
 |x::xs,[],h=>by simp at h
 |x::xs,y::ys,h=>by
  simp only[ma,List.cons.injEq] at h
  rw[hf _ _ h.1,SQ hf h.2]
theorem c_inj {k j:Kv m}:k.c=j.c↔k=j:=by
 refine⟨λh=>?_,λh=>by rw[h]⟩
 simp only[c,List.cons.injEq,Value.int.injEq,true_and] at h
 exact ext' h.1 (SQ (λa b e=>by simpa using e) h.2)
def ks (m:Nat):List Sc:=Sc.i .i64::List.replicate m (Sc.i .u8)
theorem kinds (k:Kv m):Kinds (ks m) k.c:=by
 refine⟨by simp[ks,c,k.len],λj q v h1 h2=>?_⟩
 cases j with
 |zero=>simp[ks,c] at h1 h2; subst h1 h2; exact⟨k.n,rfl,k.wn⟩
 |succ j =>
  simp only[ks,mN,mO] at h1
  split at h1
  .simp only[Option.some.injEq] at h1
   subst h1
   simp only[c,mN,lS,mP] at h2
   obtain⟨z,hz,rfl⟩:=h2
   exact⟨z,rfl,k.wb z (mQ hz)⟩
  .simp at h1
theorem one (k:Kv m):∀v∈k.c,v.oneCell'=true:=by
 intro v hv
 rcases kN.1 hv with rfl|hv
 .rfl
 .obtain⟨z,_,rfl⟩:=lP.1 hv; rfl
theorem eqb {k j:Kv m}:k.c=j.c↔decide (k=j)=true:=by rw[c_inj,mS]
def enc (m:Nat):Enc (Kv m):={sz:=m+1,f:=Kv.c,len:=ko,pos:=by omega,one:=one}
end Kv
open Go.RowKit
section
variable {P:Program} {n:Nat} {L:Env} {X:World->Prop} {o:Oper} {Q:Exit->Act->World->Prop} {K:Act->World->Prop}
variable {w0:World} {D:List Nat} {H:List Ent} {α:Type} {E:Enc α} {l:List α} {v:Value}
theorem Rh {w:World} {sa:Option Addr} {sc:Nat} {m:List α} (h:RdV w (.slice sa m.length sc) E m) (sl' sc':Nat):(Builtin.firstCells E.sz m.length (.slice sa sl' sc')).run P w=.ok (E.flat m).toArray w:=by
 have:=Eg (P:=P) h
 cases sa<;>exact this
theorem GU {t tx e:TypeId} {x y:Operand} {sa:Option Addr} {sl sc sc' b off dl dc:Nat} {T:TypeId} {cs:List Value} {m:List α} {d:Nat} (k:Nat) (ho:o.op=.call ⟨.builtin .copy,#[y,x],#[t,tx]⟩) (hd:o.dst=some d) (hnn:d.blt n) (ht:P.underlying t=some (.slice e)) (hz:∀w,(sizeOf e).run P w=.ok E.sz w)
 (hy:ev L y=some (.slice (some ⟨b,off,none⟩) dl dc)) (hxv:ev L x=some (.slice sa sl sc)) (hm:min sl dl=k) (hx:∀w,St w0 D (Ad b T cs::H) w->RdV w (.slice sa k sc') E m) (hfit:off+k*E.sz<=cs.length)
 (h:Pre n ((d,.int .i64 (k:Nat))::L) (St w0 D (Ad b T (splice cs off (E.flat m))::H)) K):EOp P n L (St w0 D (Ad b T cs::H)) o Q K :=
 EOp.val (β:=Unit) (λ_=>.int .i64 (k:Nat)) Tr (λ_=>St w0 D (Ad b T (splice cs off (E.flat m))::H)) hd hnn (λa w kn hX=>by
  have hx1:=hx w hX
  have hk:m.length=k:=by obtain⟨a',c',e',_⟩:=hx1; cases e'; rfl
  subst hk
  have hf:=Rh (P:=P) hx1 sl sc
  have hlen:=E.kB m
  obtain⟨w',hr,h'⟩:=B6 (P:=P) (off:=off) (E.flat m) _ 0 hX (by omega) (λu hu=>E.flat_one _ u hu)
  have hmin:Nat.min sl dl=m.length:=hm
  have hl:(Builtin.lenOf (.slice sa sl sc)).run P w=.ok sl w:=rfl
  refine⟨(),w',?_,T0,by simpa using h'⟩
  simp[execOp,ho,resolve,invoke,builtin,kn.eval hy,kn.eval hxv,Builtin.copy_,AW ht,hl,hz,hmin,hf,hr,goInt]) (λ_ _=>h)
theorem RdV.keepE {w:World} (h:RdV w0 v E l) (s:St w0 D H w) (hD:blk v∉D\/l=[]):RdV w v E l :=
 h.congr (λhl=>s.keep.block _ (h.lt hl) (hD.resolve_right hl))
theorem Dk {F:Act->World->Prop} {e:TypeId} (hl:0<l.length) (k:∀b cap pre post,v=.slice (some ⟨b,pre.length,none⟩) l.length cap->l.length<=cap->post.length=(cap-l.length)*E.sz->Pre n L (St w0 D (Ad b e (pre++E.flat l++post)::H)) F):Pre n L (St w0 D (AA v e E l::H)) F:=λa w kn hX=>by
 obtain⟨b,cap,pre,post,hv,hc,hp,h⟩:=Gn hX hl
 exact k b cap pre post hv hc hp a w kn h
theorem FL {F:Act->World->Prop} {b cap len:Nat} {e:TypeId} (l:List α) (pre post:List Value) {cs:List Value} (hcs:cs=pre++E.flat l++post) (hlen:l.length=len) (hc:0<cap) (hl:len<=cap) (hp:post.length=(cap-len)*E.sz) (k:Pre n L (St w0 D (AA (.slice (some ⟨b,pre.length,none⟩) len cap) e E l::H)) F):Pre n L (St w0 D (Ad b e cs::H)) F:=k.world _ (λw s=>by
 subst hcs; subst hlen
 exact CW s hc hl hp)
theorem Wk {F:Act->World->Prop} {e:TypeId} (i:Nat) (hi:i<=l.length) (k:Pre n L (St w0 D (AA (vsl v E.sz i l.length) e E (l.drop i)::H)) F):Pre n L (St w0 D (AA v e E l::H)) F:=k.world _ (λw s=>by
 have hat:Row v e E l ((ownB v).bind (w.heap[·]?)):=s.at 0 rfl
 rcases hat with⟨a',rfl,rfl⟩|⟨b,cap,pre,post,rfl,hcp,ho,hlc,hpost⟩
 .have h0:i=0:=by simpa using hi
  subst h0
  exact s
 .have hown:ownB (.slice (some ⟨b,pre.length,none⟩) l.length cap)=some b:=by simp[ownB]; omega
  by_cases hc:cap=i
  .have e1:l.drop i=[]:=List.drop_eq_nil_of_le (by omega)
   have e2:vsl (.slice (some ⟨b,pre.length,none⟩) l.length cap) E.sz i l.length=.slice (some ⟨b,pre.length,none⟩) 0 0:=by
    have h1:l.length-i=0:=by omega
    have h2:cap-i=0:=by omega
    simp only[vsl,lu hc,h1,h2]
   rw[e1,e2]
   exact s.drop.row0 e E _
  .have h1:St w0 D (Ad b e (pre++E.flat l++post)::H) w:=s.head hown.symm (λ_=>by rw[hown] at ho; exact ho)
   have hl:(l.drop i).length=l.length-i:=lk
   have hp:(pre++E.flat (l.take i)).length=pre.length+i*E.sz:=by rw[lp,E.kB,k9]; congr 2; omega
   have e1:pre++E.flat l++post=(pre++E.flat (l.take i))++E.flat (l.drop i)++post:=by
    rw[mj pre (E.flat (l.take i)) (E.flat (l.drop i)),<-E.kL,my]
   rw[e1] at h1
   have:=CW (cap:=cap-i) h1 (by omega) (by omega) (by rw[hpost,hl]; congr 1; omega)
   rw[hp,hl] at this
   have e2:vsl (.slice (some ⟨b,pre.length,none⟩) l.length cap) E.sz i l.length=.slice (some ⟨b,pre.length+i*E.sz,none⟩) (l.length-i) (cap-i):=by simp[vsl,hc,BJ]
   rw[e2]
   exact this)
theorem splice_part:∀(V M A C:List Value),M.length=V.length->splice (A++M++C) A.length V=A++V++C:=λV M A C h=>by
 rw[splice_eq _ _ _ (by simp; omega)]
 congr 1
 .congr 1
  rw[mj,nQ]
 .rw[<-h,<-lp,List.drop_left]
theorem Ut (A B C:List Value) (t:Value) (h:C≠[]):splice (splice (A++B++C) (A.length+1) B) A.length [t]=A++(t::B)++C.drop 1:=by
 obtain⟨x,R,hR⟩:∃x R,B++C=x::R:=by
  cases hbc:B++C with
  |nil=>exact absurd (List.append_eq_nil_iff.1 hbc).2 h
  |cons x R=>exact⟨x,R,rfl⟩
 have hc:0<C.length:=nZ.2 h
 have hlen:R.length+1=B.length+C.length:=by rw[<-lp,hR]; rfl
 have hd:R.drop B.length=C.drop 1:=by
  have:(B++C).drop (B.length+1)=C.drop 1:=by rw[nM]
  rw[hR,mD] at this
  exact this
 have e1:A++B++C=(A++[x])++R.take B.length++R.drop B.length:=by
  rw[mj,hR,mj,my,mj]; rfl
 have e2:=splice_part B (R.take B.length) (A++[x]) (R.drop B.length) (by rw[k9]; omega)
 rw[lp,ou] at e2
 rw[e1,e2,mj,splice_part [t] [x] A _ rfl,hd]
 simp
theorem O2 (A Z C B:List Value) (t:Value) (h:Z.length=B.length+1):splice (splice (A++Z++C) A.length [t]) (A.length+1) B=A++(t::B)++C:=by
 obtain⟨x,R,rfl⟩:∃x R,Z=x::R:=by
  cases Z with
  |nil=>cases h
  |cons x R=>exact⟨x,R,rfl⟩
 have e1:A++(x::R)++C=A++[x]++(R++C):=by simp
 rw[e1,splice_part [t] [x] A _ rfl,<-mj]
 have e2:=splice_part B R (A++[t]) C (by simpa using h)
 rw[lp,ou] at e2
 rw[e2]; simp
theorem NJ {t tx e e':TypeId} {x:Value} {m:List α} {ty:TypeId} {w:World} {i:Nat} (ht:P.underlying t=some (.slice e)) (htx:P.underlying tx=some (.slice e')) (hsz:∀w,(sizeOf e).run P w=.ok E.sz w)
 (h:St w0 D (AA v e E l::H) w) (hx:RdV w x E m) (hi:i+m.length<=l.length) :
 ∃v' w',(Builtin.append_ #[t,tx] ty #[vsl v E.sz 0 i,x]).run P w=.ok v' w'/\vcap v'=vcap v/\St w0 D (AA v' e E (l.take i++m)::H) w':=by
 have hlen:=IK (P:=P) hx
 have hf:=Eg (P:=P) hx
 have hat:Row v e E l ((ownB v).bind (w.heap[·]?)):=h.at 0 rfl
 rcases hat with⟨a',rfl,rfl⟩|⟨b,cap,pre,post,rfl,hcp,ho,hlc,hpost⟩
 .simp at hi
  obtain⟨rfl,hm⟩:=hi
  subst hm
  simp only[ob,E.flat_nil] at hf
  refine⟨.slice a' 0 0,w,?_,rfl,by simpa using h⟩
  cases a'<;>simp[vsl,Builtin.append_,AW ht,AW htx,hsz,hlen,hf,Enc.flat_nil,storeCells]
 .have hown:ownB (.slice (some ⟨b,pre.length,none⟩) l.length cap)=some b:=by simp[ownB]; omega
  have h1:St w0 D (Ad b e (pre++E.flat l++post)::H) w:=h.head hown.symm (λ_=>by rw[hown] at ho; exact ho)
  have hl1:=E.kB l
  have hl2:=E.kB m
  have hlen2:(l.take i++m).length=i+m.length:=by rw[lp,k9]; omega
  have hmul:(i+m.length)*E.sz<=l.length*E.sz:=lW _ hi
  have hmul2:l.length*E.sz<=cap*E.sz:=lW _ hlc
  have hsub:(cap-l.length)*E.sz=cap*E.sz-l.length*E.sz:=n6 ..
  have hsub2:(cap-(i+m.length))*E.sz=cap*E.sz-(i*E.sz+m.length*E.sz):=by rw[n6,lF]
  rw[lF] at hmul
  have hfit:pre.length+i*E.sz+0+(E.flat m).length<=(pre++E.flat l++post).length:=by
   simp only[lp]; omega
  obtain⟨w',hr,h'⟩:=B6 (P:=P) (off:=pre.length+i*E.sz) (E.flat m) _ 0 h1 hfit (λu hu=>E.flat_one m u hu)
  have hroom:i+m.length<=cap:=by omega
  have hc0:¬(cap=0):=by omega
  refine⟨.slice (some ⟨b,pre.length,none⟩) (i+m.length) cap,w',?_,rfl,?_⟩
  .simp[vsl,hc0,Builtin.append_,AW ht,AW htx,hsz,hlen,hroom,hf,BJ,hr]
  .rw[splice_eq _ _ _ (by simpa using hfit)] at h'
   have t1:(pre++E.flat l++post).take (pre.length+i*E.sz+0)=pre++E.flat (l.take i):=by
    rw[nB,mj,nL,nX (by omega),E.flat_take]
   rw[t1] at h'
   have e2:pre++E.flat (l.take i)++E.flat m=pre++E.flat (l.take i++m):=by rw[E.kL,mj]
   rw[e2] at h'
   have:=CW (cap:=cap) h' hcp (by omega) (by
    rw[hlen2,hsub2]
    simp only[lk,lp,nB]
    omega)
   rw[hlen2] at this
   exact this
theorem Hy {t tx e e':TypeId} {xv:Value} {s x:Operand} {m:List α} {d:Nat} (i:Nat) (ho:o.op=.call ⟨.builtin .append,#[s,x],#[t,tx]⟩) (hd:o.dst=some d) (hnn:d.blt n) (ht:P.underlying t=some (.slice e)) (htx:P.underlying tx=some (.slice e')) (hsz:∀w,(sizeOf e).run P w=.ok E.sz w)
 (hsv:ev L s=some (vsl v E.sz 0 i)) (hxv:ev L x=some xv) (hx:∀w,St w0 D (AA v e E l::H) w->RdV w xv E m) (hi:i+m.length<=l.length)
 (h:∀v',vcap v'=vcap v->Pre n ((d,v')::L) (St w0 D (AA v' e E (l.take i++m)::H)) K):EOp P n L (St w0 D (AA v e E l::H)) o Q K :=
 EOp.val (β:=Value) (λv=>v) (λv'=>vcap v'=vcap v) (λv'=>St w0 D (AA v' e E (l.take i++m)::H)) hd hnn (λa w kn hX=>by
  obtain⟨v',w',hr,hc,h'⟩:=NJ (P:=P) (ty:=o.type) ht htx hsz hX (hx w hX) hi
  exact⟨v',w',by simp[execOp,ho,resolve,invoke,builtin,kn.eval hsv,kn.eval hxv,hr],hc,h'⟩) (λv' hv=>h v' hv)
theorem Kj {t e:TypeId} {x lo hi:Operand} {k k':IntKind} {zl zh:Int} (i j:Nat) (ho:o.op=.slice t x (some lo) (some hi) none) (ht:P.underlying t=some (.slice e)) (hz:∀w,(sizeOf e).run P w=.ok E.sz w)
 (hx:ev L x=some v) (hr:∀w,X w->RdV w v E l) (hlo:ev L lo=some (.int k zl)) (hhi:ev L hi=some (.int k' zh)) (el:zl=(i:Int)) (eh:zh=(j:Int)) (h1:i<=j) (h2:j<=vcap v) :
 QOp P n L X o (vsl v E.sz i j):=λa w hk hX=>by
 obtain⟨ad,c,rfl,hc,_⟩:=hr w hX
 subst el; subst eh
 have hjc:j<=c:=h2
 have:=QOp.mk (P:=P) (n:=n) (L:=L) (X:=X) (o:=o) (v:=vsl (.slice ad l.length c) E.sz i j) (λa=>Instr.sliceAt t (a.eval x) (some (a.eval lo)) (some (a.eval hi)) none) (λa=>by simp[execOp,ho]) (λa w hk _=>by
  rw[hk.eval hx,hk.eval hlo,hk.eval hhi]
  simp only[Instr.sliceAt,Instr.slice,Instr.sliceBounds,l5,AW ht,l7,l6,CG (P:=P) w rfl hjc,CG (P:=P) w rfl h1,hz,vsl])
 exact this a w hk hX
theorem Gs {t e:TypeId} {x lo hi mx:Operand} {k k' k'':IntKind} {zl zh zm:Int} (i j m:Nat) (ho:o.op=.slice t x (some lo) (some hi) (some mx)) (ht:P.underlying t=some (.slice e)) (hz:∀w,(sizeOf e).run P w=.ok E.sz w)
 (hx:ev L x=some v) (hr:∀w,X w->RdV w v E l) (hlo:ev L lo=some (.int k zl)) (hhi:ev L hi=some (.int k' zh)) (hmx:ev L mx=some (.int k'' zm)) (el:zl=(i:Int)) (eh:zh=(j:Int)) (em:zm=(m:Int)) (h1:i<=j) (h2:j<=m) (h3:m<=l.length) :
 QOp P n L X o (.slice (if m=i then (match v with|.slice a _ _=>a|_=>none:Option Addr) else (match v with|.slice a _ _=>a|_=>none:Option Addr).map (λq:Addr=>q.add (i*E.sz))) (j-i) (m-i)):=λa w hk hX=>by
 obtain⟨ad,c,rfl,hc,_⟩:=hr w hX
 subst el; subst eh; subst em
 have hmc:m<=c:=by omega
 have:=QOp.mk (P:=P) (n:=n) (L:=L) (X:=X) (o:=o) (v:=.slice (if m=i then ad else ad.map (·.add (i*E.sz))) (j-i) (m-i)) (λa=>Instr.sliceAt t (a.eval x) (some (a.eval lo)) (some (a.eval hi)) (some (a.eval mx))) (λa=>by simp[execOp,ho]) (λa w hk _=>by
  rw[hk.eval hx,hk.eval hlo,hk.eval hhi,hk.eval hmx]
  simp only[Instr.sliceAt,Instr.slice,Instr.sliceBounds,l5,AW ht,l7,l6,CG (P:=P) w rfl hmc,CG (P:=P) w rfl h2,CG (P:=P) w rfl h1,hz])
 exact this a w hk hX
theorem Gt {t e:TypeId} {i:TypeInfo} {z:Value} {x:Operand} {hi:Nat} (ho:o.op=.call ⟨.builtin .clear,#[x],#[t]⟩) (hd:o.dst=none) (ht:P.underlying t=some (.slice e)) (hi':P.info? e=some i) (hz:i.zero=some z) (hzc:z.cells.size=E.sz) (hz1:∀u∈z.cells.toList,u.oneCell'=true)
 (hx:ev L x=some (vsl v E.sz l.length hi)) (h1:l.length<=hi) (h2:hi<=vcap v) (h:Pre n L (St w0 D (AA v e E l::H)) K):EOp P n L (St w0 D (AA v e E l::H)) o Q K :=
 EOp.val0 (β:=Unit) (λ_=>.tuple #[]) Tr (λ_=>St w0 D (AA v e E l::H)) hd (λa w kn hX=>by
  have hzv:∀w,(zeroValue e).run P w=.ok z w:=λw=>by simp[zeroValue,typeInfo,hi',hz]
  suffices hs:∃w',(Builtin.clear_ #[t] o.type #[vsl v E.sz l.length hi]).run P w=.ok (.tuple #[]) w'/\St w0 D (AA v e E l::H) w' by
   obtain⟨w',hr,h'⟩:=hs
   exact⟨(),w',by simp[execOp,ho,resolve,invoke,builtin,kn.eval hx,hr],T0,h'⟩
  have hat:Row v e E l ((ownB v).bind (w.heap[·]?)):=hX.at 0 rfl
  rcases hat with⟨a',rfl,rfl⟩|⟨b,cap,pre,post,rfl,hcp,ho,hlc,hpost⟩
  .have h0:hi=0:=by have:hi<=0:=h2; omega
   subst h0
   exact⟨w,by cases a'<;>simp[vsl,Builtin.clear_,AW ht],hX⟩
  .have h2':hi<=cap:=h2
   by_cases hk:hi-l.length=0
   .refine⟨w,?_,hX⟩
    simp only[vsl,hk]
    cases hq:(if cap=l.length then (some (⟨b,pre.length,none⟩:Addr)) else (some ⟨b,pre.length,none⟩:Option Addr).map (·.add (l.length*E.sz)))<;>simp[Builtin.clear_,AW ht]
   .have hown:ownB (.slice (some ⟨b,pre.length,none⟩) l.length cap)=some b:=by simp[ownB]; omega
    have h1:St w0 D (Ad b e (pre++E.flat l++post)::H) w:=hX.head hown.symm (λ_=>by rw[hown] at ho; exact ho)
    have hl1:=E.kB l
    have hzs:(Builtin.zeroCells z.cells (hi-l.length)).toList.length=(hi-l.length)*E.sz:=by rw[mX,n9,hzc]
    have hmul:(hi-l.length)*E.sz<=(cap-l.length)*E.sz:=lW _ (by omega)
    have hfit:pre.length+l.length*E.sz+0+(Builtin.zeroCells z.cells (hi-l.length)).toList.length<=(pre++E.flat l++post).length:=by
     simp only[lp]; omega
    obtain⟨w',hr,h'⟩:=B6 (P:=P) (off:=pre.length+l.length*E.sz) _ _ 0 h1 hfit (λu hu=>by
     obtain⟨j,hj,rfl⟩:=Array.mem_iff_getElem.1 (Array.mem_toList_iff.1 hu)
     have hs:=hj
     rw[n9] at hs
     have hp:0<z.cells.size:=by rcases lN z.cells.size with h0|h0; rw[h0,Nat.mul_zero] at hs; exact absurd hs (ov _); exact h0
     have e1:(Builtin.zeroCells z.cells (hi-l.length))[j]=z.cells[j%z.cells.size]! := by simp[Builtin.zeroCells]
     rw[e1,getElem!_pos z.cells _ (lM _ hp)]
     exact hz1 _ (Array.mem_toList_iff.2 (Array.getElem_mem _)))
    refine⟨w',?_,?_⟩
    .have hc:¬(cap=l.length):=by omega
     obtain⟨k,hk⟩:∃k,hi-l.length=k+1:=⟨hi-l.length-1,by omega⟩
     rw[hk] at hr
     simp[vsl,hc,hk,Builtin.clear_,AW ht,hzv,BJ,hr]
    .rw[splice_eq _ _ _ (by simpa using hfit)] at h'
     have t1:(pre++E.flat l++post).take (pre.length+l.length*E.sz+0)=pre++E.flat l:=by
      rw[nB,<-hl1,<-lp,nQ]
     rw[t1,mj] at h'
     refine CW (cap:=cap) h' hcp hlc ?_
     simp only[lp,lk,nB]
     omega) (λ_ _=>h)
theorem H9 {t tx e:TypeId} {i:TypeInfo} {z:Value} {s x:Operand} {m d:Nat} {a0:α} (ho:o.op=.call ⟨.builtin .append,#[s,x],#[t,tx]⟩) (hd:o.dst=some d) (hnn:d.blt n) (ht:P.underlying t=some (.slice e)) (htx:P.underlying tx=some (.int .i64)) (hi:P.info? e=some i) (hs:i.size=E.sz) (hz:i.zero=some z) (hzc:z.cells.toList=E.f a0)
 (hsv:ev L s=some v) (hxv:ev L x=some (.int .i64 (m:Int))) (hv:∀w,St w0 D H w->RdV w v E l) (hgt:vcap v<l.length+m) (hb:(l.length+m)*i.bytes<=140737488355328) (hn:l.length+m<=9223372036854775807)
 (h:∀v',Pre n ((d,v')::L) (St w0 D (AA v' e E (l++List.replicate m a0)::H)) K):EOp P n L (St w0 D H) o Q K :=
 EOp.val (β:=Value) (λv=>v) Tr (λv'=>St w0 D (AA v' e E (l++List.replicate m a0)::H)) hd hnn (λac w kn hX=>by
  have hrd:=hv w hX
  have hrd0:=hrd
  obtain⟨a,c,rfl,hc,_⟩:=hrd0
  have hgt':c<l.length+m:=hgt
  have hsz:∀w,(sizeOf e).run P w=.ok E.sz w:=λw=>by simp[sizeOf,typeInfo,hi,hs]
  have hti:∀w,(typeInfo e).run P w=.ok i w:=λw=>by simp[typeInfo,hi]
  have hzv:∀w,(zeroValue e).run P w=.ok z w:=λw=>by simp[zeroValue,typeInfo,hi,hz]
  have hw1:IntKind.i64.wrap (m:Int)=(m:Int):=Ch (by omega)
  have hroom:¬(l.length+m<=c):=by omega
  have h64:¬(9223372036854775807<((l.length:Int)+(m:Int))):=by omega
  have hfits:=growslice_fits hgt' hb
  have h48:¬(281474976710656<Builtin.nextslicecap (l.length+m) c*i.bytes):=by omega
  have h5:¬((m:Int)*(i.bytes:Int)>281474976710656):=by
   have:m*i.bytes<=(l.length+m)*i.bytes:=lW _ (by omega)
   rw[<-nR]; omega
  have h6:¬((m:Int)<0):=by omega
  have hf1:=Eg (P:=P) hrd.drew
  have hzc2:z.cells.size=E.sz:=by rw[<-mX,hzc,E.len]
  have hne:0<E.sz:=E.pos
  have hzf:(Builtin.zeroCells z.cells m).toList=E.flat (List.replicate m a0):=by
   refine lY (λk=>?_)
   by_cases hk:k<m*E.sz
   .have hmod:k%E.sz<E.sz:=lM _ E.pos
    have hdiv:k/E.sz<m:=(Nat.div_lt_iff_lt_mul E.pos).2 hk
    have e1:k=k/E.sz*E.sz+k%E.sz:=by rw[lL]; exact (Nat.div_add_mod k E.sz).symm
    have hg:=E.flat_get (List.replicate m a0) (k/E.sz) (k%E.sz) a0 _ (by simp[hdiv]) (kY (by rw[E.len]; exact hmod))
    rw[<-e1] at hg
    rw[hg]
    have h2:z.cells[k%z.cells.size]! = (E.f a0)[k%E.sz]'(by rw[E.len]; exact hmod):=by
     rw[getElem!_pos z.cells (k%z.cells.size) (by rw[hzc2]; exact hmod)]
     have:z.cells.toList[k%z.cells.size]'(by rw[mX,hzc2]; exact hmod)=(E.f a0)[k%E.sz]'(by rw[E.len]; exact hmod):=by simp only[hzc,hzc2]
     simpa using this
    have h3:k<(Builtin.zeroCells z.cells m).size:=by rw[n9,hzc2]; exact hk
    rw[<-h2,ow,ox h3]
    simp[Builtin.zeroCells]
   .rw[k8 (by rw[mX,n9,hzc2]; omega),k8 (by rw[E.kB,oy]; omega)]
  have hm0:∀w,(if m*E.sz=0 then pure #[] else do pure (Builtin.zeroCells (<-zeroValue e).cells m):Sem (Array Value)).run P w=.ok (Builtin.zeroCells z.cells m) w:=λw=>by
   split
   .rename_i h0
    have:m=0:=by rcases lZ.1 h0 with h|h; exact h; omega
    subst this
    have:Builtin.zeroCells z.cells 0=#[]:=by apply n7.1; rw[hzf]; rfl
    rw[this]; rfl
   .simp[hzv]
  have hrun:(Builtin.append_ #[t,tx] o.type #[.slice a l.length c,.int .i64 (m:Int)]).run P w=.ok (.slice (some ⟨w.heap.size,0,none⟩) (l.length+m) (grownCap w (l.length+m) c e))
   (w.drew.alloc (.cells ((E.flat l).toArray++Builtin.zeroCells z.cells m++Builtin.zeroCells z.cells (grownCap w (l.length+m) c e-(l.length+m))) e)):=by
   have hmw:=hm0 w.drew
   by_cases h0:m*E.sz=0
   .have hmz:m=0:=by rcases lZ.1 h0 with h|h; exact h; omega
    subst hmz
    omega
   .simp[Builtin.append_,AW ht,AW htx,hsz,hti,hzv,asInt,asIntOf,hw1,h6,h5,hroom,h64,h48,Question.forced,hf1,newRow,grownCap,h0,<-Array.append_assoc]
  have hge:=grownCap_ge w (l.length+m) c e
  have hb2:ownB (.slice (some ⟨w.heap.size,0,none⟩) (l.length+m) (grownCap w (l.length+m) c e))=some w.heap.size:=by simp[ownB]; omega
  have h1:=(hX.drew).alloc (o:=.cells ((E.flat l).toArray++Builtin.zeroCells z.cells m++Builtin.zeroCells z.cells (grownCap w (l.length+m) c e-(l.length+m))) e)
   (φ:=Row (.slice (some ⟨w.heap.size,0,none⟩) (l.length+m) (grownCap w (l.length+m) c e)) e E (l++List.replicate m a0)) (.inr ⟨w.heap.size,grownCap w (l.length+m) c e,[],(Builtin.zeroCells z.cells (grownCap w (l.length+m) c e-(l.length+m))).toList,by simp,by omega,by
    congr 2
    apply n7.1
    simp[E.kL,hzf],by simp; omega,by
    rw[mX,n9,hzc2,lp,oy]⟩)
  refine⟨.slice (some ⟨w.heap.size,0,none⟩) (l.length+m) (grownCap w (l.length+m) c e),w.drew.alloc (.cells ((E.flat l).toArray++Builtin.zeroCells z.cells m++Builtin.zeroCells z.cells (grownCap w (l.length+m) c e-(l.length+m))) e),by simp[execOp,ho,resolve,invoke,builtin,kn.eval hsv,kn.eval hxv,hrun],T0,?_⟩
  show St w0 D (⟨ownB _,_⟩::H) _
  rw[hb2]
  exact h1) (λv' _=>h v')
theorem eO {t u:TypeId} {x y:Operand} {p:Int} (h:Nat) (ho:o.op=.binOp .shr t x y u) (hx:ev L x=some (.int .u64 p)) (hy:ev L y=some (.int .u64 1)) (hp:p.fdiv 2=(h:Int)):QOp P n L X o (.int .u64 (h:Int)) :=
 CV ho hx hy (λw _=>by rw[l5,Cg]; simp only[binOp,Op.shift]; rw[show min (1:Int).toNat IntKind.u64.bits=1 from rfl]; simp[hp])
theorem Ri {f:FuncId} {fn:Func} {x y:Operand} {ts:Array TypeId} {d a b i j la lb ca cb sz:Nat} {t r e T U:TypeId} {cs us:List Value} (ho:o.op=.call ⟨.value (.func f),[x,y].toArray,ts⟩) (hd:o.dst=some d) (hnn:d.blt n) (hfn:P.funcs[f]?=some fn) (hb:fn.body.isNone) (P4:(fn.name == "runtime.NumGoroutine")=false) (hn:Extern.findNext fn=none) (he:Extern.find fn=some (Extern.SlicesOverlaps.overlaps #[t,t] #[r]))
 (ht:P.underlying t=some (.slice e)) (hz:∀w,(sizeOf e).run P w=.ok sz w) (hx:ev L x=some (.slice (some ⟨a,i,none⟩) la ca)) (hy:ev L y=some (.slice (some ⟨b,j,none⟩) lb cb)) (h1:∀w,X w->(Ad a T cs).at w) (h2:∀w,X w->(Ad b U us).at w) (hne:a≠b) (hu:us≠[])
 (h:Pre n ((d,.bool false)::L) X K):EOp P n L X o Q K :=
 EOp.val (β:=Unit) (λ_=>.bool false) Tr (λ_=>X) hd hnn (λac w kn hX=>by
  have ha:w.heap[a]?=some (.cells cs.toArray T (0,0)):=h1 w hX
  have hb':w.heap[b]?=some (.cells us.toArray U (0,0)):=h2 w hX
  refine⟨(),w,?_,T0,hX⟩
  have hr:=Lib.run_overlaps_apart w t r e ht sz hz ⟨a,i,none⟩ ⟨b,j,none⟩ la ca lb cb hne T U cs.length us.length (by simp[World.shape?,ha]) (by simp[World.shape?,hb']) (λe=>hu (lA e)) (Gm (h1 w hX) _) (Gm (h1 w hX) _)
  have hc:=run_callFunc_extern hfn P4 hb hn he #[.slice (some ⟨a,i,none⟩) la ca,.slice (some ⟨b,j,none⟩) lb cb] w
  rw[hr] at hc
  simp only[l7] at hc
  have hargs:([x,y].toArray.map ac.eval)=#[.slice (some ⟨a,i,none⟩) la ca,.slice (some ⟨b,j,none⟩) lb cb]:=by simp[kn.eval hx,kn.eval hy]
  have h0:∀us:Array Value,(#[]++us++#[])=us:=λus=>by simp
  simp only[execOp,ho,resolve,Act.eval,Deferred.ofValue,l5,l6,l7,invoke,hargs,h0,hc]) (λ_ _=>h)
end
section plain
variable {α β:Type} [DecidableEq α]
def Dl (a:α):List (α×β)->Nat->Option (Nat×β)
 |[],_=>none
 |(x,y)::l,i=>if a=x then some (i,y) else Dl a l (i+1)
def mput (a:α) (v:β):List (α×β)->List (α×β)
 |[]=>[(a,v)]
 |(x,y)::l=>if a=x then (a,v)::l else (x,y)::mput a v l
def Co (a:α):List (α×β)->Option β
 |[]=>none
 |(x,y)::l=>if a=x then some y else Co a l
theorem Kk {a:α} {v:β}:∀{l:List (α×β)} {i:Nat},Dl a l i=none->mput a v l=l++[(a,v)]
 |[],i,h=>rfl
 |(x,y)::l,i,h=>by
  simp only[Dl] at h
  split at h
  .cases h
  .rename_i hne
   simp only[mput,lz hne]
   rw[Kk (v:=v) h]; rfl
theorem Mt {a:α}:∀{l:List (α×β)} {i:Nat},Co a l=(Dl a l i).map Prod.snd
 |[],i=>rfl
 |(x,y)::l,i=>by
  simp only[Dl,Co]
  split
  .rfl
  .exact Mt
theorem Hz {a:α} {v y:β}:∀{l:List (α×β)} {i j:Nat},Dl a l i=some (j,y)->i<=j/\l[j-i]?=some (a,y)/\mput a v l=l.set (j-i) (a,v)
 |[],i,j,h=>by cases h
 |(x,z)::l,i,j,h=>by
  simp only[Dl] at h
  split at h
  .rename_i he
   cases h
   subst he
   simp[mput]
  .rename_i hne
   obtain⟨h1,h2,h3⟩:=Hz (v:=v) h
   have e:j-i=(j-(i+1))+1:=by omega
   simp only[mput,lz hne]
   rw[e]
   exact⟨by omega,by simpa using h2,by rw[nO,h3]⟩
end plain
section
variable {P:Program} {n:Nat} {L:Env} {X:World->Prop} {o:Oper} {Q:Exit->Act->World->Prop} {K:Act->World->Prop}
variable {w0:World} {D:List Nat} {H:List Ent} {α β:Type} [DecidableEq α] {kf:α->Value} {vf:β->Value}
def eP (b:Nat) (kf:α->Value) (vf:β->Value) (l:List (α×β)):Ent:=⟨some b,λo=>∃m c,o=some (.map m c)/\m.toList.map (λe=>(e.key,e.val))=l.map (λp=>(kf p.1,vf p.2))⟩
structure Ia (P:Program) (kt:TypeId) (kf:α->Value):Prop where
 ck:∀em w a,(Instr.checkKey em 10000 kt (kf a)).run P w=.ok () w
 find:∀w a (es:List MapEntry) (β:Type) (vf:β->Value) (l:List (α×β)),es.map (λe=>(e.key,e.val))=l.map (λp=>(kf p.1,vf p.2))->(Instr.findKey kt (kf a) es).run P w=.ok ((Dl a l 0).map (λp=>(p.1,vf p.2))) w
 same:∀a,Instr.sameBits 10000 (kf a) (kf a)=true
theorem L5 {kt:TypeId} (heq:∀w a x,(Op.equal kt (kf a) (kf x)).run P w=.ok (decide (a=x)) w) (w:World) (a:α):∀(es:List MapEntry) (l:List (α×β)) (i:Nat),es.map (λe=>(e.key,e.val))=l.map (λp=>(kf p.1,vf p.2)) ->
 (Instr.findAsking kt (kf a) es i).run P w=.ok ((Dl a l i).map (λp=>(p.1,vf p.2))) w
 |[],[],i,h=>rfl
 |[],_::_,i,h=>by cases h
 |_::_,[],i,h=>by cases h
 |e::es,(x,y)::l,i,h=>by
  simp only[ma,List.cons.injEq,Prod.mk.injEq] at h
  obtain⟨⟨h1,h2⟩,h3⟩:=h
  simp only[Instr.findAsking,h1,l5,heq,l7,Dl]
  by_cases hax:a=x
  .simp[hax,h2]
  .simp only[hax,decide_false,ny,nz]
   exact L5 heq w a es l (i+1) h3
omit [DecidableEq α] in
theorem Z0 {b:Nat} {l:List (α×β)} {w:World} (h:(eP b kf vf l).at w):∃m c,w.heap[b]?=some (.map m c)/\m.toList.map (λe=>(e.key,e.val))=l.map (λp=>(kf p.1,vf p.2)):=h
theorem Kl {t kt vt:TypeId} {b:Nat} {l:List (α×β)} {w:World} (a:α) {z:Value} (ht:P.underlying t=some (.map kt vt)) (hK:Ia P kt kf) (hz:∀w,(zeroValue vt).run P w=.ok z w) (h:(eP b kf vf l).at w) (ok:Bool) :
 (Instr.lookup t (.map (some b)) (kf a) ok).run P w=.ok (if ok then .tuple #[match Co a l with|some y=>vf y|none=>z,.bool (Co a l).isSome] else match Co a l with|some y=>vf y|none=>z) w:=by
 obtain⟨m,c,hm,hl⟩:=Z0 h
 have hg:(getObj b).run P w=.ok (.map m c) w:=by simp[getObj,Sem.run,hm]
 have hf:=hK.find w a m.toList β vf l hl
 have hmg:=Mt (a:=a) (l:=l) (i:=0)
 unfold Instr.lookup
 cases hfi:Dl a l 0 with
 |none =>
  rw[hfi] at hf hmg
  simp only[Option.map_none] at hf hmg
  simp[AW ht,hg,hK.ck,hf,hz,hmg]
 |some p =>
  rw[hfi] at hf hmg
  simp only[lU] at hf hmg
  simp[AW ht,hg,hK.ck,hf,hmg]
theorem Wl {t e:TypeId} {i:TypeInfo} {z:Value} {x:Operand} {b off m c:Nat} {T:TypeId} {cs:List Value} (ho:o.op=.call ⟨.builtin .clear,#[x],#[t]⟩) (hd:o.dst=none) (ht:P.underlying t=some (.slice e)) (hi:P.info? e=some i) (hz:i.zero=some z) (hzc:z.cells=#[z]) (hz1:z.oneCell')
 (hx:ev L x=some (.slice (some ⟨b,off,none⟩) m c)) (hfit:off+m<=cs.length) (h:Pre n L (St w0 D (Ad b T (splice cs off (List.replicate m z))::H)) K):EOp P n L (St w0 D (Ad b T cs::H)) o Q K :=
 EOp.val0 (β:=Unit) (λ_=>.tuple #[]) Tr (λ_=>St w0 D (Ad b T (splice cs off (List.replicate m z))::H)) hd (λa w kn hX=>by
  have hzv:∀w,(zeroValue e).run P w=.ok z w:=λw=>by simp[zeroValue,typeInfo,hi,hz]
  have hzl:(Builtin.zeroCells z.cells m).toList=List.replicate m z:=by
   rw[hzc]
   refine lY (λj=>?_)
   by_cases hj:j<m
   .simp[Builtin.zeroCells,hj,Nat.mod_one]
   .rw[k8 (by rw[mX,n9]; simp; omega),k8 (by simp; omega)]
  obtain⟨w',hr,h'⟩:=B6 (P:=P) (off:=off) (List.replicate m z) cs 0 hX (by simp; omega) (λu hu=>by rw[(mU.1 hu).2]; exact hz1)
  rw[nB] at h'
  refine⟨(),w',?_,T0,h'⟩
  cases m with
  |zero =>
   have:w'=w:=by
    simp[storeCells] at hr; exact hr.symm
   subst this
   simp[execOp,ho,resolve,invoke,builtin,kn.eval hx,Builtin.clear_,AW ht]
  |succ k =>
   rw[<-hzl] at hr
   simp[execOp,ho,resolve,invoke,builtin,kn.eval hx,Builtin.clear_,AW ht,hzv,hr]) (λ_ _=>h)
theorem Z1 {t tx e:TypeId} {x y:Operand} {s:ByteArray} {b off dn dc:Nat} {T:TypeId} {cs:List Value} {d:Nat} (ho:o.op=.call ⟨.builtin .copy,#[y,x],#[t,tx]⟩) (hd:o.dst=some d) (hnn:d.blt n) (ht:P.underlying t=some (.slice e)) (hz:∀w,(sizeOf e).run P w=.ok 1 w)
 (hy:ev L y=some (.slice (some ⟨b,off,none⟩) dn dc)) (hxv:ev L x=some (.string s)) (hsn:s.size<=dn) (hfit:off+s.size<=cs.length)
 (h:Pre n ((d,.int .i64 (s.size:Nat))::L) (St w0 D (Ad b T (splice cs off (s.data.toList.map (λq=>Value.int .u8 (q.toNat:Int))))::H)) K):EOp P n L (St w0 D (Ad b T cs::H)) o Q K :=
 EOp.val (β:=Unit) (λ_=>.int .i64 (s.size:Nat)) Tr (λ_=>St w0 D (Ad b T (splice cs off (s.data.toList.map (λq=>Value.int .u8 (q.toNat:Int))))::H)) hd hnn (λa w kn hX=>by
  have hl:(s.data.toList.map (λq=>Value.int .u8 (q.toNat:Int))).length=s.size:=by rw[mB,mX]; rfl
  obtain⟨w',hr,h'⟩:=B6 (P:=P) (off:=off) (s.data.toList.map (λq=>Value.int .u8 (q.toNat:Int))) cs 0 hX (by rw[hl]; omega) (λu hu=>by obtain⟨q,_,rfl⟩:=lP.1 hu; rfl)
  rw[nB] at h'
  have hmin:Nat.min s.size dn=s.size:=mE hsn
  have hf:(Builtin.firstCells 1 s.size (.string s)).run P w=.ok (s.data.toList.map (λq=>Value.int .u8 (q.toNat:Int))).toArray w:=by
   have he:s.extract 0 s.size=s:=by
    apply ByteArray.ext
    simp[ByteArray.data_extract]
   simp only[Builtin.firstCells,he]
   show Result.ok _ w=_
   congr 1
   apply n7.1
   simp
  have hlen:(Builtin.lenOf (.string s)).run P w=.ok s.size w:=rfl
  refine⟨(),w',?_,T0,h'⟩
  simp[execOp,ho,resolve,invoke,builtin,kn.eval hy,kn.eval hxv,Builtin.copy_,AW ht,hlen,hz,hmin,hf,hr,goInt]) (λ_ _=>h)
end
open Go.RowKit Go.MapKept Go.Proofs.YtloldofjddbjoaaGreat
section plain
variable {α β:Type} [DecidableEq α]
def NK (a:α):List (α×β)->Nat
 |[]=>0
 |(x,_)::l=>if a=x then 0 else NK a l+1
theorem Uu (a:α) (v u:β):∀l:List (α×β),(mput a v l).set (NK a l) (a,u)=mput a u l
 |[]=>rfl
 |(x,y)::l=>by
  simp only[mput,NK]
  by_cases h:a=x
  .simp[h]
  .simp only[lz h,nO]; rw[Uu a v u l]
theorem Wm (a:α) (v:β):∀l:List (α×β),(mput a v l)[NK a l]?=some (a,v)
 |[]=>rfl
 |(x,y)::l=>by
  simp only[mput,NK]
  by_cases h:a=x
  .simp[h]
  .simp only[lz h,mN]; exact Wm a v l
theorem Km (a:α) (v:β):∀l:List (α×β),Co a (mput a v l)=some v
 |[]=>by simp[mput,Co]
 |(x,y)::l=>by
  simp only[mput]
  by_cases h:a=x
  .subst h; simp[Co]
  .simp only[lz h,Co]; exact Km a v l
theorem Uv {a:α} {y:β}:∀{l:List (α×β)} {i j:Nat},Dl a l i=some (j,y)->j=i+NK a l
 |[],i,j,h=>by cases h
 |(x,z)::l,i,j,h=>by
  simp only[Dl] at h
  simp only[NK]
  split at h
  .rename_i he; cases h; simp[he]
  .rename_i hne; have:=Uv h; rw[lz hne]; omega
theorem Uw {a:α}:∀{l:List (α×β)} {i:Nat},Dl a l i=none->NK a l=l.length
 |[],i,h=>rfl
 |(x,z)::l,i,h=>by
  simp only[Dl] at h
  simp only[NK]
  split at h
  .cases h
  .rename_i hne; rw[lz hne,Uw h]; rfl
end plain
section
variable {P:Program} {n:Nat} {L:Env} {X:World->Prop} {o:Oper} {Q:Exit->Act->World->Prop} {K:Act->World->Prop}
variable {w0:World} {D:List Nat} {H:List Ent} {α β:Type} [DecidableEq α] {kf:α->Value} {vf:β->Value}
end
theorem DG {α β:Type} (f:α->β):∀(l:List α) (i:Nat),(l.eraseIdx i).map f=(l.map f).eraseIdx i
 |[],_=>rfl
 |_::_,0=>rfl
 |_::l,i+1=>by simp only[oz,ma]; rw[DG f l i]
section plain
variable {α β:Type} [DecidableEq α]
def BP (a:α):List (α×β)->List (α×β)
 |[]=>[]
 |(x,y)::l=>if a=x then l else (x,y)::BP a l
theorem Kn {a:α}:∀{l:List (α×β)} {i:Nat},Dl a l i=none->BP a l=l
 |[],i,h=>rfl
 |(x,y)::l,i,h=>by
  simp only[Dl] at h
  split at h
  .cases h
  .rename_i hne; simp only[BP,lz hne]; rw[Kn h]
theorem Ko {a:α} {y:β}:∀{l:List (α×β)} {i j:Nat},Dl a l i=some (j,y)->i<=j/\BP a l=l.eraseIdx (j-i)
 |[],i,j,h=>by cases h
 |(x,z)::l,i,j,h=>by
  simp only[Dl] at h
  split at h
  .rename_i he; cases h; simp[BP,he]
  .rename_i hne
   obtain⟨h1,h2⟩:=Ko h
   have e:j-i=(j-(i+1))+1:=by omega
   simp only[BP,lz hne]
   rw[e,oz,h2]
   exact⟨by omega,rfl⟩
theorem Mu {a b:α} (h:a≠b):∀l:List (α×β),Co b (BP a l)=Co b l
 |[]=>rfl
 |(x,y)::l=>by
  simp only[BP]
  by_cases e:a=x
  .subst e; rw[lu rfl]; simp only[Co,lz h.symm]
  .rw[lz e]; simp only[Co,Mu h l]
theorem IQ {a b:α} {v:β} (h:a≠b):∀l:List (α×β),Co b (mput a v l)=Co b l
 |[]=>by simp[mput,Co,h.symm]
 |(x,y)::l=>by
  simp only[mput]
  by_cases e:a=x
  .subst e; rw[lu rfl]; simp only[Co,lz h.symm]
  .rw[lz e]; simp only[Co,IQ h l]
end plain
section
variable {P:Program} {n:Nat} {L:Env} {X:World->Prop} {o:Oper} {Q:Exit->Act->World->Prop} {K:Act->World->Prop}
variable {w0:World} {D:List Nat} {H:List Ent} {α β:Type} [DecidableEq α] {kf:α->Value} {vf:β->Value}
theorem Ux {kt:TypeId} (k:IntKind) (hu:P.underlying kt=some (.int k)):Ia P kt (Value.int k):=by
 refine⟨λem w a=>run_checkKey hu (show IsKey (.int k) (.int k a) from rfl) em 9999,λw a es β vf l h=>run_findKey hu ?_,λa=>?_⟩
 .suffices ∀(es:List MapEntry) (l:List (Int×β)) (i:Nat),es.map (λe=>(e.key,e.val))=l.map (λp=>(Value.int k p.1,vf p.2))->Instr.findNow (.int k) (.int k a) es i=some ((Dl a l i).map (λp=>(p.1,vf p.2))) from this es l 0 h
  intro es
  induction es with
  |nil=>intro l i h; cases l with
   |nil=>rfl
   |cons p l=>cases h
  |cons e es ih =>
   intro l i h
   cases l with
   |nil=>cases h
   |cons p l =>
    obtain⟨x,y⟩:=p
    simp only[ma,List.cons.injEq,Prod.mk.injEq] at h
    obtain⟨⟨h1,h2⟩,h3⟩:=h
    have hs:Instr.sameNow (.int k) (.int k a) e.key=some (decide (a=x)):=by
     rw[h1]
     show (if k=k then some (a == x) else none)=_
     rw[lu rfl]
     congr 1
    simp only[Instr.findNow,hs,Dl]
    by_cases hax:a=x
    .simp[hax,h2]
    .simp only[hax,decide_false,nz]
     exact ih l (i+1) h3
 .show (k == k&&a == a)=true
  simp
def Es (m:Array MapEntry) (c:Nat):Prop:=(∀x∈m.toList,x.born<c)/\(m.toList.map (·.born)).Nodup
def Dz (b:Nat) (kf:α->Value) (vf:β->Value) (l:List (α×β)):Ent:=⟨some b,λo=>∃m c,o=some (.map m c)/\m.toList.map (λe=>(e.key,e.val))=l.map (λp=>(kf p.1,vf p.2))/\Es m c⟩
omit [DecidableEq α] in
theorem O3 {b:Nat} {l:List (α×β)} {w:World} (h:(Dz b kf vf l).at w):(eP b kf vf l).at w:=by
 obtain⟨m,c,h1,h2,_⟩:=h; exact⟨m,c,h1,h2⟩
omit [DecidableEq α] in
theorem Ib {b:Nat} {l:List (α×β)} {w:World} (h:(Dz b kf vf l).at w):∃m c,w.heap[b]?=some (.map m c)/\m.toList.map (λe=>(e.key,e.val))=l.map (λp=>(kf p.1,vf p.2))/\Es m c:=h
omit [DecidableEq α] in
theorem HE {t:TypeId} {d:Nat} (kf:α->Value) (vf:β->Value) (ho:o.op=.makeMap t none) (hd:o.dst=some d) (hn:d.blt n) (h:∀b,Pre n ((d,.map (some b))::L) (St w0 D (Dz b kf vf []::H)) K):EOp P n L (St w0 D H) o Q K :=
 EOp.val (β:=Nat) (λb=>.map (some b)) Tr (λb=>St w0 D (Dz b kf vf []::H)) hd hn (λa w k x =>
  ⟨w.heap.size,w.alloc (.map #[] 0),by simp[execOp,ho,Instr.makeMap,newObj]; rfl,T0,x.alloc ⟨#[],0,rfl,rfl,by intro x hx; simp at hx,nD⟩⟩) (λb _=>h b)
omit [DecidableEq α] in
theorem NL {m:Array MapEntry} {c:Nat} {k v:Value} (h:Es m c):Es (m.push {key:=k,val:=v,born:=c}) (c+1):=by
 refine⟨λx hx=>?_,?_⟩
 .rw[Array.toList_push] at hx
  rcases mT.1 hx with hx|hx
  .have:=h.1 x hx; omega
  .simp only[nq] at hx; subst hx; exact Nat.lt_succ_self _
 .rw[Array.toList_push,mn,nJ]
  refine⟨h.2,by simp,λa ha b hb e=>?_⟩
  obtain⟨x,hx,rfl⟩:=lP.1 ha
  simp only[ma,mb,nq] at hb
  have:=h.1 x hx
  omega
omit [DecidableEq α] in
theorem O4 (m:Array MapEntry) (i:Nat) (k v:Value):(m.modify i λe=>{e with key:=k,val:=v}).toList.map (·.born)=m.toList.map (·.born):=by
 refine lY (λj=>?_)
 simp only[lS,ow,Array.getElem?_modify]
 split
 .rename_i hij; subst hij; cases m[i]?<;>rfl
 .rfl
omit [DecidableEq α] in
theorem Kp {m:Array MapEntry} {c i:Nat} {k v:Value} (h:Es m c):Es (m.modify i λe=>{e with key:=k,val:=v}) c:=by
 have hb:=O4 m i k v
 refine⟨λx hx=>?_,by rw[hb]; exact h.2⟩
 have:x.born∈m.toList.map (·.born):=by rw[<-hb]; exact lP.2 ⟨x,hx,rfl⟩
 obtain⟨y,hy,e⟩:=lP.1 this
 rw[<-e]; exact h.1 y hy
omit [DecidableEq α] in
theorem L6 {m:Array MapEntry} {c i:Nat} (h:Es m c) (hi:i<m.size):Es (m.eraseIdxIfInBounds i) c:=by
 have he:(m.eraseIdxIfInBounds i).toList=m.toList.eraseIdx i:=by
  unfold Array.eraseIdxIfInBounds
  rw[dif_pos hi]; simp
 have hs:(m.toList.eraseIdx i).Sublist m.toList:=List.eraseIdx_sublist ..
 exact⟨λx hx=>h.1 x (hs.subset (by rw[he] at hx; exact hx)),by rw[he]; exact h.2.sublist (hs.map _)⟩
theorem Wo {t kt vt:TypeId} {b:Nat} {l:List (α×β)} {w:World} (a:α) (v:β) (ht:P.underlying t=some (.map kt vt)) (hK:Ia P kt kf) (h:St w0 D (Dz b kf vf l::H) w) :
 ∃w',(Instr.mapUpdate t (.map (some b)) (kf a) (vf v)).run P w=.ok () w'/\St w0 D (Dz b kf vf (mput a v l)::H) w':=by
 obtain⟨m,c,hm,hl,hT⟩:=Ib (h.at 0 rfl)
 have hlt:b<w.heap.size:=(lH.1 hm).1
 have hg:(getObj b).run P w=.ok (.map m c) w:=by simp[getObj,Sem.run,hm]
 have hs:∀m' c',(setObj b (.map m' c')).run P w=.ok () {w with heap:=w.heap.setIfInBounds b (.map m' c')}:=λm' c'=>by simp[setObj,Sem.run,hm]
 have hst:∀(m':Array MapEntry) (c':Nat) (l':List (α×β)),m'.toList.map (λe=>(e.key,e.val))=l'.map (λp=>(kf p.1,vf p.2))->Es m' c'->St w0 D (Dz b kf vf l'::H) {w with heap:=w.heap.setIfInBounds b (.map m' c')}:=λm' c' l' hl' hT' =>
  h.write rfl rfl rfl (by simp) (λk hk=>by simp[ni,nj hk]) ⟨m',c',by simp[ni,hlt],hl',hT'⟩
 have hf:=hK.find w a m.toList β vf l hl
 unfold Instr.mapUpdate
 cases hfi:Dl a l 0 with
 |none =>
  rw[hfi] at hf
  simp only[Option.map_none] at hf
  refine⟨_,by simp[AW ht,hg,hK.ck,hf,hs],hst (m.push {key:=kf a,val:=vf v,born:=c}) (c+1) (mput a v l) ?_ (NL hT)⟩
  rw[Kk hfi]
  simp[hl]
 |some p =>
  obtain⟨i,y⟩:=p
  rw[hfi] at hf
  simp only[lU] at hf
  obtain⟨_,h2,h3⟩:=Hz (v:=v) hfi
  simp only[Nat.sub_zero] at h2 h3
  have hi:i<m.size:=by
   have h5:=(lR.1 h2).1
   have:=congrArg List.length hl
   simp at this; omega
  have hk:(m[i]?.map (·.key)).getD (kf a)=kf a:=by
   have h6:(m.toList.map (λe=>(e.key,e.val)))[i]?=some (kf a,vf y):=by rw[hl]; simp[h2]
   simp only[lS,ow,mP] at h6
   obtain⟨e,he,h7⟩:=h6
   rw[he]
   simp only[lU,lV]
   exact congrArg Prod.fst h7
  have hks:(Instr.keyThatStays (kf a) (kf a)).run P w=.ok (kf a) w:=by unfold Instr.keyThatStays; rw[lu (hK.same a)]; rfl
  refine⟨_,by simp[AW ht,hg,hK.ck,hf,hk,hks,hs],hst (m.modify i λe=>{e with key:=kf a,val:=vf v}) c (mput a v l) ?_ (Kp hT)⟩
  rw[h3]
  refine lY (λj=>?_)
  have hlj:(m.toList.map (λe=>(e.key,e.val)))[j]?=(l.map (λp=>(kf p.1,vf p.2)))[j]?:=by rw[hl]
  simp only[lS,ow] at hlj
  simp only[lS,ow,Array.getElem?_modify,oC]
  by_cases hij:i=j
  .subst hij
   have h5:=(lR.1 h2).1
   simp[hi,h5]
  .simp only[lz hij]
   exact hlj
theorem NM {t kt vt:TypeId} {x k y:Operand} {b:Nat} {l:List (α×β)} (a:α) (v:β) (ho:o.op=.mapUpdate t x k y) (hd:o.dst=none) (ht:P.underlying t=some (.map kt vt)) (hK:Ia P kt kf)
 (hx:ev L x=some (.map (some b))) (hk:ev L k=some (kf a)) (hy:ev L y=some (vf v)) (h:Pre n L (St w0 D (Dz b kf vf (mput a v l)::H)) K):EOp P n L (St w0 D (Dz b kf vf l::H)) o Q K :=
 EOp.skip _ hd (λac w kn hX=>by
  obtain⟨w',hr,h'⟩:=Wo (P:=P) a v ht hK hX
  exact⟨w',by simp[execOp,ho,kn.eval hx,kn.eval hk,kn.eval hy,hr],h'⟩) h
theorem O5 {t kt vt t2 ty:TypeId} {b:Nat} {l:List (α×β)} {w:World} (a:α) (ht:P.underlying t=some (.map kt vt)) (hK:Ia P kt kf) (h:St w0 D (Dz b kf vf l::H) w) :
 ∃w',(Builtin.delete_ #[t,t2] ty #[.map (some b),kf a]).run P w=.ok (.tuple #[]) w'/\St w0 D (Dz b kf vf (BP a l)::H) w':=by
 obtain⟨m,c,hm,hl,hT⟩:=Ib (h.at 0 rfl)
 have hlt:b<w.heap.size:=(lH.1 hm).1
 have hg:(getObj b).run P w=.ok (.map m c) w:=by simp[getObj,Sem.run,hm]
 have hs:∀m' c',(setObj b (.map m' c')).run P w=.ok () {w with heap:=w.heap.setIfInBounds b (.map m' c')}:=λm' c'=>by simp[setObj,Sem.run,hm]
 have hst:∀(m':Array MapEntry) (c':Nat) (l':List (α×β)),m'.toList.map (λe=>(e.key,e.val))=l'.map (λp=>(kf p.1,vf p.2))->Es m' c'->St w0 D (Dz b kf vf l'::H) {w with heap:=w.heap.setIfInBounds b (.map m' c')}:=λm' c' l' hl' hT' =>
  h.write rfl rfl rfl (by simp) (λk hk=>by simp[ni,nj hk]) ⟨m',c',by simp[ni,hlt],hl',hT'⟩
 have hf:=hK.find w a m.toList β vf l hl
 unfold Builtin.delete_
 cases hfi:Dl a l 0 with
 |none =>
  rw[hfi] at hf
  simp only[Option.map_none] at hf
  refine⟨_,by simp[AW ht,hg,hK.ck,hf,hs],hst m c (BP a l) ?_ hT⟩
  rw[Kn hfi]; exact hl
 |some p =>
  obtain⟨i,y⟩:=p
  rw[hfi] at hf
  simp only[lU] at hf
  obtain⟨_,h2⟩:=Ko hfi
  rw[Nat.sub_zero] at h2
  have hml:m.size=l.length:=by have:=congrArg List.length hl; simpa using this
  have hi:i<m.size:=by
   obtain⟨_,h5,_⟩:=Hz (v:=y) hfi
   have:=(lR.1 h5).1
   omega
  refine⟨_,by simp[AW ht,hg,hK.ck,hf,hs],hst (m.eraseIdxIfInBounds i) c (BP a l) ?_ (L6 hT hi)⟩
  rw[h2]
  have he:(m.eraseIdxIfInBounds i).toList=m.toList.eraseIdx i:=by
   unfold Array.eraseIdxIfInBounds
   rw[dif_pos hi]; simp
  rw[he,DG,hl,DG]
theorem IS {t kt vt t2:TypeId} {x k:Operand} {b:Nat} {l:List (α×β)} (a:α) (ho:o.op=.call ⟨.builtin .delete,#[x,k],#[t,t2]⟩) (hd:o.dst=none) (ht:P.underlying t=some (.map kt vt)) (hK:Ia P kt kf)
 (hx:ev L x=some (.map (some b))) (hk:ev L k=some (kf a)) (h:Pre n L (St w0 D (Dz b kf vf (BP a l)::H)) K):EOp P n L (St w0 D (Dz b kf vf l::H)) o Q K :=
 EOp.val0 (β:=Unit) (λ_=>.tuple #[]) Tr (λ_=>St w0 D (Dz b kf vf (BP a l)::H)) hd (λac w kn hX=>by
  obtain⟨w',hr,h'⟩:=O5 (P:=P) (t2:=t2) (ty:=o.type) a ht hK hX
  exact⟨(),w',by simp[execOp,ho,resolve,invoke,builtin,kn.eval hx,kn.eval hk,hr],T0,h'⟩) (λ_ _=>h)
theorem Kq {t kt vt:TypeId} {x k:Operand} {b:Nat} {l:List (α×β)} (a:α) {z:Value} (ho:o.op=.lookup t x k true) (ht:P.underlying t=some (.map kt vt)) (hK:Ia P kt kf) (hz:∀w,(zeroValue vt).run P w=.ok z w)
 (hx:ev L x=some (.map (some b))) (hk:ev L k=some (kf a)) (hr:∀w,X w->(Dz b kf vf l).at w):QOp P n L X o (.tuple #[match Co a l with|some y=>vf y|none=>z,.bool (Co a l).isSome]):=λac w kn hX=>by
 have:=Kl (P:=P) a ht hK hz (O3 (hr w hX)) true
 simp only[mA] at this
 simp[execOp,ho,kn.eval hx,kn.eval hk,this]
 try rfl
theorem Mw {t kt vt:TypeId} {x k:Operand} {b:Nat} {l:List (α×β)} (a:α) {z:Value} (ho:o.op=.lookup t x k false) (ht:P.underlying t=some (.map kt vt)) (hK:Ia P kt kf) (hz:∀w,(zeroValue vt).run P w=.ok z w)
 (hx:ev L x=some (.map (some b))) (hk:ev L k=some (kf a)) (hr:∀w,X w->(Dz b kf vf l).at w):QOp P n L X o (match Co a l with|some y=>vf y|none=>z):=λac w kn hX=>by
 have:=Kl (P:=P) a ht hK hz (O3 (hr w hX)) false
 simp only[ny,nz] at this
 simp[execOp,ho,kn.eval hx,kn.eval hk,this]
 try rfl
def Uy (b:Nat) (m:Array MapEntry) (c:Nat) (w:World):Prop:=w.heap[b]?=some (.map m c)
def itE (r b c:Nat) (seen:Array Nat):Ent:=⟨some r,λo=>o=some (.mapIter (some b) c seen c)⟩
omit [DecidableEq α] in
theorem IT {b:Nat} {m:Array MapEntry} {c:Nat} {w:World} (h:Uy b m c w0) (s:St w0 D H w) (hD:b∉D):Uy b m c w:=(s.keep.block b (lH.1 h).1 hD).trans h
omit [DecidableEq α] in
theorem Z2 {t kt vt:TypeId} {x:Operand} {d b c:Nat} {m:Array MapEntry} (ho:o.op=.range t x) (hd:o.dst=some d) (hn:d.blt n) (ht:P.underlying t=some (.map kt vt)) (hx:ev L x=some (.map (some b))) (hr:∀w,St w0 D H w->Uy b m c w)
 (h:∀r,Pre n ((d,pV r)::L) (St w0 D (itE r b c #[]::H)) K):EOp P n L (St w0 D H) o Q K :=
 EOp.val (β:=Nat) (λr=>pV r) Tr (λr=>St w0 D (itE r b c #[]::H)) hd hn (λa w k s =>
  ⟨w.heap.size,_,by simp[execOp,ho,k.eval hx,run_range_map w t kt vt b m c ht (hr w s)],T0,s.alloc rfl⟩) (λr _=>h r)
omit [DecidableEq α] in
theorem eQ {x:Operand} {d r b c:Nat} {m:Array MapEntry} {seen:Array Nat} (ho:o.op=.next x false) (hd:o.dst=some d) (hn:d.blt n) (hx:ev L x=some (pV r)) (hT:∀x∈m.toList,x.born<c)
 (hr:∀w,St w0 D (itE r b c seen::H) w->Uy b m c w)
 (h1:(leftOf m seen).size=0->Pre n ((d,.tuple #[.bool false])::L) (St w0 D (itE r b c seen::H)) K)
 (h2:∀e,e∈(leftOf m seen).toList->Pre n ((d,.tuple #[.bool true,e.key,e.val])::L) (St w0 D (itE r b c (seen.push e.born)::H)) K):EOp P n L (St w0 D (itE r b c seen::H)) o Q K :=
 EOp.val (β:=Option MapEntry) (λy=>match y with|none=>.tuple #[.bool false]|some e=>.tuple #[.bool true,e.key,e.val]) (λy=>match y with|none=>(leftOf m seen).size=0|some e=>e∈(leftOf m seen).toList)
  (λy=>match y with|none=>St w0 D (itE r b c seen::H)|some e=>St w0 D (itE r b c (seen.push e.born)::H)) hd hn (λa w k s=>by
  have hit:w.heap[r]?=some (.mapIter (some b) c seen c):=s.at 0 rfl
  rcases run_next_at (P:=P) w o.type r b c c seen m c hit (hr w s) hT (lJ _) with⟨h0,hrun⟩|⟨e,he,w1,hw1,hrun⟩
  .exact⟨none,w,by simp[execOp,ho,k.eval hx,hrun],h0,s⟩
  .refine⟨some e,ChangeMaps.setBlock w1 r (.mapIter (some b) c (seen.push e.born) c),by simp[execOp,ho,k.eval hx,hrun],he,?_⟩
   have s1:St w0 D (itE r b c seen::H) w1:=by
    rcases hw1 with rfl|rfl
    .exact s
    .exact s.drew
   have hlt:r<w1.heap.size:=by
    have:w1.heap[r]?=some (.mapIter (some b) c seen c):=s1.at 0 rfl
    exact (lH.1 this).1
   exact s1.write rfl rfl rfl (by simp[ChangeMaps.setBlock]) (λk hk=>by simp[ChangeMaps.setBlock,ni,nj hk]) (by simp[ChangeMaps.setBlock,ni,hlt])) (λy hy=>by
  cases y with
  |none=>exact h1 hy
  |some e=>exact h2 e hy)
omit [DecidableEq α] in
theorem Z6 {x:Operand} {r b c:Nat} {m:Array MapEntry} {seen:Array Nat} {e:MapEntry} (ho:o.op=.entry x) (hx:ev L x=some (pV r)) (hn:(m.toList.map (·.born)).Nodup) (he:e∈m.toList)
 (hr:∀w,X w->Uy b m c w) (hi:∀w,X w->(itE r b c (seen.push e.born)).at w):QOp P n L X o (.tuple #[e.key,e.val]):=λa w k hX=>by
 have:=run_entry_at (P:=P) w r b c seen m c e (hi w hX) (hr w hX) he hn
 simp[execOp,ho,k.eval hx,this]
def SR (m:Array MapEntry) (seen:Array Nat):Nat:=(m.toList.filter (λe=>!seen.contains e.born)).length
omit [DecidableEq α] in
theorem O6 {m:Array MapEntry} {seen:Array Nat} {e:MapEntry} (h:e∈(leftOf m seen).toList):e∈m.toList/\seen.contains e.born=false:=by
 unfold leftOf at h
 rw[Array.toList_filter] at h
 obtain⟨h1,h2⟩:=oD.1 h
 exact⟨h1,by simpa using h2⟩
omit [DecidableEq α] in
theorem Uz {m:Array MapEntry} {seen:Array Nat} {e:MapEntry} (h:e∈(leftOf m seen).toList):SR m (seen.push e.born)<SR m seen:=by
 obtain⟨h1,h2⟩:=O6 h
 unfold SR
 have h3:¬e.born∈seen:=by simpa using h2
 refine filter_lt _ _ (λx hx=>?_) e (by simp[h3]) (by simp) m.toList h1
 simp only[Array.contains_push,Bool.not_or,mz] at hx
 simp_all
omit [DecidableEq α] in
theorem UA {m:Array MapEntry} {seen:Array Nat} (h:(leftOf m seen).size=0):∀e∈m.toList,seen.contains e.born=true:=by
 intro e he
 cases hc:seen.contains e.born with
 |true=>rfl
 |false =>
  have:e∈(leftOf m seen).toList:=by
   unfold leftOf; rw[Array.toList_filter]; exact oD.2 ⟨he,by simpa using hc⟩
  have h0:(leftOf m seen).toList.length=0:=by simpa using h
  rw[lA h0] at this
  cases this
theorem Ent.keep {e:Ent} {w:World} {b:Nat} (h:e.at w0) (s:St w0 D H w) (hb:e.b=some b) (hlt:b<w0.heap.size) (hD:b∉D):e.at w:=Ent.at_congr (λk hk=>by rw[hb] at hk; cases hk; exact s.keep.block b hlt hD) h
omit [DecidableEq α] in
theorem O7 {b:Nat} {t:TypeId} {cs:List Value} {w:World} (h:(Ad b t cs).at w0) (s:St w0 D H w) (hD:b∉D):(Ad b t cs).at w:=by
 have h':w0.heap[b]?=some (.cells cs.toArray t (0,0)):=h
 exact Ent.keep h s rfl (lH.1 h').1 hD
omit [DecidableEq α] in
theorem Mx {b:Nat} {l:List (α×β)} {w:World} (h:(Dz b kf vf l).at w0) (s:St w0 D H w) (hD:b∉D):(Dz b kf vf l).at w:=by
 obtain⟨m,c,h1,_⟩:=Ib h
 exact Ent.keep h s rfl (lH.1 h1).1 hD
end
end Go.Sep
namespace Go.Proofs.YtloldofjddbjoaaGreat
open Go.Sep Go.RowKit Tryz
variable {B bc i j m C d:Nat} {α β:Type} {w w0:World} {z a0 a1 a2 a3 a4 a5 a6 a7 a8 a9 a10 e a11 a12 a13:Ent} {n b t:Int} {x y:Operand} {va:Value} {u:TypeId} {T pre:List Ent} {D:List Nat} {P:Program} {L:Env} {X:World->Prop} {o:Oper} {Q:Exit->Act->World->Prop} {K:Act->World->Prop} {q:Int×Int}
section
variable {n:Nat} {L:Env} {w0:World} {D:List Nat} {H:List Ent} {F:Act->World->Prop}
theorem My {z a0:Ent} (k:Pre n L (St w0 D (z::a0::a1::a2::a3::a4::a5::a6::H)) F):Pre n L (St w0 D (a0::a1::a2::a3::a4::a5::a6::z::H)) F:=k.world _ (λw s=>s.perm (oa (l₁:=[a0,a1,a2,a3,a4,a5,a6]) (l₂:=H)))
theorem dL {z a0:Ent} (k:Pre n L (St w0 D (z::a0::a1::a2::a3::a4::a5::a6::a7::H)) F):Pre n L (St w0 D (a0::a1::a2::a3::a4::a5::a6::a7::z::H)) F:=k.world _ (λw s=>s.perm (oa (l₁:=[a0,a1,a2,a3,a4,a5,a6,a7]) (l₂:=H)))
theorem HH {z a0:Ent} (k:Pre n L (St w0 D (z::a0::a1::a2::a3::a4::a5::a6::a7::a8::a9::H)) F):Pre n L (St w0 D (a0::a1::a2::a3::a4::a5::a6::a7::a8::a9::z::H)) F:=k.world _ (λw s=>s.perm (oa (l₁:=[a0,a1,a2,a3,a4,a5,a6,a7,a8,a9]) (l₂:=H)))
theorem IU {z a0:Ent} (k:Pre n L (St w0 D (z::a0::a1::a2::a3::a4::a5::a6::a7::a8::a9::a10::H)) F):Pre n L (St w0 D (a0::a1::a2::a3::a4::a5::a6::a7::a8::a9::a10::z::H)) F:=k.world _ (λw s=>s.perm (oa (l₁:=[a0,a1,a2,a3,a4,a5,a6,a7,a8,a9,a10]) (l₂:=H)))
theorem IV {z a0:Ent} (k:Pre n L (St w0 D (z::a0::a1::a2::a3::a4::a5::a6::a7::a8::a9::a10::a11::H)) F):Pre n L (St w0 D (a0::a1::a2::a3::a4::a5::a6::a7::a8::a9::a10::a11::z::H)) F:=k.world _ (λw s=>s.perm (oa (l₁:=[a0,a1,a2,a3,a4,a5,a6,a7,a8,a9,a10,a11]) (l₂:=H)))
theorem eR {z a0:Ent} (k:Pre n L (St w0 D (z::a0::a1::a2::a3::a4::a5::a6::a7::a8::a9::a10::a11::a12::H)) F):Pre n L (St w0 D (a0::a1::a2::a3::a4::a5::a6::a7::a8::a9::a10::a11::a12::z::H)) F:=k.world _ (λw s=>s.perm (oa (l₁:=[a0,a1,a2,a3,a4,a5,a6,a7,a8,a9,a10,a11,a12]) (l₂:=H)))
theorem eS {z a0:Ent} (k:Pre n L (St w0 D (z::a0::a1::a2::a3::a4::a5::a6::a7::a8::a9::a10::a11::a12::a13::H)) F):Pre n L (St w0 D (a0::a1::a2::a3::a4::a5::a6::a7::a8::a9::a10::a11::a12::a13::z::H)) F:=k.world _ (λw s=>s.perm (oa (l₁:=[a0,a1,a2,a3,a4,a5,a6,a7,a8,a9,a10,a11,a12,a13]) (l₂:=H)))
theorem eT {z a0 a14 a15:Ent} (k:Pre n L (St w0 D (z::a0::a1::a2::a3::a4::a5::a6::a7::a8::a9::a10::a11::a12::a13::a14::a15::H)) F):Pre n L (St w0 D (a0::a1::a2::a3::a4::a5::a6::a7::a8::a9::a10::a11::a12::a13::a14::a15::z::H)) F:=k.world _ (λw s=>s.perm (oa (l₁:=[a0,a1,a2,a3,a4,a5,a6,a7,a8,a9,a10,a11,a12,a13,a14,a15]) (l₂:=H)))
end
def kv0 (m:Nat):Kv m:=⟨0,List.replicate m 0,by simp,by decide,λx h=>by rw[(mU.1 h).2]; decide⟩
theorem Wp {k:Nat} (h:k<=65536):(Lit.int .i64 (k:Int)).wf=true:=by
 simp only[Lit.wf,mz,mS]
 exact⟨by show (-2^63:Int)<=_; omega,by show _<=(2^63-1:Int); omega⟩
theorem GV (l:List Int):(AH .u8).flat l=l.map (.int .u8):=Mq (AH .u8) (Value.int .u8) (λ_=>rfl) l
theorem eU (k:Kv m) {j:Nat} (h:j<m):k.c[1+j]?=some (.int .u8 (k.b.getD j 0)):=by
 rw[mM]
 have hj:j<k.b.length:=by rw[k.len]; exact h
 simp[Kv.c,om,hj]
def kck (k:Kv 8):Bool:=decide (0<=k.n/\k.n<=8/\∀i:Nat,i<8->k.n<=(i:Int)->k.b.getD i 0=0)
theorem Wq {k:Kv 8} (h:k.n<0):kck k=false:=oc (λx=>by omega)
theorem Ws {k:Kv 8} (h:8<k.n):kck k=false:=oc (λx=>by omega)
theorem eV {k:Kv 8} {i:Nat} (h:i<8) (hn:k.n<=(i:Int)) (hb:¬k.b.getD i 0=0):kck k=false:=oc (λq=>hb (q.2.2 i h hn))
theorem SS {k:Kv 8} {m:Nat} (hm:k.n=(m:Int)) (h8:m<=8) (hz:∀j,m<=j->j<8->k.b.getD j 0=0):kck k=true:=od ⟨by omega,by omega,λi h1 h2=>hz i (by omega) h1⟩
theorem Bb (k:Kv m):(k.c.drop 0).take (m+1)=k.c:=lI (by rw[lE,Kv.ko]; exact lJ _)
def UB (k:Kv 8) (n:Nat) (h:n<=8):Kv 8:=⟨n,k.b.take n++List.replicate (8-n) 0,by simp[k.len]; omega,Wp (by omega),λx hx=>by
 rcases mT.1 hx with hx|hx
 .exact k.wb x (kZ hx)
 .rw[(mU.1 hx).2]; decide⟩
theorem Z7 (k:Kv 8) {n:Nat} (hn:k.n=(n:Int)) (h:n<=8):decide (UB k n h=k)=kck k:=by
 unfold kck
 rw[oE]
 have hlen:(k.b.take n++List.replicate (8-n) 0).length=8:=by simp[k.len]; omega
 constructor
 .intro e
  refine⟨by omega,by omega,λi hi hni=>?_⟩
  have hb:k.b=k.b.take n++List.replicate (8-n) 0:=(congrArg Kv.b e).symm
  rw[hb,om,lx (by simp; omega),mO]
  split<;>rfl
 .rintro⟨_,_,hz⟩
  have hl:k.b.take n++List.replicate (8-n) 0=k.b:=List.ext_getElem (by rw[k.len]; exact hlen) (λi h1 h2=>by
   have hi:i<8:=by rw[<-k.len]; exact h2
   rcases k6 i n with hin|hin
   .rw[List.getElem_append_left (by simp; omega),List.getElem_take]
   .rw[List.getElem_append_right (by simp; omega),List.getElem_replicate]
    have:=hz i hi (by omega)
    rw[om,kY h2] at this
    exact this.symm)
  exact Kv.ext' hn.symm hl
def kz (m:Nat) (n:Int) (h:(Lit.int .i64 n).wf=true):Kv m:=⟨n,List.replicate m 0,by simp,h,λx h=>by rw[(mU.1 h).2]; decide⟩
theorem iy (k:Kv 8) {n:Nat} (h:n<=8):Sep.splice (.int .i64 (n:Int)::List.replicate 8 (.int .u8 0)) 1 ((AH .u8).flat (k.b.take (min k.b.length n)))=(UB k n h).c:=by
 have hm:min k.b.length n=n:=by rw[k.len]; omega
 have hl:(k.b.take n).length=n:=by simp[k.len]; omega
 rw[hm,GV,Sep.splice_eq _ _ _ (by simp[k.len]; omega)]
 simp only[mB,hl,Kv.c,UB,mn,mC]
 rw[mM 1 n,kX,List.take_zero,mD,List.drop_replicate]
 rfl
theorem ES (s:ByteArray):(byt s).length=s.size:=by unfold byt; rw[mB,mX]; rfl
def NN (x:Int):Prop:=0<=x/\x<=255
theorem Wu {s:ByteArray} {x:Int} (h:x∈byt s):NN x:=by
 obtain⟨b,_,rfl⟩:=lP.1 h
 have:=b.toNat_lt
 exact⟨by omega,by omega⟩
theorem Z8 {x:Int} (h:NN x):(Lit.int .u8 x).wf=true:=by
 simp only[Lit.wf,mz,mS]; exact h
theorem ae {x:Int} (h:(Lit.int .u8 x).wf):NN x:=Sep.wf_u8 h
def kmk (t:List Int) (hl:t.length<=8) (hb:∀x∈t,NN x):Kv 8:=⟨t.length,t++List.replicate (8-t.length) 0,by simp; omega,Wp (by omega),λx hx=>by
 rcases mT.1 hx with hx|hx
 .exact Z8 (hb x hx)
 .rw[(mU.1 hx).2]; decide⟩
theorem Ww (t:List Int) (hl:t.length<=8) (hb:∀x∈t,NN x):kck (kmk t hl hb)=true:=by
 refine SS (m:=t.length) I hl (λj h1 h2=>?_)
 show (t++List.replicate (8-t.length) 0).getD j 0=0
 rw[om,lx h1,mO]
 split<;>rfl
def kof (s:ByteArray) (h:s.size<=8):Kv 8:=kmk (byt s) (by rw[ES]; exact h) (λx hx=>Wu hx)
def tx (k:Kv 8):List Int:=if kck k then k.b.take k.n.toNat else []
theorem DU {k:Kv 8} (h:kck k):∃m:Nat,k.n=(m:Int)/\m<=8/\tx k=k.b.take m/\(tx k).length=m/\k.b=tx k++List.replicate (8-m) 0:=by
 have h0:=h
 unfold kck at h
 obtain⟨h1,h2,h3⟩:=oh h
 refine⟨k.n.toNat,by omega,by omega,by unfold tx; rw[h0]; rfl,by unfold tx; rw[h0]; simp[k.len]; omega,?_⟩
 have ht:tx k=k.b.take k.n.toNat:=by unfold tx; rw[h0]; rfl
 rw[ht]
 refine List.ext_getElem (by simp[k.len]; omega) (λi g1 g2=>?_)
 have hi:i<8:=by rw[<-k.len]; exact g1
 rcases k6 i k.n.toNat with hin|hin
 .rw[List.getElem_append_left (by simp; omega),List.getElem_take]
 .rw[List.getElem_append_right (by simp; omega),List.getElem_replicate]
  have:=h3 i hi (by omega)
  rw[om,kY g1] at this
  exact this
theorem SU {k:Kv 8} {x:Int} (h:x∈tx k):NN x:=by
 unfold tx at h
 split at h
 .exact ae (k.wb x (kZ h))
 .cases h
theorem SV {a b:Kv 8} (ha:kck a) (hb:kck b) (h:tx a=tx b):a=b:=by
 obtain⟨m,h1,_,_,h2,h3⟩:=DU ha
 obtain⟨k,g1,_,_,g2,g3⟩:=DU hb
 have e:m=k:=by rw[<-h2,<-g2,h]
 subst e
 exact Kv.ext' (by rw[h1,g1]) (by rw[h3,g3,h])
def Dn:List Int->List Int->Int
 |[],[]=>0
 |[],_::_=>-1
 |_::_,[]=>1
 |x::xs,y::ys=>if x<y then -1 else if y<x then 1 else Dn xs ys
theorem SX:∀(l m:List Int),(∀x∈l,NN x)->(∀x∈m,NN x)->Lib.compareBytes (l.map λn=>UInt8.ofNat n.toNat) (m.map λn=>UInt8.ofNat n.toNat)=Dn l m
 |[],[],_,_=>rfl
 |[],_::_,_,_=>rfl
 |_::_,[],_,_=>rfl
 |x::xs,y::ys,hx,hy=>by
  have h1:=hx x (ns ..)
  have h2:=hy y (ns ..)
  unfold NN at h1 h2
  have hlt:∀{a b:Int},0<=a->a<=255->0<=b->b<=255->((UInt8.ofNat a.toNat<UInt8.ofNat b.toNat)↔a<b):=λ{a b} h1 h2 h3 h4=>by
   have e:∀n:Nat,(UInt8.ofNat n).toNat=n%256:=λn=>by simp
   rw[UInt8.lt_iff_toNat_lt,e,e]
   omega
  have e1:=hlt h1.1 h1.2 h2.1 h2.2
  have e2:=hlt h2.1 h2.2 h1.1 h1.2
  simp only[ma,Lib.compareBytes,Dn,e1,e2]
  rw[SX xs ys (λz hz=>hx z (nG _ hz)) (λz hz=>hy z (nG _ hz))]
theorem O8:∀l:List Int,Dn l l=0
 |[]=>rfl
 |x::l=>by simp[Dn,O8 l]
theorem NO:∀l m:List Int,Dn m l = -Dn l m
 |[],[]=>rfl
 |[],_::_=>rfl
 |_::_,[]=>rfl
 |x::xs,y::ys=>by
  simp only[Dn]
  by_cases h1:x<y
  .have:¬y<x:=by omega
   simp[h1,this]
  .by_cases h2:y<x
   .simp[h1,h2]
   .simp[h1,h2,NO xs ys]
theorem Gu:∀{l m:List Int},Dn l m=0->l=m
 |[],[],_=>rfl
 |[],_::_,h=>by cases h
 |_::_,[],h=>by cases h
 |x::xs,y::ys,h=>by
  simp only[Dn] at h
  split at h
  .cases h
  .split at h
   .cases h
   .rw[Gu h,show x=y by omega]
theorem UC:∀l m:List Int,Dn l m = -1\/Dn l m=0\/Dn l m=1
 |[],[]=>.inr (.inl rfl)
 |[],_::_=>.inl rfl
 |_::_,[]=>.inr (.inr rfl)
 |x::xs,y::ys=>by
  simp only[Dn]
  split
  .exact .inl I
  .split
   .exact .inr (.inr I)
   .exact UC xs ys
theorem Mz:∀{a b c:List Int},Dn a b<=0->Dn b c<=0->Dn a c<=0
 |[],_,[],_,_=>by simp[Dn]
 |[],_,_::_,_,_=>by simp[Dn]
 |_::_,[],_,h,_=>by simp[Dn] at h
 |_::_,_::_,[],_,h=>by simp[Dn] at h
 |x::xs,y::ys,z::zs,h1,h2=>by
  simp only[Dn] at h1 h2 ⊢
  by_cases a1:x<y
  .by_cases b1:y<z
   .simp[show x<z by omega]
   .by_cases b2:z<y
    .simp[b1,b2] at h2
    .simp[show x<z by omega]
  .by_cases a2:y<x
   .simp[a1,a2] at h1
   .by_cases b1:y<z
    .simp[show x<z by omega]
    .by_cases b2:z<y
     .simp[b1,b2] at h2
     .simp[a1,a2] at h1
      simp[b1,b2] at h2
      simp[show ¬x<z by omega,show ¬z<x by omega]
      exact Mz h1 h2
theorem E7 {a b c:List Int} (h1:Dn a b<0) (h2:Dn b c<=0):Dn a c<0:=by
 have:=Mz (mi h1) h2
 rcases Int.lt_or_eq_of_le this with h|h
 .exact h
 .have e:=Gu h
  subst e
  have:=NO a b
  omega
def Bq (a b:Kv 8):Int:=Dn (tx a) (tx b)
theorem MA (n:Int):(DY n).take 8=le n 8:=by
 unfold DY pad
 rw[nX (by rw[B1]; exact lJ _)]
 exact lI (by rw[B1]; exact lJ _)
theorem Wx (n:Int) (h0:0<=n) (h1:n<18446744073709551616):num ((DY n).take 8)=n:=by
 rw[MA,eu 8 n h0]
 exact Int.emod_eq_of_lt h0 (by omega)
theorem ag (n:Int):∀b∈DY n,(Lit.int .u8 b).wf=true:=Q1 16 (λb hb=>wf_u8 (Ss 8 n b hb).1 (Ss 8 n b hb).2)
theorem Jv (n:Int):C2 8 (DY n)=true:=by
 have:=Kc 8 (DY n) (by decide)
 rw[show ((8:Nat):Int)=8 from rfl] at this
 rw[this,MA]; simp[DY]
theorem Rj (a b:Int):IntKind.u64.wrap (IntKind.u64.wrap a+b)=IntKind.u64.wrap (a+b):=by simp only[kS]; omega
theorem Rk (a b:Int):IntKind.u64.wrap (a+IntKind.u64.wrap b)=IntKind.u64.wrap (a+b):=by simp only[kS]; omega
theorem SY (a:Int):0<=IntKind.u64.wrap a/\IntKind.u64.wrap a<18446744073709551616:=by simp only[kS]; omega
theorem SZ {a:Int} (h0:0<=a) (h1:a<18446744073709551616):IntKind.u64.wrap a=a:=by simp only[kS]; omega
def vck (k:Kv 16):Bool:=C2 k.n k.b
def Kr (z:Int):Kv 16:=⟨8,DY z,Ev z,by decide,ag z⟩
def CX (k:Kv 16) (z:Int):Kv 16:=Kr (IntKind.u64.wrap (num (k.b.take 8)+z))
structure Ms where
 kind:Int
 seq:Int
 key:Kv 8
 val:Kv 16
 by':Int
 wk:(Lit.int .i64 kind).wf=true
 ws:(Lit.int .u64 seq).wf=true
 wy:(Lit.int .u64 by').wf=true
namespace Ms
def c (m:Ms):List Value:=[.int .i64 m.kind,.int .u64 m.seq]++(m.key.c++(m.val.c++[.int .u64 m.by']))
theorem ext' {a b:Ms} (h1:a.kind=b.kind) (h2:a.seq=b.seq) (h3:a.key=b.key) (h4:a.val=b.val) (h5:a.by'=b.by'):a=b:=by
 cases a; cases b; simp only at h1 h2 h3 h4 h5; subst h1; subst h2; subst h3; subst h4; subst h5; rfl
instance:DecidableEq Ms:=λa b=>if h:a.kind=b.kind/\a.seq=b.seq/\a.key=b.key/\a.val=b.val/\a.by'=b.by' then isTrue (ext' h.1 h.2.1 h.2.2.1 h.2.2.2.1 h.2.2.2.2) else isFalse (λe=>h (by subst e; exact⟨rfl,rfl,rfl,rfl,rfl⟩))
theorem ko (m:Ms):m.c.length=29:=by simp[c,Kv.ko]
theorem kK (m:Ms):(m.c.drop 2).take 9=m.key.c:=O1 rfl (Kv.ko _)
theorem val_part (m:Ms):(m.c.drop 11).take 17=m.val.c:=by
 unfold c; rw[<-mj]; exact O1 (by simp[Kv.ko]) (Kv.ko _)
theorem by_part (m:Ms):m.c[28]?=some (.int .u64 m.by'):=by
 unfold c; rw[<-mj,<-mj,lx (by simp[Kv.ko])]; simp[Kv.ko]
theorem valn_part (m:Ms):m.c[11]?=some (.int .i64 m.val.n):=by
 unfold c; rw[<-mj,lx (by simp[Kv.ko])]; simp[Kv.c,m.key.len]
def setKind (m:Ms) (k:Int) (h:(Lit.int .i64 k).wf=true):Ms:={m with kind:=k,wk:=h}
def setKey (m:Ms) (k:Kv 8):Ms:={m with key:=k}
def setVal (m:Ms) (v:Kv 16):Ms:={m with val:=v}
def setBy (m:Ms) (z:Int) (h:(Lit.int .u64 z).wf=true):Ms:={m with by':=z,wy:=h}
theorem set_kind (m:Ms) (k:Int) (h:(Lit.int .i64 k).wf):m.c.set 0 (.int .i64 k)=(m.setKind k h).c:=rfl
theorem set_val (m:Ms) (v:Kv 16):Sep.splice m.c 11 v.c=(m.setVal v).c:=by
 unfold c; rw[<-mj]
 rw[splice_mid (by simp[Kv.ko]) (by rw[Kv.ko,Kv.ko]),mj]; rfl
theorem set_by (m:Ms) (z:Int) (h:(Lit.int .u64 z).wf):m.c.set 28 (.int .u64 z)=(m.setBy z h).c:=by
 unfold c; rw[<-mj,<-mj,m6 _ _ (by simp[Kv.ko])]
 simp[Kv.ko,setBy]
theorem one (m:Ms):∀v∈m.c,v.oneCell'=true:=by
 intro v hv
 unfold c at hv
 simp only[mT,kN,nt,nu] at hv
 rcases hv with (rfl|rfl)|hv|hv|rfl
 .rfl
 .rfl
 .exact Kv.one _ v hv
 .exact Kv.one _ v hv
 .rfl
theorem c_inj {a b:Ms}:a.c=b.c↔a=b:=by
 refine⟨λh=>?_,λh=>by rw[h]⟩
 have h2:=h
 unfold c at h
 simp only[kP,mw,List.cons.injEq,Value.int.injEq,true_and] at h
 have hk:a.key.c=b.key.c:=by rw[<-kK,<-kK,h2]
 have hv:a.val.c=b.val.c:=by rw[<-val_part,<-val_part,h2]
 have hb:a.c[28]?=b.c[28]?:=by rw[h2]
 rw[by_part,by_part] at hb
 exact ext' h.1 h.2.1 (Kv.c_inj.1 hk) (Kv.c_inj.1 hv) (by simpa using hb)
theorem eqb {a b:Ms}:a.c=b.c↔decide (a=b)=true:=by rw[c_inj,mS]
def enc:Enc Ms:={sz:=29,f:=Ms.c,len:=ko,pos:=by decide,one:=one}
def ks:List Sc:=[Sc.i .i64,Sc.i .u64]++(Kv.ks 8++(Kv.ks 16++[Sc.i .u64]))
end Ms
theorem EX {a b:List Sc} {xs ys:List Value} (h1:Kinds a xs) (h2:Kinds b ys):Kinds (a++b) (xs++ys):=by
 refine⟨by rw[lp,lp,h1.1,h2.1],λj q v g1 g2=>?_⟩
 rcases k6 j a.length with hj|hj
 .rw[lq hj] at g1
  rw[lq (by have:=h1.1; omega)] at g2
  exact h1.2 j q v g1 g2
 .rw[lx hj] at g1
  rw[lx (by have:=h1.1; omega),h1.1] at g2
  exact h2.2 _ q v g1 (by have:=h1.1; first|exact g2|(rw[this] at *; exact g2))
theorem IW {k:Sc} {v:Value} (h:k.ok v):Kinds [k] [v]:=⟨rfl,λj q u g1 g2=>by
 cases j with
 |zero=>simp at g1 g2; subst g1; subst g2; exact h
 |succ j=>simp at g1⟩
theorem Ms.kinds (m:Ms):Kinds Ms.ks m.c:=by
 have h0:Kinds [Sc.i .i64,Sc.i .u64] [Value.int .i64 m.kind,Value.int .u64 m.seq]:=EX (a:=[_]) (xs:=[_]) (IW (show Sc.ok (.i .i64) _ from⟨_,rfl,m.wk⟩)) (IW (show Sc.ok (.i .u64) _ from⟨_,rfl,m.ws⟩))
 exact EX h0 (EX (Kv.kinds m.key) (EX (Kv.kinds m.val) (IW (show Sc.ok (.i .u64) _ from⟨_,rfl,m.wy⟩))))
section
variable {n:Nat} {L:Env} {X:World->Prop} {o:Oper}
theorem S0 (k j:Kv 8) (ho:o.op=.binOp .eql 77 x y u) (hx:ev L x=some (.agg k.c.toArray)) (hy:ev L y=some (.agg j.c.toArray)):QOp prog n L X o (.bool (decide (k=j))) :=
 JU (d:=3) (ks:=Kv.ks 8) _ (by kernel_rfl) (by kernel_rfl) (by decide) (by kernel_rfl) (by kernel_rfl) (by kernel_rfl) ho hx hy (Kv.kinds k) (Kv.kinds j) Kv.eqb
theorem iz (k j:Kv 8) (ho:o.op=.binOp .neq 77 x y u) (hx:ev L x=some (.agg k.c.toArray)) (hy:ev L y=some (.agg j.c.toArray)):QOp prog n L X o (.bool (!decide (k=j))) :=
 NI (d:=3) (ks:=Kv.ks 8) _ (by kernel_rfl) (by kernel_rfl) (by decide) (by kernel_rfl) (by kernel_rfl) (by kernel_rfl) ho hx hy (Kv.kinds k) (Kv.kinds j) Kv.eqb
theorem Ku (k j:Kv 16) (ho:o.op=.binOp .eql 56 x y u) (hx:ev L x=some (.agg k.c.toArray)) (hy:ev L y=some (.agg j.c.toArray)):QOp prog n L X o (.bool (decide (k=j))) :=
 JU (d:=3) (ks:=Kv.ks 16) _ (by kernel_rfl) (by kernel_rfl) (by decide) (by kernel_rfl) (by kernel_rfl) (by kernel_rfl) ho hx hy (Kv.kinds k) (Kv.kinds j) Kv.eqb
end
def mck (m:Ms):Bool:=kck m.key&&(if m.kind=1 then vck m.val&&decide (m.by'=0) else if m.kind=2 then decide (m.by'=0)&&decide (m.val=kv0 16) else if m.kind=3 then decide (m.val=kv0 16) else false)
theorem Br (m:Ms):(m.c.drop 0).take 29=m.c:=lI (by rw[lE,Ms.ko]; exact lJ _)
theorem IX {k:Kv 8} (h:kck k):0<=k.n/\k.n<=8:=by
 unfold kck at h; have:=oh h; exact⟨this.1,this.2.1⟩
theorem IY {k:Kv 16} (h:vck k):0<=k.n/\k.n<=16:=by
 unfold vck C2 at h; have:=oh h; exact⟨this.1,this.2.1⟩
def ms0:Ms:=⟨0,0,kv0 8,kv0 16,0,by decide,by decide,by decide⟩
def mby (m:Ms):Int:=if mck m=true then 10+m.key.n+(if m.kind=1 then 1+m.val.n else if m.kind=3 then 8 else 0) else 0
theorem S1 {m:Ms} (h:mck m):0<=m.key.n/\m.key.n<=8:=by
 unfold mck at h; rw[mz] at h; exact IX h.1
theorem S2 {m:Ms} (h:mck m) (hk:m.kind=1):0<=m.val.n/\m.val.n<=16:=by
 unfold mck at h; rw[mz,lu hk,mz] at h; exact IY h.2.1
theorem GW (z:Int):(Lit.int .u64 (IntKind.u64.wrap z)).wf=true:=by
 have:=SY z
 simp only[Lit.wf,mz,mS]
 exact⟨this.1,by show _<=(2^64-1:Int); omega⟩
theorem Rl {z:Int} (h:(Lit.int .u64 z).wf):0<=z/\z<18446744073709551616:=by have:=Sep.wf_u64 h; omega
def mco (a b:Ms):Ms:=if b.kind≠3\/a.key≠b.key then b else if a.kind=2 then {b with kind:=1,val:=CX (kv0 16) b.by',by':=0,wk:=by decide,wy:=by decide} else
 if a.kind=1 then {b with kind:=1,val:=CX a.val b.by',by':=0,wk:=by decide,wy:=by decide} else if a.kind=3 then {b with by':=IntKind.u64.wrap (b.by'+a.by'),wy:=GW _} else b
def Cp (v:Kv 16) (t:Bool) (m:Ms):Kv 16×Bool:=if m.kind=1 then (m.val,true) else if m.kind=3 then (CX (if t=true then v else kv0 16) m.by',true) else (kv0 16,false)
def rap (v:Kv 16) (t:Bool) (m:Ms):Kv 16×Bool:=if m.kind=1 then (m.val,true) else if m.kind=2 then (kv0 16,false) else if t=true then (CX v m.by',true) else (Kr m.by',true)
theorem iA {z:Int} (h:(Lit.int .u64 z).wf):CX (kv0 16) z=Kr z:=by
 have:=Rl h
 unfold CX
 rw[show num ((kv0 16).b.take 8)=0 from by decide,Int.zero_add,SZ this.1 this.2]
theorem MB {m:Ms} (h:mck m):m.kind=1\/m.kind=2\/m.kind=3:=by
 unfold mck at h
 rw[mz] at h
 have h2:=h.2
 split at h2
 .exact .inl ‹_›
 .split at h2
  .exact .inr (.inl ‹_›)
  .split at h2
   .exact .inr (.inr ‹_›)
   .cases h2
theorem ah {m:Ms} (h:mck m) (hk:m.kind=3):m.val=kv0 16:=by
 unfold mck at h
 rw[mz,lz (by omega),lz (by omega),lu hk] at h
 exact oh h.2
theorem Gv (k:Kv 8):∃a b c d e f g h:Int,k.b=[a,b,c,d,e,f,g,h]:=by
 obtain⟨n,b,len,_,_⟩:=k
 match b,len with
 |[a,b,c,d,e,f,g,h],_=>exact⟨a,b,c,d,e,f,g,h,rfl⟩
def B7 {α:Type} (p:α->Bool) (l:List α):Option Nat:=l.findIdx? p
def io:Option Nat->Int
 |some k=>(k:Int)
 |none=>-1
theorem C7 {p:α->Bool} {l:List α} {k:Nat} {y:α} (hy:l[k]?=some y) (hp:p y) (hn:∀z∈l.take k,p z=false):B7 p l=some k:=by
 unfold B7
 have hk:=(lR.1 hy).1
 rw[List.findIdx?_eq_some_iff_getElem]
 refine⟨hk,by rw[(lR.1 hy).2]; exact hp,λj hj=>?_⟩
 have:=hn l[j] (by rw[List.mem_take_iff_getElem]; exact⟨j,by omega,rfl⟩)
 simp[this]
theorem C8 {p:α->Bool} {l:List α} (hn:∀z∈l,p z=false):B7 p l=none:=by
 unfold B7; rw[List.findIdx?_eq_none_iff]; exact hn
theorem C4 {p:α->Bool} {l:List α} {k:Nat} (h:B7 p l=some k):∃y,l[k]?=some y/\p y=true/\∀j z,j<k->l[j]?=some z->p z=false:=by
 unfold B7 at h
 rw[List.findIdx?_eq_some_iff_getElem] at h
 obtain⟨hk,hp,hn⟩:=h
 refine⟨l[k],kY hk,hp,λj z hj hz=>?_⟩
 have:=hn j hj
 rw[<-(lR.1 hz).2]; simpa using this
theorem JV {p:α->Bool} {l:List α} (h:B7 p l=none):∀z∈l,p z=false:=by
 unfold B7 at h; rw[List.findIdx?_eq_none_iff] at h; exact h
theorem O9 (f:α->β) (p:β->Bool) (l:List α):B7 p (l.map f)=B7 (λx=>p (f x)) l:=by
 unfold B7; rw[List.findIdx?_map]; rfl
theorem EY {p:α->Bool} {l:List α} {k:Nat} {y:α} (h:∀z∈l.take k,p z=false) (hy:l[k]?=some y) (hn:p y=false):∀z∈l.take (k+1),p z=false:=λz hz=>by
 rw[nT,hy] at hz
 rcases mT.1 hz with hz|hz
 .exact h z hz
 .simp at hz; subst hz; exact hn
theorem Pa {o:Option Nat}:decide (0<=io o)=o.isSome:=by cases o with
 |none=>rfl
 |some k=>exact od (by simp[io])
structure Sv where
 a:Option Addr
 n:Nat
 c:Nat
abbrev Sv.v (s:Sv):Value:=.slice s.a s.n s.c
def sv0:Sv:=⟨none,0,0⟩
structure En where
 key:Kv 8
 val:Kv 16
namespace En
def c (e:En):List Value:=e.key.c++e.val.c
theorem ko (e:En):e.c.length=26:=by simp[c,Kv.ko]
theorem one (e:En):∀v∈e.c,v.oneCell'=true:=λv hv=>by
 rcases mT.1 hv with hv|hv
 .exact Kv.one _ _ hv
 .exact Kv.one _ _ hv
theorem ext' {a b:En} (h1:a.key=b.key) (h2:a.val=b.val):a=b:=by cases a; cases b; simp only at h1 h2; subst h1; subst h2; rfl
theorem c_inj {a b:En}:a.c=b.c↔a=b:=by
 refine⟨λh=>?_,λh=>by rw[h]⟩
 obtain⟨h1,h2⟩:=List.append_inj h (by rw[Kv.ko,Kv.ko])
 exact ext' (Kv.c_inj.1 h1) (Kv.c_inj.1 h2)
def ks:List Sc:=Kv.ks 8++Kv.ks 16
theorem kinds (e:En):Kinds ks e.c:=EX (Kv.kinds _) (Kv.kinds _)
theorem kK (e:En):(e.c.drop 0).take 9=e.key.c:=List.take_left' (Kv.ko _)
theorem val_part (e:En):(e.c.drop 9).take 17=e.val.c:=by
 unfold c
 rw[List.drop_left' (Kv.ko _)]
 exact lI (by rw[Kv.ko]; exact lJ _)
theorem whole (e:En):(e.c.drop 0).take 26=e.c:=lI (by rw[lE,ko]; exact lJ _)
def enc:Enc En:={sz:=26,f:=En.c,len:=ko,pos:=by decide,one:=one}
end En
instance:DecidableEq En:=λa b=>if h:a.key=b.key/\a.val=b.val then isTrue (En.ext' h.1 h.2) else isFalse (λe=>h (by subst e; exact⟨rfl,rfl⟩))
structure Nd where
 leaf:Bool
 es:List En
 kids:List Int
 piv:List (Kv 8)
 msgs:List Ms
deriving DecidableEq
def nd0:Nd:=⟨false,[],[],[],[]⟩
def ndL:Nd:=⟨true,[],[],[],[]⟩
structure Nd.Sm (n:Nd) (B:Nat):Prop where
 e:n.es.length<=B
 k:n.kids.length<=B
 p:n.piv.length<=B
 m:n.msgs.length<=B
theorem Nd.Sm.mono {n:Nd} (h:n.Sm B) (hc:B<=C):n.Sm C:=⟨mf h.e hc,mf h.k hc,mf h.p hc,mf h.m hc⟩
theorem NP (B:Nat):nd0.Sm B:=⟨lK _,lK _,lK _,lK _⟩
theorem Kw (B:Nat):ndL.Sm B:=⟨lK _,lK _,lK _,lK _⟩
structure N4 where
 e:Sv
 k:Sv
 p:Sv
 m:Sv
def n40:N4:=⟨sv0,sv0,sv0,sv0⟩
structure NV where
 s:N4
 d:Nd
abbrev Cb:Value:=.slice none 0 0
def NV.c (v:NV):List Value:=[.bool v.d.leaf,v.s.e.v,v.s.k.v,v.s.p.v,v.s.m.v]
def nv0:NV:=⟨n40,nd0⟩
def nvL:NV:=⟨n40,ndL⟩
theorem NV.ko (v:NV):v.c.length=5:=rfl
theorem NV.one (v:NV):∀x∈v.c,x.oneCell'=true:=λx hx=>by
 simp only[NV.c,kN,nt,nu] at hx
 rcases hx with rfl|rfl|rfl|rfl|rfl<;>rfl
abbrev Bv (s:Sv) (l:List En):Ent:=AA s.v 79 En.enc l
abbrev BY (s:Sv) (l:List Int):Ent:=AA s.v 3 (AH .i64) l
abbrev CF (s:Sv) (l:List (Kv 8)):Ent:=AA s.v 77 (Kv.enc 8) l
abbrev EN (s:Sv) (l:List Ms):Ent:=AA s.v 154 Ms.enc l
abbrev Bz (v:NV):List Ent:=[Bv v.s.e v.d.es,BY v.s.k v.d.kids,CF v.s.p v.d.piv,EN v.s.m v.d.msgs]
structure NRd (w:World) (v:NV):Prop where
 e:RdV w v.s.e.v En.enc v.d.es
 k:RdV w v.s.k.v (AH .i64) v.d.kids
 p:RdV w v.s.p.v (Kv.enc 8) v.d.piv
 m:RdV w v.s.m.v Ms.enc v.d.msgs
theorem NRd.keep {v:NV} {H:List Ent} (h:NRd w0 v) (s:St w0 [] H w):NRd w v:=⟨h.e.keep s (by simp),h.k.keep s (by simp),h.p.keep s (by simp),h.m.keep s (by simp)⟩
theorem NRd.drew {v:NV} (h:NRd w v):NRd w.drew v:=⟨h.e.drew,h.k.drew,h.p.drew,h.m.drew⟩
structure FC where
 st:Int
 blk:Int
 own:Int
 pins:Int
 ref:Bool
 dirty:Bool
 nv:NV
namespace FC
def c (f:FC):List Value:=[.int .i64 f.st,.int .i64 f.blk,.int .i64 f.own,.int .i64 f.pins,.bool f.ref,.bool f.dirty,.bool f.nv.d.leaf,f.nv.s.e.v,f.nv.s.k.v,f.nv.s.p.v,f.nv.s.m.v]
def cA (f:FC):List Value:=[.int .i64 f.st,.int .i64 f.blk,.int .i64 f.pins,.bool f.ref,.bool f.dirty,.bool f.nv.d.leaf,f.nv.s.e.v,f.nv.s.k.v,f.nv.s.p.v,f.nv.s.m.v,Cb,.int .i64 (-1),Cb]
theorem one (f:FC):∀x∈f.c,x.oneCell'=true:=λx hx=>by
 simp only[c,kN,nt,nu] at hx
 rcases hx with rfl|rfl|rfl|rfl|rfl|rfl|rfl|rfl|rfl|rfl|rfl<;>rfl
theorem oneA (f:FC):∀x∈f.cA,x.oneCell'=true:=λx hx=>by
 simp only[cA,kN,nt,nu] at hx
 rcases hx with rfl|rfl|rfl|rfl|rfl|rfl|rfl|rfl|rfl|rfl|rfl|rfl|rfl<;>rfl
def enc:Enc FC:=⟨11,c,λ_=>rfl,one,by decide⟩
def encA:Enc FC:=⟨13,cA,λ_=>rfl,oneA,by decide⟩
end FC
structure Wn where
 t:Int
 b:Int
 cl:Bool
namespace Wn
def c (w:Wn):List Value:=[.int .i64 w.t,.int .i64 w.b,.bool w.cl]
theorem one (w:Wn):∀x∈w.c,x.oneCell'=true:=λx hx=>by
 simp only[c,kN,nt,nu] at hx
 rcases hx with rfl|rfl|rfl<;>rfl
def enc:Enc Wn:=⟨3,c,λ_=>rfl,one,by decide⟩
theorem ext' {a b:Wn} (h1:a.t=b.t) (h2:a.b=b.b) (h3:a.cl=b.cl):a=b:=by cases a; cases b; simp only at h1 h2 h3; subst h1; subst h2; subst h3; rfl
end Wn
instance:DecidableEq Wn:=λa b=>if h:a.t=b.t/\a.b=b.b/\a.cl=b.cl then isTrue (Wn.ext' h.1 h.2.1 h.2.2) else isFalse (λe=>h (by subst e; exact⟨rfl,rfl,rfl⟩))
structure Vw where
 st:Int
 blk:Int
 own:Int
 pins:Int
 ref:Bool
 dirty:Bool
 nd:Nd
def vw (f:FC):Vw:=⟨f.st,f.blk,if f.st=3 then f.own else 0,f.pins,f.ref,f.dirty,f.nv.d⟩
structure Mo where
 fr:List Vw
 loads:List (Int×Int)
 line:List (Int×Int)
 hand:Int
def isB (b:Int) (f:Vw):Bool:=decide (f.blk=b)&&(decide (f.st=1)||decide (f.st=2))
def isF (f:Vw):Bool:=decide (f.st=0)
def isC (t:Int) (f:Vw):Bool:=decide (f.st=3)&&decide (f.own=t)
def isT (t:Int) (q:Int×Int):Bool:=decide (q.1=t)
def tkB (t:Int):Bool:=decide (0<=t)&&decide (t<8)
def bkB (b:Int):Bool:=decide (0<=b)&&decide (b<256)
def BL:Vw:=⟨0,-1,0,0,false,false,nd0⟩
namespace Mo
def find (M:Mo) (b:Int):Option Nat:=B7 (isB b) M.fr
def freeI (M:Mo):Option Nat:=B7 isF M.fr
def stand (M:Mo) (t:Int):Option Nat:=B7 (isT t) M.line
def waits (M:Mo) (t:Int):Bool:=M.loads.any (isT t)
def turn (M:Mo) (t:Int):Bool:=match M.line with|[]=>true|q::_=>decide (q.1=t)
def takes (M:Mo) (t:Int):Option Nat:=if M.turn t=true then M.freeI else none
def leave (M:Mo) (t:Int):Mo:={M with line:=match M.stand t with|some i=>M.line.eraseIdx i|none=>M.line}
def ask (M:Mo) (t b:Int):Mo:={M with line:=if (M.stand t).isNone=true then M.line++[(t,b)] else M.line}
def mayW (M:Mo) (t b:Int):Bool:=tkB t&&!M.waits t&&(match M.stand t with|some i=>decide (M.line[i]?=some (t,b))|none=>true)
def put (M:Mo) (i:Nat) (f:Vw):Mo:={M with fr:=M.fr.set i f}
def at' (M:Mo) (i:Nat):Vw:=M.fr.getD i BL
def pin (M:Mo) (t b:Int):Int×Mo :=
 if (bkB b&&M.mayW t b)=false then (0,M)
 else match M.find b with
  |some i =>
   let N:=(M.put i {M.at' i with pins:=(M.at' i).pins+1,ref:=true}).leave t
   if (M.at' i).st=2 then (1,N) else (2,{N with loads:=N.loads++[(t,b)]})
  |none=>match M.takes t with
   |none=>(4,M.ask t b)
   |some k=>(3,(M.leave t).put k ⟨1,b,0,1,true,false,nd0⟩)
def frI (M:Mo) (b st:Int):Option Nat:=match M.find b with|some i=>if (M.at' i).st=st then some i else none|none=>none
def told (M:Mo) (b:Int):List Int:=(M.loads.filter (λq=>decide (q.2=b))).map Prod.fst
def fill (M:Mo) (b:Int) (nd:Nd):(List Int×Bool)×Mo :=
 match M.frI b 1 with
 |some i=>((M.told b,true),{M.put i {M.at' i with st:=2,nd:=nd} with loads:=M.loads.filter (λq=>!decide (q.2=b))})
 |none=>(([],false),M)
def claim (M:Mo) (t:Int):Bool×Mo :=
 if M.mayW t (-1)=false then (false,M)
 else match M.takes t with
  |none=>(false,M.ask t (-1))
  |some k=>(true,(M.leave t).put k ⟨3,-1,t,1,false,false,nd0⟩)
def claims (M:Mo) (t:Int):Nat:=M.fr.countP (isC t)
def give (M:Mo) (t:Int):Mo:={M with fr:=M.fr.map (λf=>if isC t f=true then BL else f)}
def name (M:Mo) (t b:Int) (nd:Nd):Bool×Mo :=
 match (bkB b&&(M.find b).isNone),B7 (isC t) M.fr with
 |true,some k=>(true,M.put k ⟨2,b,0,0,true,true,nd⟩)
 |_,_=>(false,M)
abbrev ready (M:Mo) (b:Int):Option Nat:=M.frI b 2
def unpin (M:Mo) (b:Int):Bool×Mo :=
 match M.ready b with
 |some i=>if (M.at' i).pins=0 then (false,M) else (true,M.put i {M.at' i with pins:=(M.at' i).pins-1})
 |none=>(false,M)
def node (M:Mo) (b:Int):Nd×Bool:=match M.ready b with|some i=>((M.at' i).nd,true)|none=>(nd0,false)
def setN (M:Mo) (b:Int) (nd:Nd):Bool×Mo :=
 match M.ready b with
 |some i=>(true,M.put i {M.at' i with dirty:=true,nd:=nd})
 |none=>(false,M)
def free (M:Mo):Nat:=M.fr.countP isF
def may (M:Mo) (t:Int):Bool :=
 tkB t&&!M.waits t&&(match M.stand t with
  |none=>true
  |some k=>(decide (k=0)&&decide (0<M.free))||(M.find (M.line.getD k (0,-1)).2).isSome)
end Mo
structure Mo.Ok (M:Mo) (B:Nat):Prop where
 n1:1<=M.fr.length
 n64:M.fr.length<=64
 st:∀f∈M.fr,f.st=0\/f.st=1\/f.st=2\/f.st=3
 none':∀f∈M.fr,f.st=0\/f.st=3->f.blk = -1
 blk:∀f∈M.fr,f.st=1\/f.st=2->0<=f.blk/\f.blk<256
 own:∀f∈M.fr,f.st=3->0<=f.own/\f.own<8
 own0:∀f∈M.fr,f.st≠3->f.own=0
 pins:∀f∈M.fr,0<=f.pins/\f.pins<=(B:Int)
 uni:∀(i j:Nat) (f g:Vw),M.fr[i]?=some f->M.fr[j]?=some g->f.st=1\/f.st=2->g.st=1\/g.st=2->f.blk=g.blk->i=j
 ll:M.loads.length<=B
 lB:M.line.length<=B
 ln:(M.line.map Prod.fst).Nodup
 lb:∀q∈M.line,-1<=q.2/\q.2<256
 lo:∀q∈M.loads,∃f∈M.fr,f.st=1/\f.blk=q.2
 es:∀f∈M.fr,f.nd.Sm 1000
 hw:(Lit.int .i64 M.hand).wf=true
 B9:B<=60000
abbrev kc (n:Int) (l:List Int):List Value:=.int .i64 n::l.map (.int .u8)
theorem IZ {l:List Int} (h:l.length=8):(kc n l).length=9:=by simp[h]
theorem Gw {l:List Int} (h:l.length=8) {j:Nat} (hj:j<8:=by omega):(kc n l)[0+1+j*1]?=some (.int .u8 (l.getD j 0)):=by
 rw[show 0+1+j*1=j+1 from by omega]
 have:j<l.length:=by omega
 simp[om,this]
theorem eW {l:List Int} (x:Int):(kc n l).set (0+1+j*1) (.int .u8 x)=kc n (l.set j x):=by
 rw[show 0+1+j*1=j+1 from by omega]
 simp[m4]
theorem iB {m:Int} {l:List Int}:(kc n l).set 0 (.int .i64 m)=kc m l:=rfl
theorem NQ {l:List Int}:∀v∈kc n l,v.oneCell'=true:=by
 intro v hv
 rcases kN.1 hv with rfl|hv
 .rfl
 .obtain⟨z,_,rfl⟩:=lP.1 hv; rfl
theorem Wy {m:Int} {l k:List Int} (h:l.length=8) (h':k.length=8):Sep.splice (kc n l) 0 (kc m k)=kc m k:=Sep.ku (by rw[IZ h,IZ h'])
abbrev z8:List Int:=List.replicate 8 0
theorem Gx:z8.length=8:=rfl
theorem ai {l:List Int} (h:m<=l.length):((kc n l).drop (0+1)).take (m*(AH .u8).sz)=(AH .u8).flat (l.take m):=by
 rw[GV]
 show ((l.map (Value.int .u8))).take (m*1)=_
 rw[oq,List.map_take]
theorem eX {l:List Int} (h:l.length<=8):Sep.splice (kc n z8) (0+1) (l.map (.int .u8))=kc n (l++List.replicate (8-l.length) 0):=by
 have hz:z8=List.replicate l.length 0++List.replicate (8-l.length) 0:=by
  show List.replicate 8 0=_
  rw[oF,show l.length+(8-l.length)=8 from by omega]
 have e:kc n z8=[Value.int .i64 n]++(List.replicate l.length (Value.int .u8 0)++List.replicate (8-l.length) (Value.int .u8 0)):=by
  rw[kc,hz]; simp[mn,mC]
 have hs:=splice_mid (a:=[Value.int .i64 n]) (b:=List.replicate l.length (Value.int .u8 0)) (c:=List.replicate (8-l.length) (Value.int .u8 0)) (vs:=l.map (Value.int .u8)) (k:=0+1) rfl (by simp)
 rw[e,hs]
 simp[kc,mn,mC]
theorem Fs (k:Kv 8):Con prog 279 [.agg k.c.toArray] Tr [] (λ_:Unit=>.bool (kck k)) Tr (λ_=>[]):=by
 intro w hE hH
 refine E0 func279 I hH (Cs I (l_e I (AT I I I I (λbk=>Ce k.c I (Ak I (Af (Cs I (Lfa U77 I Z3 I (Lo G3 0 I (Mv 2 I (CB 7 I (λh1=>?_) (λh1=>?_))))))))))))
 .rw[Wq h1]
  exact Mv 4 I (Nk (Ah I (Cs I (Ak I (Ag (Ac (Ao I I (λ_ h=>⟨(),rfl,T0,h.kv⟩))))))))
 .refine Lfa U77 I Z3 I (Lo G3 0 I (Lq I (BQ I I I) (Lq I (Qz I) (Nk (CB 11 I (λh2=>?_) (λh2=>?_))))))
  .rw[Ws h2]
   exact Ah I (Cs I (Ak I (Ag (Ac (Ao I I (λ_ h=>⟨(),rfl,T0,h.kv⟩))))))
  .obtain⟨m,hm,hm8⟩:∃m:Nat,k.n=(m:Int)/\m<=8:=⟨k.n.toNat,by omega,by omega⟩
   refine Aa I (Ae (Kt (Cs I (Lfa U77 I Z3 I (Lo G3 0 I (Lq I (AP ((kz 8 k.n k.wn).c) I I (λw=>by kernel_rfl)) (l_e I (Au I I I zeroValue77 (λbx=>l_e I (SA Z77 I (Kv.one _) (Ce (.int .i64 k.n::List.replicate 8 (.int .u8 0)) I (Ns (Do8 (rg 7) 1458 _ I St.drawn Ih (Dfa U77 I Z75 I (Dfa U77 I Z3 I (Dq I (Al I G3 I (Hat 1 I) I) (Dq I (Ew m I U75 Z5 I I hm (by omega)) (Dfa U77 I Z75 I (Dq I (F0 I U75 Z5 I) (d_t I (Rg (E:=(AH .u8)) (l:=k.b) I I I U23 Z5 I I (λ_ h=>JT (h.at 1 I) (AH .u8) k.b k.len (lJ _) (by rw[GV]; exact lI (by simp[Kv.c,k.len,AH]))) (by simp[k.len,AH]; omega) (Ce (UB k m hm8).c (by rw[hm]; exact iy k hm8) (AL (Kt (Cs I (Lq I (Cq ((UB k m hm8).c) G77 Z77 0 I (Bb _) (Kv.ko _)) (Lq I (Cq (k.c) G77 Z77 1 I (Bb _) (Kv.ko _)) (Lq I (S0 ((UB k m hm8)) (k) I I I) (Ak I (Ag ?_))))))))))))))))))))))))))))))
   rw[<-Z7 k hm hm8]
   exact Ao I I (λ_ h=>⟨(),rfl,T0,h.kv⟩)
theorem S3 (s:ByteArray) (hs:s.size<=9223372036854775807):Con prog 125 [.string s] Tr [] (λ_:Unit=>if h:s.size<=8 then .tuple #[.agg (kof s h).c.toArray,.int .i64 0] else .tuple #[.agg (kc 0 z8).toArray,.int .i64 2]) Tr (λ_=>[]):=by
 intro w hE hH
 refine E0 func125 I hH (Cs I (l_e I (Au I I I zeroValue77 (λbr=>Ce (kc 0 z8) I (Ak I (Af (Cs I (Lm I (Lq I (FA I U9 I) (Lq I (BQ I I I) (Nk (CB 7 I (λh1=>?_) (λh1=>?_)))))))))))))
 .have hno:¬s.size<=8:=by omega
  exact Ah I (Cs I (Lq I (AP (kc 0 z8) I I (λw=>by kernel_rfl)) (l_e I (SA Z77 I NQ (AR (Wy Gx Gx) (Ak I (Ag (Ac (BM I (AK I G77 Z77 (Hat 0 I) (IZ Gx)) (id I) (λ_ h=>⟨(),by rw[dif_neg hno],T0,h.kv⟩))))))))))
 .have hyes:s.size<=8:=by omega
  have hbl:=ES s
  refine Aa I (Ae (Kt (Cs I (Lm I (Lq I (FA I U9 I) (Lq I (AP (kc (s.size:Int) z8) I I (λw=>by kernel_rfl)) (l_e I (Au I I I zeroValue77 (λbk=>Ce (kc 0 z8) I (l_e I (SA Z77 I NQ (AR (Wy Gx Gx) (Nk (Cs I (Lfa U77 I Z75 I (Lq I (F0 I U75 Z5 I) (Lm I (l_e I (Z1 I I I U23 Z5 I I (by omega) (by show 0+1+s.size<=_; rw[IZ Gx]; omega) (AR (cs':=(kof s hyes).c) ?_ ?_))))))))))))))))))))
  .have hput:=eX (n:=(s.size:Int)) (l:=byt s) (by omega)
   unfold byt at hput
   rw[mY] at hput
   refine hput.trans ?_
   show _=kc ((byt s).length:Int) (byt s++List.replicate (8-(byt s).length) 0)
   rw[hbl]; unfold byt; rw[mB,mX]; rfl
  exact Nk (Cs I (Lq I (Cq ((kof s hyes).c) G77 Z77 0 I (Bb _) (Kv.ko _)) (AM (l_e I (Az I I Z77 I I (Kv.ko _) (Kv.one _) (by rw[Kv.ko,IZ Gx]; decide) (AR (Sep.ku (by rw[Kv.ko,IZ Gx])) (Ak I (Ag (BM I (AK I G77 Z77 (Hat 0 I) (Kv.ko _)) (id I) (λ_ h=>⟨(),by rw[dif_pos hyes],T0,h.kv⟩))))))))))
theorem MC (k:Kv 8):Con prog 225 [.agg k.c.toArray] Tr [] (λ_:Unit=>.string (strOfNums (tx k))) Tr (λ_=>[]):=by
 intro w hE hH
 refine E0 func225 I hH (Cs I (l_e I (AT I I I I (λbk=>Ce k.c I (Ak I (Af (Cs I (Lq I (Cq (k.c) G77 Z77 0 I (Bb _) (Kv.ko _)) (l_e I (E1 (Fs k) I call279 Tt (λ_ _=>Lq I (Qt I) (Nk (CB 5 I (λh1=>?_) (λh1=>?_))))))))))))))
 .have ht:tx k=[]:=by unfold tx; rw[h1]; rfl
  exact Ah I (Cs I (Ak I (Ag (Ac (Ao I I (λ_ h=>⟨(),by rw[ht]; rfl,T0,h.kv⟩))))))
 .obtain⟨m,hm,hm8,ht,htl,htb⟩:=DU h1
  have hkl:=k.len
  exact Aa I (Ae (Kt (Cs I (Lfa U77 I Z75 I (Lfa U77 I Z3 I (Lo G3 0 I (Lq I (Ew m I U75 Z5 I I hm (by omega)) (Lq I (E6 (l:=k.b.take m) I U23 U5 U9 I (λ_ h=>JT (h.at 0 I) (AH .u8) (k.b.take m) (by rw[k9]; omega) (by omega) (ai (by omega)))) (Ak I (Ag (Ao I I (λ_ h=>⟨(),by rw[ht],T0,h.kv⟩))))))))))))
theorem Wz:Extern.find Tryz.f301=some Extern.BytealgCompare.compare:=by kernel_rfl
theorem eY {n:Nat} {L:Env} {X:World->Prop} {Q:Exit->Act->World->Prop} {K:Act->World->Prop} {f:FuncId} {fn:Func} {ts:Array TypeId} {a b:ByteArray} (ho:o.op=.call ⟨.value (.func f),[x,y].toArray,ts⟩) (hd:o.dst=some d) (hnn:d.blt n) (hfn:P.funcs[f]?=some fn) (hb:fn.body.isNone) (P4:(fn.name == "runtime.NumGoroutine")=false) (hn:Extern.findNext fn=none) (he:Extern.find fn=some Extern.BytealgCompare.compare)
 (hx:ev L x=some (.string a)) (hy:ev L y=some (.string b)) (h:Pre n ((d,.int .i64 (Lib.compareBytes a.data.toList b.data.toList))::L) X K):EOp P n L X o Q K :=
 EOp.val (β:=Unit) (λ_=>.int .i64 (Lib.compareBytes a.data.toList b.data.toList)) Tr (λ_=>X) hd hnn (λac w kn hX=>by
  have hc:=run_callFunc_extern hfn P4 hb hn he #[.string a,.string b] w
  rw[Lib.run_compareString a b w] at hc
  simp only[l7] at hc
  have hargs:([x,y].toArray.map ac.eval)=#[.string a,.string b]:=by simp[kn.eval hx,kn.eval hy]
  have h0:∀us:Array Value,(#[]++us++#[])=us:=λus=>by simp
  exact⟨(),w,by simp only[execOp,ho,resolve,Act.eval,Deferred.ofValue,l5,l6,l7,invoke,hargs,h0,hc],T0,hX⟩) (λ_ _=>h)
theorem UD (a b:ByteArray):Con prog 278 [.string a,.string b] Tr [] (λ_:Unit=>.int .i64 (Lib.compareBytes a.data.toList b.data.toList)) Tr (λ_=>[]):=by
 intro w hE hH
 refine E0 func278 I hH ?_
 exact Cs I (Ak I (Cs I (Mv 2 I (l_e I (eY I I I func301 I (by kernel_rfl) I Wz I I (Ak I (Ag (Ao I I (λ_ h=>⟨(),rfl,T0,h⟩)))))))))
theorem UE (a b:ByteArray):Con prog 224 [.string a,.string b] Tr [] (λ_:Unit=>.int .i64 (Lib.compareBytes a.data.toList b.data.toList)) Tr (λ_=>[]):=by
 intro w hE hH
 refine E0 func224 I hH ?_
 exact Cs I (Ak I (Cs I (Mv 2 I (l_e I (E1 (UD a b) I call278 Tt (λ_ _=>Ak I (Ag (Ao I I (λ_ h=>⟨(),rfl,T0,h⟩)))))))))
theorem FM (a b:Kv 8):Con prog 162 [.agg a.c.toArray,.agg b.c.toArray] Tr [] (λ_:Unit=>.int .i64 (Bq a b)) Tr (λ_=>[]):=by
 intro w hE hH
 have hc:Bq a b=Lib.compareBytes (strOfNums (tx a)).data.toList (strOfNums (tx b)).data.toList:=(SX (tx a) (tx b) (λx hx=>SU hx) (λx hx=>SU hx)).symm
 refine E0 func162 I hH ?_
 exact Cs I (l_e I (AT I I I I (λba=>Ce a.c I (l_e I (AT I I I I (λbb=>Ce b.c I (Ak I (Af (Do8 [0,2,1,3,4,5] 117 (λw2=>(Ad ba 77 a.c).at w2/\(Ad bb 77 b.c).at w2) I St.drawn (H2 1 0 I) (Dq I (AQ (a.c) I G77 Z77 I (λ_ h=>h.1) (Bb _) (Kv.ko _)) (Dq I (AQ (b.c) I G77 Z77 I (λ_ h=>h.2) (Bb _) (Kv.ko _)) (d_e I (E1 (MC a) I call225 Tt (λ_ _=>Ai (H2 1 0 I) (d_e I (E1 (MC b) I call225 Tt (λ_ _=>Ai (H2 1 0 I) (d_e I (E1 (UE _ _) I call224 Tt (λ_ _=>Ai (H2 1 0 I) (Das I (AL (Kt (Ag (Ao I I (λ_ h=>⟨(),by rw[hc],T0,h.kv⟩))))))))))))))))))))))))))
theorem Kx (k:Kv 16):Con prog 316 [.agg k.c.toArray] Tr [] (λ_:Unit=>.bool (vck k)) Tr (λ_=>[]):=Hx (λw _=>Ug k.n k.b w k.len k.wb)
theorem DV (k:Kv 16):Con prog 61 [.agg k.c.toArray] Tr [] (λ_:Unit=>.bool (vck k)) Tr (λ_=>[]):=Hx (λw _=>Q3 k.n k.b w k.len)
theorem Ic (k:Kv 16) (z:Int):Con prog 223 [.agg k.c.toArray,.int .u64 z] Tr [] (λ_:Unit=>.agg (CX k z).c.toArray) Tr (λ_=>[]):=Hx (λw _=>V1 k.n k.b z w k.len k.wb)
def vof (s:ByteArray) (h:s.size<=16):Kv 16:=⟨s.size,pad (byt s) 16,E3 _ _ (by rw[FX]; exact h),Wp (by omega),Q1 16 (eB s)⟩
theorem aj (s:ByteArray) (h:s.size<=16):Con prog 126 [.string s] Tr [] (λ_:Unit=>.tuple #[.agg (vof s h).c.toArray,.int .i64 0]) Tr (λ_=>[]):=Hx (λw _=>eD s w h)
theorem eZ (s:ByteArray) (h:¬s.size<=16):Con prog 126 [.string s] Tr [] (λ_:Unit=>.tuple #[.agg (kv0 16).c.toArray,.int .i64 2]) Tr (λ_=>[]):=Hx (λw _=>ZI s w (by omega))
theorem Jw (m:Ms):Con prog 313 [.agg m.c.toArray] Tr [] (λ_:Unit=>.bool (mck m)) Tr (λ_=>[]):=by
 intro w hE hH
 refine E0 func313 I hH (Cs I (l_e I (AT I I I I (λbm=>Ce m.c I (Ak I (Cs I (Lfa B8 I Z77 I (Lq I (Cq (m.key.c) G77 Z77 0 I (Ms.kK _) (Kv.ko _)) (l_e I (E1 (Fs m.key) I call279 Tt (λ_ _=>Ak I (Af (Cs I (Lfa B8 I Z3 I (Lo G3 0 I (Nk (Aj (Af (Aj (Af (Aj (Af (Aj (Af (Af (Cs I (Lq I (Qe I) (Ak I (CB 9 I (λh1=>?_) (λh1=>?_))))))))))))))))))))))))))))))
 .refine Ah I (AO (Ab (Ab (Am (Ks (Cs I (Mv 2 I (CB 16 I (λh2=>?_) (λh2=>?_)))))))))
  .refine Lfa B8 I Z56 I (Lq I (Cq (m.val.c) G56 Z56 0 I (Ms.val_part _) (Kv.ko _)) (l_e I (E1 (Kx m.val) I call316 Tt (λ_ _=>Lq I (Qy I) (Lm I (CB 21 I (λh3=>?_) (λh3=>?_)))))))
   .refine Lfa B8 I Z41 I (Lq I (Al I G41 I (Hat 0 I) (Ms.by_part _)) (Mv 2 I (Ak I (Ag (Ac (As (Ac (As (Ac (As (Ac (CB 2 I (λh4=>?_) (λh4=>?_)))))))))))))
    .have e:mck m=true:=by
      unfold mck
      rcases (show m.kind=1\/m.kind=2\/m.kind=3\/(¬m.kind=1/\¬m.kind=2/\¬m.kind=3) by omega) with e|e|e|e<;>first|(exfalso; omega)|simp_all
     rw[e]
     exact Ao I I (λ_ h=>⟨(),rfl,T0,h.kv⟩)
    .have e:mck m=false:=by
      unfold mck
      rcases (show m.kind=1\/m.kind=2\/m.kind=3\/(¬m.kind=1/\¬m.kind=2/\¬m.kind=3) by omega) with e|e|e|e<;>first|(exfalso; omega)|simp_all
     rw[e]
     exact Ao I I (λ_ h=>⟨(),rfl,T0,h.kv⟩)
   .refine Mv 4 I (Ak I (Ag (Ac (As (Ac (As (Ac (As (Ac ?_)))))))))
    have e:mck m=false:=by
     unfold mck
     rcases (show m.kind=1\/m.kind=2\/m.kind=3\/(¬m.kind=1/\¬m.kind=2/\¬m.kind=3) by omega) with e|e|e|e<;>first|(exfalso; omega)|simp_all
    rw[e]
    exact Ao I I (λ_ h=>⟨(),rfl,T0,h.kv⟩)
  .refine Mv 9 I (Ak I (Ag (Ac (As (Ac (As (Ac (As (Ac ?_)))))))))
   have e:mck m=false:=by
    unfold mck
    rcases (show m.kind=1\/m.kind=2\/m.kind=3\/(¬m.kind=1/\¬m.kind=2/\¬m.kind=3) by omega) with e|e|e|e<;>first|(exfalso; omega)|simp_all
   rw[e]
   exact Ao I I (λ_ h=>⟨(),rfl,T0,h.kv⟩)
 .refine Aa I (Ae (Ks (Cs I (Lq I (Qe I) (Ak I (CB 11 I (λh5=>?_) (λh5=>?_)))))))
  .refine Ah I (AO (Ab (Ab (AD I (Ab (Am (Kt (Cr I (Mv 2 I (CB 27 I (λh6=>?_) (λh6=>?_)))))))))))
   .refine Lfa B8 I Z41 I (Lq I (Al I G41 I (Hat 0 I) (Ms.by_part _)) (Mv 3 I (AB (Aw (Ks (Cs I (Mv 2 I (CB 33 I (λh7=>?_) (λh7=>?_)))))))))
    .refine Lfa B8 I Z56 I (Lq I (Cq (m.val.c) G56 Z56 0 I (Ms.val_part _) (Kv.ko _)) (Lq I (AP ((kv0 16).c) I I (λw=>by kernel_rfl)) (Lq I (Ku (m.val) ((kv0 16)) I I I) (Lq I (Qy I) (Ak I (Ag (Ac (As (Ac (CB 2 I (λh8=>?_) (λh8=>?_)))))))))))
     .have e:mck m=true:=by
       unfold mck
       rcases (show m.kind=1\/m.kind=2\/m.kind=3\/(¬m.kind=1/\¬m.kind=2/\¬m.kind=3) by omega) with e|e|e|e<;>first|(exfalso; omega)|simp_all
      rw[e]
      exact Ao I I (λ_ h=>⟨(),rfl,T0,h.kv⟩)
     .have e:mck m=false:=by
       unfold mck
       rcases (show m.kind=1\/m.kind=2\/m.kind=3\/(¬m.kind=1/\¬m.kind=2/\¬m.kind=3) by omega) with e|e|e|e<;>first|(exfalso; omega)|simp_all
      rw[e]
      exact Ao I I (λ_ h=>⟨(),rfl,T0,h.kv⟩)
    .refine Mv 5 I (Ak I (Ag (Ac (As (Ac ?_)))))
     have e:mck m=false:=by
      unfold mck
      rcases (show m.kind=1\/m.kind=2\/m.kind=3\/(¬m.kind=1/\¬m.kind=2/\¬m.kind=3) by omega) with e|e|e|e<;>first|(exfalso; omega)|simp_all
     rw[e]
     exact Ao I I (λ_ h=>⟨(),rfl,T0,h.kv⟩)
   .refine Mv 5 I (AB (Aw (Ks (Cs I (Mv 7 I (Ak I (Ag (Ac (As (Ac ?_))))))))))
    have e:mck m=false:=by
     unfold mck
     rcases (show m.kind=1\/m.kind=2\/m.kind=3\/(¬m.kind=1/\¬m.kind=2/\¬m.kind=3) by omega) with e|e|e|e<;>first|(exfalso; omega)|simp_all
    rw[e]
    exact Ao I I (λ_ h=>⟨(),rfl,T0,h.kv⟩)
  .refine Aa I (Ae (Kt (Cs I (Lq I (Qe I) (Ak I (CB 13 I (λh9=>?_) (λh9=>?_)))))))
   .refine Ah I (AO (Ab (AD I (Ab (AD I (Ab (Am (Ks (Cs I (Mv 2 I (CB 33 I (λh10=>?_) (λh10=>?_))))))))))))
    .refine Lfa B8 I Z56 I (Lq I (Cq (m.val.c) G56 Z56 0 I (Ms.val_part _) (Kv.ko _)) (Lq I (AP ((kv0 16).c) I I (λw=>by kernel_rfl)) (Lq I (Ku (m.val) ((kv0 16)) I I I) (Lq I (Qy I) (Ak I (Ag (Ac (As (Ac (CB 2 I (λh11=>?_) (λh11=>?_)))))))))))
     .have e:mck m=true:=by
       unfold mck
       rcases (show m.kind=1\/m.kind=2\/m.kind=3\/(¬m.kind=1/\¬m.kind=2/\¬m.kind=3) by omega) with e|e|e|e<;>first|(exfalso; omega)|simp_all
      rw[e]
      exact Ao I I (λ_ h=>⟨(),rfl,T0,h.kv⟩)
     .have e:mck m=false:=by
       unfold mck
       rcases (show m.kind=1\/m.kind=2\/m.kind=3\/(¬m.kind=1/\¬m.kind=2/\¬m.kind=3) by omega) with e|e|e|e<;>first|(exfalso; omega)|simp_all
      rw[e]
      exact Ao I I (λ_ h=>⟨(),rfl,T0,h.kv⟩)
    .refine Mv 5 I (Ak I (Ag (Ac (As (Ac ?_)))))
     have e:mck m=false:=by
      unfold mck
      rcases (show m.kind=1\/m.kind=2\/m.kind=3\/(¬m.kind=1/\¬m.kind=2/\¬m.kind=3) by omega) with e|e|e|e<;>first|(exfalso; omega)|simp_all
     rw[e]
     exact Ao I I (λ_ h=>⟨(),rfl,T0,h.kv⟩)
   .refine Aa I (Ae (Kt (AO (AD I (Ab (AD I (Ab (AD I (Ab (Am (Kt (Cs I (Ak I (Ag ?_))))))))))))))
    have e:mck m=false:=by
     unfold mck
     rcases (show m.kind=1\/m.kind=2\/m.kind=3\/(¬m.kind=1/\¬m.kind=2/\¬m.kind=3) by omega) with e|e|e|e<;>first|(exfalso; omega)|simp_all
    rw[e]
    exact Ao I I (λ_ h=>⟨(),rfl,T0,h.kv⟩)
theorem Pb (m:Ms):Con prog 306 [.agg m.c.toArray] Tr [] (λ_:Unit=>.int .i64 (mby m)) Tr (λ_=>[]):=by
 intro w hE hH
 refine E0 func306 I hH (Cs I (l_e I (AT I I I I (λbm=>Ce m.c I (Ak I (Af (Cs I (Lq I (Cq (m.c) Cm Bl 0 I (Br _) (Ms.ko _)) (l_e I (E1 (Jw m) I call313 Tt (λ_ _=>Lq I (Qt I) (Nk (CB 6 I (λhm=>?_) (λhm=>?_))))))))))))))
 .exact Ah I (Cs I (Ak I (Ag (Ac (Ao I I (λ_ h=>⟨(),congrArg Ei (by unfold mby; rw[lz (by rw[hm]; simp)]),T0,h.kv⟩))))))
 .have hk:=S1 hm
  refine Aa I (Ae (Kt (Cs I (Lfa B8 I Z77 I (Lfa U77 I Z3 I (Lo G3 0 I (Lq I (Bh I I I) (Ak I (Af (Cs I (Lfa B8 I Z3 I (Lo G3 0 I (Nk (Aj (Cs I (Lq I (Qe I) (Ak I (CB 13 I (λe1=>?_) (λe1=>?_)))))))))))))))))))
  .have hv:=S2 hm e1
   exact Ah I (Cr I (Lm I (Lfa B8 I Z56 I (Lfa U56 I Z3 I (Lq I (Al I G3 I (Hat 0 I) (Ms.valn_part _)) (Lq I (Bh I I I) (Lq I (Bh I I I) (Las I (AB (Aw (Kt (Cs I (Lm I (Ak I (Ag (Ao I I (λ_ h=>⟨(),congrArg Ei (by unfold mby; rw[lu hm]; split<;>(try split)<;>omega),T0,h.kv⟩)))))))))))))))))
  .refine Aa I (Cs I (Lq I (Qe I) (Ak I (CB 21 I (λe3=>?_) (λe3=>?_)))))
   .exact Ah I (Cr I (Lm I (Lq I (Bh I I I) (Las I (AB (Aw (Kt (Cs I (Lm I (Ak I (Ag (Ao I I (λ_ h=>⟨(),congrArg Ei (by unfold mby; rw[lu hm]; split<;>(try split)<;>omega),T0,h.kv⟩)))))))))))))
   .exact Aa I (Ae (Aw (Kt (Cs I (Lm I (Ak I (Ag (Ao I I (λ_ h=>⟨(),congrArg Ei (by unfold mby; rw[lu hm]; split<;>(try split)<;>omega),T0,h.kv⟩)))))))))
theorem He (a b:Ms):Con prog 180 [.agg a.c.toArray,.agg b.c.toArray] Tr [] (λ_:Unit=>.agg (mco a b).c.toArray) Tr (λ_=>[]):=by
 intro w hE hH
 refine E0 func180 I hH (Cs I (l_e I (AT I I I I (λba=>Ce a.c I (l_e I (AT I I I I (λbb=>Ce b.c I (l_e I (Au I I I zeroValue154 (λbr=>Ce ms0.c I (Ns (Cs I (Lfa B8 I Z3 I (Lo G3 1 I (Mv 2 I (CB 8 I (λh1=>?_) (λh1=>?_)))))))))))))))))
 .refine Mv 6 I (Nk (Ah I (Cs I (Lq I (Cq (b.c) Cm Bl 1 I (Br _) (Ms.ko _)) (l_e I (Az I I Bl I I (Ms.ko _) (Ms.one _) (by simp only[Kv.ko,Ms.ko]; decide) (Ce b.c (Sep.ku (by simp only[Kv.ko,Ms.ko])) (Nk (Ag (Ac (CJ I (AK I Cm Bl (Hat 0 I) (Ms.ko _)) ?_)))))))))))
  exact λ_ h=>⟨(),congrArg (λz=>Ending.returned (Value.agg (Ms.c z).toArray)) (show b=mco a b from by
   unfold mco
   simp_all [Ms.setKind,Ms.setVal,Ms.setBy,Ms.setKey]),T0,h.kv⟩
 .refine Lfa B8 I Z77 I (Lq I (Cq (a.key.c) G77 Z77 2 I (Ms.kK _) (Kv.ko _)) (Lfa B8 I Z77 I (Lq I (Cq (b.key.c) G77 Z77 1 I (Ms.kK _) (Kv.ko _)) (Lq I (iz (a.key) (b.key) I I I) (Lq I (Qz I) (Nk (CB 14 I (λh2=>?_) (λh2=>?_))))))))
  .refine Ah I (Cs I (Lq I (Cq (b.c) Cm Bl 1 I (Br _) (Ms.ko _)) (l_e I (Az I I Bl I I (Ms.ko _) (Ms.one _) (by simp only[Kv.ko,Ms.ko]; decide) (Ce b.c (Sep.ku (by simp only[Kv.ko,Ms.ko])) (Nk (Ag (Ac (CJ I (AK I Cm Bl (Hat 0 I) (Ms.ko _)) ?_)))))))))
   exact λ_ h=>⟨(),congrArg (λz=>Ending.returned (Value.agg (Ms.c z).toArray)) (show b=mco a b from by
    unfold mco
    simp_all [Ms.setKind,Ms.setVal,Ms.setBy,Ms.setKey]),T0,h.kv⟩
  .refine Aa I (Ae (Ks (Cs I (Lfa B8 I Z3 I (Lo G3 2 I (Nk (Aj (Af (Aj (Af (Aj (Af (Aj (Af (Af (Cs I (Lq I (Qe I) (Ak I (CB 18 I (λh3=>?_) (λh3=>?_))))))))))))))))))))
   .refine Ah I (AO (Ab (Ab (Am (Kt (Cr I (Lq I (AP ((kv0 16).c) I I (λw=>by kernel_rfl)) (Lfa B8 I Z56 I (AX (l_e I (Az I I Z56 I I (Kv.ko _) (Kv.one _) (by rw[Kv.ko,Ms.ko]; decide) (AR (Ms.set_val _ _) (AB (Aw (Kt (Cs I (Lfa B8 I Z56 I (Lq I (Cq ((a.setVal (kv0 16)).val.c) G56 Z56 0 I (Ms.val_part _) (Kv.ko _)) (Lfa B8 I Z41 I (Lq I (Al I G41 I (Hat 2 I) (Ms.by_part _)) (l_e I (E1 (Ic (a.setVal (kv0 16)).val _) I call223 Tt (λ_ _=>Lfa B8 I Z3 I (AX (l_e I (AG I I Z3 I I I (by rw[Ms.ko]; decide) (AR (Ms.set_kind _ _ (by decide)) (Lfa B8 I Z56 I (l_e I (Az I I Z56 I I (Kv.ko _) (Kv.one _) (by rw[Kv.ko,Ms.ko]; decide) (AR (Ms.set_val _ _) (Lfa B8 I Z41 I (l_e I (AG I I Z41 I I I (by rw[Ms.ko]; decide) (AR (Ms.set_by _ _ (by decide)) (Nk (AO (AD I (Ab (Am (Kt (Cs I (Lq I (Cq ((((b.setKind 1 (by decide)).setVal (CX (a.setVal (kv0 16)).val b.by')).setBy (0) (by decide)).c) Cm Bl 0 I (Br _) (Ms.ko _)) (AX (l_e I (Az I I Bl I I (Ms.ko _) (Ms.one _) (by simp only[Kv.ko,Ms.ko]; decide) ?_))))))))))))))))))))))))))))))))))))))))))))))
    refine Ce (((b.setKind 1 (by decide)).setVal (CX (a.setVal (kv0 16)).val b.by')).setBy (0) (by decide)).c (Sep.ku (by simp only[Kv.ko,Ms.ko])) (Nk (Ag (CJ I (AK I Cm Bl (Hat 0 I) (Ms.ko _)) ?_)))
    exact λ_ h=>⟨(),congrArg (λz=>Ending.returned (Value.agg (Ms.c z).toArray)) (show (((b.setKind 1 (by decide)).setVal (CX (a.setVal (kv0 16)).val b.by')).setBy (0) (by decide))=mco a b from by
     unfold mco
     simp_all [Ms.setKind,Ms.setVal,Ms.setBy,Ms.setKey]),T0,h.kv⟩
   .refine Aa I (Ae (Ks (Cs I (Lq I (Qe I) (Ak I (CB 20 I (λh4=>?_) (λh4=>?_)))))))
    .refine Ah I (AO (Ab (Ab (AD I (Ab (Am (Kt (Cs I (Lfa B8 I Z56 I (Lq I (Cq (a.val.c) G56 Z56 2 I (Ms.val_part _) (Kv.ko _)) (Lfa B8 I Z41 I (Lq I (Al I G41 I (Hat 1 I) (Ms.by_part _)) (l_e I (E1 (Ic a.val _) I call223 Tt (λ_ _=>Lfa B8 I Z3 I (AM (l_e I (AG I I Z3 I I I (by rw[Ms.ko]; decide) (AR (Ms.set_kind _ _ (by decide)) (Lfa B8 I Z56 I (l_e I (Az I I Z56 I I (Kv.ko _) (Kv.one _) (by rw[Kv.ko,Ms.ko]; decide) (AR (Ms.set_val _ _) (Lfa B8 I Z41 I (l_e I (AG I I Z41 I I I (by rw[Ms.ko]; decide) (AR (Ms.set_by _ _ (by decide)) (Nk (AO (AD I (Ab (Am (Kt (Cs I (Lq I (Cq ((((b.setKind 1 (by decide)).setVal (CX a.val b.by')).setBy (0) (by decide)).c) Cm Bl 0 I (Br _) (Ms.ko _)) (AM (l_e I (Az I I Bl I I (Ms.ko _) (Ms.one _) (by simp only[Kv.ko,Ms.ko]; decide) ?_))))))))))))))))))))))))))))))))))))))
     refine Ce (((b.setKind 1 (by decide)).setVal (CX a.val b.by')).setBy (0) (by decide)).c (Sep.ku (by simp only[Kv.ko,Ms.ko])) (Nk (Ag (CJ I (AK I Cm Bl (Hat 0 I) (Ms.ko _)) ?_)))
     exact λ_ h=>⟨(),congrArg (λz=>Ending.returned (Value.agg (Ms.c z).toArray)) (show (((b.setKind 1 (by decide)).setVal (CX a.val b.by')).setBy (0) (by decide))=mco a b from by
      unfold mco
      simp_all [Ms.setKind,Ms.setVal,Ms.setBy,Ms.setKey]),T0,h.kv⟩
    .refine Aa I (Ae (Kt (Cs I (Lq I (Qe I) (Ak I (CB 22 I (λh5=>?_) (λh5=>?_)))))))
     .refine Ah I (AO (Ab (AD I (Ab (AD I (Ab (Am (Kt (Cs I (Lfa B8 I Z41 I (Lq I (Al I G41 I (Hat 1 I) (Ms.by_part _)) (Lfa B8 I Z41 I (Lq I (Al I G41 I (Hat 2 I) (Ms.by_part _)) (Lq I (V7 I I I) (Lfa B8 I Z41 I (AM (l_e I (AG I I Z41 I I I (by rw[Ms.ko]; decide) (AR (Ms.set_by _ _ (GW _)) (Nk (AO (Am (Kt ?_)))))))))))))))))))))))
      refine Cs I (Lq I (Cq ((b.setBy (IntKind.u64.wrap (b.by'+a.by')) (GW _)).c) Cm Bl 0 I (Br _) (Ms.ko _)) (AM (l_e I (Az I I Bl I I (Ms.ko _) (Ms.one _) (by simp only[Kv.ko,Ms.ko]; decide) (Ce (b.setBy (IntKind.u64.wrap (b.by'+a.by')) (GW _)).c (Sep.ku (by simp only[Kv.ko,Ms.ko])) (Nk (Ag (CJ I (AK I Cm Bl (Hat 0 I) (Ms.ko _)) ?_))))))))
      exact λ_ h=>⟨(),congrArg (λz=>Ending.returned (Value.agg (Ms.c z).toArray)) (show (b.setBy (IntKind.u64.wrap (b.by'+a.by')) (GW _))=mco a b from by
       unfold mco
       simp_all [Ms.setKind,Ms.setVal,Ms.setBy,Ms.setKey]),T0,h.kv⟩
     .refine Aa I (Ae (Kt (AO (AD I (Ab (AD I (Ab (AD I (Ab (Am (Kt (Cs I (Lq I (Cq (b.c) Cm Bl 1 I (Br _) (Ms.ko _)) (l_e I (Az I I Bl I I (Ms.ko _) (Ms.one _) (by simp only[Kv.ko,Ms.ko]; decide) (Ce b.c (Sep.ku (by simp only[Kv.ko,Ms.ko])) (Nk (Ag (CJ I (AK I Cm Bl (Hat 0 I) (Ms.ko _)) ?_)))))))))))))))))))
      exact λ_ h=>⟨(),congrArg (λz=>Ending.returned (Value.agg (Ms.c z).toArray)) (show b=mco a b from by
       unfold mco
       simp_all [Ms.setKind,Ms.setVal,Ms.setBy,Ms.setKey]),T0,h.kv⟩
theorem Gy (v:Kv 16) (t:Bool) (m:Ms):Con prog 159 [.agg v.c.toArray,.bool t,.agg m.c.toArray] Tr [] (λ_:Unit=>.tuple #[.agg (Cp v t m).1.c.toArray,.bool (Cp v t m).2]) Tr (λ_=>[]):=by
 intro w hE hH
 refine E0 func159 I hH (Cs I (l_e I (AT I I I I (λbv=>Ce v.c I (l_e I (AT I I I I (λbm=>Ce m.c I (l_e I (Au I I I zeroValue56 (λbr=>Ce (kv0 16).c I (Ak I (Af (Cs I (Lfa B8 I Z3 I (Lo G3 1 I (Nk (Aj (Cs I (Lq I (Qe I) (Ak I (CB 10 I (λh1=>?_) (λh1=>?_))))))))))))))))))))))
 .refine Ah I (Cs I (Lfa B8 I Z56 I (Lq I (Cq (m.val.c) G56 Z56 1 I (Ms.val_part _) (Kv.ko _)) (l_e I (Az I I Z56 I I (Kv.ko _) (Kv.one _) (by simp only[Kv.ko,Ms.ko]; decide) (Ce m.val.c (Sep.ku (by simp only[Kv.ko,Ms.ko])) (Ak I (Ag (As (Ac (BM I (AK I G56 Z56 (Hat 0 I) (Kv.ko _)) (id I) ?_)))))))))))
  exact λ_ h=>⟨(),congrArg (λz:Kv 16×Bool=>Ending.returned (Value.tuple #[.agg (Kv.c z.1).toArray,.bool z.2])) (show (m.val,true)=Cp v t m from by
   unfold Cp
   simp_all),T0,h.kv⟩
 .refine Aa I (Cs I (Lq I (Qe I) (Ak I (CB 14 I (λh2=>?_) (λh2=>?_)))))
  .refine Ah I (Af (Cs I (Mv 2 I (Nk (CB 17 I (λh3=>?_) (λh3=>?_))))))
   .refine Ah I (Cr I (Lq I (AP ((kv0 16).c) I I (λw=>by kernel_rfl)) (AX (l_e I (Az I I Z56 I I (Kv.ko _) (Kv.one _) (by simp only[Kv.ko,Ms.ko]; decide) (Ce (kv0 16).c (Sep.ku (by simp only[Kv.ko,Ms.ko])) (Nk (Cs I (Lq I (Cq ((kv0 16).c) G56 Z56 0 I (Bb _) (Kv.ko _)) (Lfa B8 I Z41 I (Lq I (Al I G41 I (Hat 2 I) (Ms.by_part _)) (l_e I (E1 (Ic (kv0 16) _) I call223 Tt (λ_ _=>AM (l_e I (Az I I Z56 I I (Kv.ko _) (Kv.one _) (by simp only[Kv.ko,Ms.ko]; decide) (Ce (CX (kv0 16) m.by').c (Sep.ku (by simp only[Kv.ko,Ms.ko])) (Ak I (Ag (As (Ac (BM I (AK I G56 Z56 (Hat 0 I) (Kv.ko _)) (id I) ?_))))))))))))))))))))))
    exact λ_ h=>⟨(),congrArg (λz:Kv 16×Bool=>Ending.returned (Value.tuple #[.agg (Kv.c z.1).toArray,.bool z.2])) (show ((CX (kv0 16) m.by'),true)=Cp v t m from by
     unfold Cp
     simp_all),T0,h.kv⟩
   .refine Aa I (Ae (Kt (Cs I (Lq I (Cq (v.c) G56 Z56 2 I (Bb _) (Kv.ko _)) (Lfa B8 I Z41 I (Lq I (Al I G41 I (Hat 1 I) (Ms.by_part _)) (l_e I (E1 (Ic v _) I call223 Tt (λ_ _=>l_e I (Az I I Z56 I I (Kv.ko _) (Kv.one _) (by simp only[Kv.ko,Ms.ko]; decide) (Ce (CX v m.by').c (Sep.ku (by simp only[Kv.ko,Ms.ko])) (Ak I (Ag (As (Ac (BM I (AK I G56 Z56 (Hat 0 I) (Kv.ko _)) (id I) ?_))))))))))))))))
    exact λ_ h=>⟨(),congrArg (λz:Kv 16×Bool=>Ending.returned (Value.tuple #[.agg (Kv.c z.1).toArray,.bool z.2])) (show ((CX v m.by'),true)=Cp v t m from by
     unfold Cp
     simp_all),T0,h.kv⟩
  .refine Aa I (Ae (Aw (Kt (Cs I (Lq I (AP ((kv0 16).c) I I (λw=>by kernel_rfl)) (l_e I (Az I I Z56 I I (Kv.ko _) (Kv.one _) (by simp only[Kv.ko,Ms.ko]; decide) (Ce (kv0 16).c (Sep.ku (by simp only[Kv.ko,Ms.ko])) (Ak I (Ag (BM I (AK I G56 Z56 (Hat 0 I) (Kv.ko _)) (id I) ?_)))))))))))
   exact λ_ h=>⟨(),congrArg (λz:Kv 16×Bool=>Ending.returned (Value.tuple #[.agg (Kv.c z.1).toArray,.bool z.2])) (show ((kv0 16),false)=Cp v t m from by
    unfold Cp
    simp_all),T0,h.kv⟩
section
variable {n:Nat} {L:Env} {X:World->Prop} {o:Oper}
theorem iC (k j:En) (ho:o.op=.binOp .neq 79 x y u) (hx:ev L x=some (.agg k.c.toArray)) (hy:ev L y=some (.agg j.c.toArray)):QOp prog n L X o (.bool (!decide (k=j))) :=
 NI (d:=4) (ks:=En.ks) _ (by kernel_rfl) (by kernel_rfl) (by decide) (by kernel_rfl) (by kernel_rfl) (by kernel_rfl) ho hx hy (En.kinds k) (En.kinds j) (by rw[En.c_inj,mS])
end
theorem EI (E:Enc α):RdV w Cb E ([]:List α):=⟨none,0,rfl,lJ _,.inl rfl⟩
theorem Gf {v:Value} {E:Enc α} {l:List α} (h:RdV w v E l):∃s:Sv,v=s.v:=by
 obtain⟨a,c,rfl,_⟩:=h; exact⟨⟨a,l.length,c⟩,rfl⟩
theorem RdV.keepE {H:List Ent} {v:Value} {E:Enc α} {l:List α} (h:RdV w0 v E l) (s:St w0 D H w) (hD:blk v∉D\/l=[]):RdV w v E l:=by
 rcases hD with hD|rfl
 .exact h.keep s hD
 .obtain⟨a,c,e,hc,_⟩:=h; exact⟨a,c,e,hc,.inl rfl⟩
theorem index_spec (l:List Int) (x:Int) (hn:l.length<=65536):Con prog 157 [va,.int .i64 x] (λw=>RdV w va (AH .i64) l) [] (λ_:Unit=>.int .i64 (io (B7 (λz=>decide (z=x)) l))) Tr (λ_=>[]):=by
 intro w hl hH
 refine E0 func157 I hH (Cs I (Ak I (Af (Cs I (Lm I (Lq I (AJ I U22 I hl.kp) (Lm I (Nk (Aj ?_)))))))))
 refine A0 (λ(k:Nat)=>[(0,va),(1,.int .i64 x),(7,.int .i64 (l.length:Int)),(8,.int .i64 (k:Int))]) (λ(k:Nat)=>St w [] []) (λ(k:Nat)=>k<=l.length/\∀z∈l.take k,decide (z=x)=false) (λ(k:Nat)=>l.length-k) (0) ⟨lK _,by simp⟩ (Si I) Ih (λk hp=>Af ?_)
 obtain⟨hk,hx⟩:=hp
 refine Cr I (Lq I (Ql I) (Ns (CB 9 I (λhlt=>?_) (λhlt=>?_))))
 .obtain⟨y,hy⟩:=gE l k
  refine Ah I (Ae (Ks (Aj (Cs I (Lm I (Ak I (Cs I (Mv 3 I (Lq I (Ar k I U22 Z3 I hl.kp I I) (Lq I (AI k 0 I G3 I I hl.kp hy I) (Lq I (Qe I) (Nk (CB 16 I (λhe=>?_) (λhe=>?_))))))))))))))
  .exact Ah I (Cs I (Lm I (Ak I (Ag (As (Ac (Ac (As (Ac (Ao I I (λ_ h=>⟨(),congrArg Ei (by rw[C7 hy (od he.symm) hx]; rfl),T0,h⟩)))))))))))
  .refine Aa I (Ae (Aw (Kt (Cr I (Lq I (Qi I) (Lm I (AB ?_)))))))
   exact AE (k+1) (by omega) ⟨by omega,EY hx hy (oc (λe=>he e.symm))⟩ (Si I) (λ_ h=>h)
 .exact Aa I (AO (Ab (Ab (Am (Kt (Cs I (Ak I (Ag (Ao I I (λ_ h=>⟨(),congrArg Ei (by rw[lI (by omega)] at hx; rw[C8 hx]; rfl),T0,h⟩))))))))))
theorem contains_spec (l:List Int) (x:Int) (hn:l.length<=65536):Con prog 105 [va,.int .i64 x] (λw=>RdV w va (AH .i64) l) [] (λ_:Unit=>.bool (B7 (λz=>decide (z=x)) l).isSome) Tr (λ_=>[]):=by
 intro w hl hH
 refine E0 func105 I hH ?_
 exact Cs I (Ak I (Cs I (Mv 2 I (l_e I (E1 (index_spec l x hn) I call157 hl.kp (λ_ _=>Lq I (Qg I) (Ak I (Ag (Ao I I (λ_ h=>⟨(),congrArg Eb Pa,T0,h⟩))))))))))
theorem isof_spec (y:Wn) (b:Nat) (t:Int):Con prog 256 [.agg y.c.toArray,pV b] Tr [Ad b 3 [.int .i64 t]] (λ_:Unit=>.bool (decide (y.t=t))) Tr (λ_=>[Ad b 3 [.int .i64 t]]):=by
 intro w hE hH
 refine enter (n:=8) (vs:=[.agg y.c.toArray,pV b]) (St w [b] [Ad b 3 [.int .i64 t]]) func256 I I I (St.init hH) ?_
 exact Cs I (l_e I (AT I I I I (λb1=>Ak I (Cs I (Lfa Kh I Z3 I (Lo G3 0 I (Lo G3 1 I (Lq I (Qe I) (Ak I (Ag (Ao I I (λ_ h=>⟨(),rfl,T0,h.drop⟩))))))))))))
theorem indexf_spec (l:List Wn) (b:Nat) (hb:blk va≠b\/l=[]) (t:Int) (hn:l.length<=65536):Con prog 255 [va,.func (.func 256) #[] #[pV b]] (λw=>RdV w va Wn.enc l) [Ad b 3 [.int .i64 t]] (λ_:Unit=>.int .i64 (io (B7 (λz=>decide (z.t=t)) l))) Tr (λ_=>[Ad b 3 [.int .i64 t]]):=by
 intro w hl hH
 refine enter (n:=19) (vs:=[va,.func (.func 256) #[] #[pV b]]) (St w [b] [Ad b 3 [.int .i64 t]]) func255 I I I (St.init hH) ?_
 refine Cs I (Ak I (Af (Cs I (Lm I (Lq I (AJ I Fj I (λ_ h=>RdV.keepE hl h (by simpa [dom,Ad] using hb))) (Lm I (Nk (Aj ?_))))))))
 refine A0 (λ(k:Nat)=>[(0,va),(1,.func (.func 256) #[] #[pV b]),(7,.int .i64 (l.length:Int)),(8,.int .i64 (k:Int))]) (λ(k:Nat)=>St w [b] [Ad b 3 [.int .i64 t]]) (λ(k:Nat)=>k<=l.length/\∀z∈l.take k,decide (z.t=t)=false) (λ(k:Nat)=>l.length-k) (0) ⟨lK _,by simp⟩ (Si I) Ih (λk hp=>Af ?_)
 obtain⟨hk,hx⟩:=hp
 refine Cr I (Lq I (Ql I) (Ns (CB 9 I (λhlt=>?_) (λhlt=>?_))))
 .obtain⟨y,hy⟩:=gE l k
  refine Ah I (Ae (Ks (Aj (Cs I (Lm I (Ak I (Cs I (Mv 3 I (Lq I (Ar k I Fj ER I (λ_ h=>RdV.keepE hl h (by simpa [dom,Ad] using hb)) I I) (Lq I (AV k I Ny ER I I (λ_ h=>RdV.keepE hl h (by simpa [dom,Ad] using hb)) hy) (l_e I (F1 (β:=Unit) (X':=λ_=>St w _ [Ad b 3 [.int .i64 t]]) (v:=λ_=>.bool (decide (y.t=t))) (p:=λ_=>True) I I I I call256 I (λw2 h=>Con.frame (F:=[]) (isof_spec y b t) h trivial) (λ_ _=>Nk (CB 16 I (λhe=>?_) (λhe=>?_)))))))))))))))
  .exact Ah I (Cs I (Lm I (Ak I (Ag (As (Ac (Ac (As (Ac (Ao I I (λ_ h=>⟨(),congrArg Ei (by rw[C7 hy (od he) hx]; rfl),T0,h⟩)))))))))))
  .refine Aa I (Ae (Aw (Kt (Cr I (Lq I (Qi I) (Lm I (AB ?_)))))))
   exact AE (k+1) (by omega) ⟨by omega,EY hx hy (oc he)⟩ (Si I) (λ_ h=>h)
 .exact Aa I (AO (Ab (Ab (Am (Kt (Cs I (Ak I (Ag (Ao I I (λ_ h=>⟨(),congrArg Ei (by rw[lI (by omega)] at hx; rw[C8 hx]; rfl),T0,h⟩))))))))))
theorem deletew_spec {v:Value} (l:List Wn) (i:Nat) (hi:i<l.length) (hn:l.length<=65536):Con prog 284 [v,.int .i64 (i:Int),.int .i64 ((i:Int)+1)] Tr [AA v 277 Wn.enc l] (λv:Value=>v) Tr (λv=>[AA v 277 Wn.enc (l.eraseIdx i)]):=by
 intro w hE hH
 obtain⟨bb,oo,cc,rfl⟩:=JS (BU (hH.holds _ (ns ..))) (show 0<l.length by omega)
 refine Ey func284 I hH (Af (Pre.fact (λ_ h=>(h.rd 0 I).cap) (λhcap=>Cr I (Ak I (Cs I (Mv 4 I (Lq I (AJ I Fj I (Hrd 0 I)) (Lq I (Gs i (i+1) l.length I Fj ER I (Hrd 0 I) I I I I I I (by omega) (by omega) (by omega)) (Ns (Cs I (Mv 3 I (Nk (Sf 16 I (by omega) (Aa I (Ae (Kt (Cs I (Lm I (Lq I (AJ I Fj I (Hrd 0 I)) (Ak I (Af ?_)))))))))))))))))))))
 refine Do8 (rg 8) 729 Tr I St.drawn Tt (Md 2 I (Dq I (FG i I Fj ER I I I (by have:l.length<=cc:=hcap; omega)) (Md 2 I (Dq I (Di (i+1) I Fj ER I I I (by omega)) (Sv' 22 (vsl (.slice (some ⟨bb,oo,none⟩) l.length cc) Wn.enc.sz 0 i) I (by simp[vsl,BJ]) (Sv' 25 (vsl (.slice (some ⟨bb,oo,none⟩) l.length cc) Wn.enc.sz (i+1) l.length) rfl (by by_cases h9:cc=i+1<;>simp[vsl,BJ,h9,AH,Wn.enc]) ?_))))))
 have hcc:l.length<=vcap (.slice (some ⟨bb,oo,none⟩) l.length cc):=hcap
 refine d_e I (Hy i I I I Fj Fj ER I I (λ_ h=>CH (h.rd 0 I) (lo:=i+1) (hi:=l.length) (by omega) (lJ _)) (by simp only[lk,k9]; omega) (λv2 hc2=>Bt (l':=l.eraseIdx i) (by rw[oG,oH]) ?_))
 have hl2:(l.eraseIdx i).length=l.length-1:=by rw[List.length_eraseIdx]; simp; omega
 exact Ai Tt (Das I (AL (Kt (Cs I (Mv 2 I (Lq I (AJ I Fj I (Hrd 0 I)) (Lm I (Lq I (Kj (l.eraseIdx i).length l.length I Fj ER I (Hrd 0 I) I I I I (by omega) (by omega)) (l_e I (Gt I I Fj SO I I (by decide) I (by omega) (by omega) (Nk (Cs I (Lm I (Ak I (Ag (Ao I I (λ_ h=>⟨v2,rfl,T0,h⟩)))))))))))))))))
theorem Pc (l:List En) (hn:l.length<=65536):Con prog 220 [va] (λw=>RdV w va En.enc l) [] (λv:Value=>v) Tr (λv=>[AA v 79 En.enc l]):=by
 intro w hl hH
 obtain⟨a,c,rfl⟩:=FI hl
 refine E0 func220 I hH (Cs I (Ak I (Af (Cs I (Lm I (Lq I (FZ I U49 I I) (Nk (Pre.caseB 4 I (λhn=>?_) (λhn=>?_)))))))))
 .rw[oI] at hn
  subst hn
  have hl0:=EP hl
  subst hl0
  exact Ah I (Cs I (Ak I (Ag (Ac (row0 79 En.enc none (Ao I I (λ_ h=>⟨_,rfl,T0,h⟩)))))))
 .refine Aa I (Ae (Kt (Cs I (l_e I (Ax (sz:=26) [] I I I I I U49 Z79 I zeroValue79 I (λb=>rowLit En.enc [] I I (Lm I (l_e I (Ap U49 U49 CK I hl.kp (by simp; omega) (λv=>Ak I (Ag ?_)))))))))))
  rw[mw]
  exact Ao I I (λ_ h=>⟨v,rfl,T0,h⟩)
theorem Pd (l:List Int) (hn:l.length<=65536):Con prog 107 [va] (λw=>RdV w va (AH .i64) l) [] (λv:Value=>v) Tr (λv=>[AA v 3 (AH .i64) l]):=by
 intro w hl hH
 obtain⟨a,c,rfl⟩:=FI hl
 refine E0 func107 I hH (Cs I (Ak I (Af (Cs I (Lm I (Lq I (FZ I U22 I I) (Nk (Pre.caseB 4 I (λhn=>?_) (λhn=>?_)))))))))
 .rw[oI] at hn
  subst hn
  have hl0:=EP hl
  subst hl0
  exact Ah I (Cs I (Ak I (Ag (Ac (row0 3 (AH .i64) none (Ao I I (λ_ h=>⟨_,rfl,T0,h⟩)))))))
 .refine Aa I (Ae (Kt (Cs I (l_e I (Ax (sz:=1) [] I I I I I U22 Z3 I zeroValue3 I (λb=>rowLit (AH .i64) [] I I (Lm I (l_e I (Ap U22 U22 EA I hl.kp (by simp; omega) (λv=>Ak I (Ag ?_)))))))))))
  rw[mw]
  exact Ao I I (λ_ h=>⟨v,rfl,T0,h⟩)
theorem Pe (l:List (Kv 8)) (hn:l.length<=65536):Con prog 221 [va] (λw=>RdV w va (Kv.enc 8) l) [] (λv:Value=>v) Tr (λv=>[AA v 77 (Kv.enc 8) l]):=by
 intro w hl hH
 obtain⟨a,c,rfl⟩:=FI hl
 refine E0 func221 I hH (Cs I (Ak I (Af (Cs I (Lm I (Lq I (FZ I FJ I I) (Nk (Pre.caseB 4 I (λhn=>?_) (λhn=>?_)))))))))
 .rw[oI] at hn
  subst hn
  have hl0:=EP hl
  subst hl0
  exact Ah I (Cs I (Ak I (Ag (Ac (row0 77 (Kv.enc 8) none (Ao I I (λ_ h=>⟨_,rfl,T0,h⟩)))))))
 .refine Aa I (Ae (Kt (Cs I (l_e I (Ax (sz:=9) [] I I I I I FJ Z77 I zeroValue77 I (λb=>rowLit (Kv.enc 8) [] I I (Lm I (l_e I (Ap FJ FJ eK I hl.kp (by simp; omega) (λv=>Ak I (Ag ?_)))))))))))
  rw[mw]
  exact Ao I I (λ_ h=>⟨v,rfl,T0,h⟩)
theorem Pf (l:List Ms) (hn:l.length<=65536):Con prog 222 [va] (λw=>RdV w va Ms.enc l) [] (λv:Value=>v) Tr (λv=>[AA v 154 Ms.enc l]):=by
 intro w hl hH
 obtain⟨a,c,rfl⟩:=FI hl
 refine E0 func222 I hH (Cs I (Ak I (Af (Cs I (Lm I (Lq I (FZ I BO I I) (Nk (Pre.caseB 4 I (λhn=>?_) (λhn=>?_)))))))))
 .rw[oI] at hn
  subst hn
  have hl0:=EP hl
  subst hl0
  exact Ah I (Cs I (Ak I (Ag (Ac (row0 154 Ms.enc none (Ao I I (λ_ h=>⟨_,rfl,T0,h⟩)))))))
 .refine Aa I (Ae (Kt (Cs I (l_e I (Ax (sz:=29) [] I I I I I BO Bl I zeroValue154 I (λb=>rowLit Ms.enc [] I I (Lm I (l_e I (Ap BO BO Dy I hl.kp (by simp; omega) (λv=>Ak I (Ag ?_)))))))))))
  rw[mw]
  exact Ao I I (λ_ h=>⟨v,rfl,T0,h⟩)
theorem block_spec (x:Int):Con prog 241 [.int .i64 x] Tr [] (λ_:Unit=>.bool (bkB x)) Tr (λ_=>[]):=by
 intro w hE hH
 refine E0 func241 I hH (Cs I (Ak I (Cs I (Mv 3 I (CB 5 I (λh1=>?_) (λh1=>?_))))))
 .exact Mv 3 I (Ak I (Ag (Ao I I (λ_ h=>⟨(),congrArg Eb (by unfold bkB; rw[od h1]; rfl),T0,h⟩))))
 .exact Mv 3 I (Ak I (Ag (Ao I I (λ_ h=>⟨(),congrArg Eb (by unfold bkB; rw[oc (by omega)]; rfl),T0,h⟩))))
theorem I0 (x:Int):Con prog 190 [.int .i64 x] Tr [] (λ_:Unit=>.bool (tkB x)) Tr (λ_=>[]):=by
 intro w hE hH
 refine E0 func190 I hH (Cs I (Ak I (Cs I (Mv 3 I (CB 5 I (λh1=>?_) (λh1=>?_))))))
 .exact Mv 3 I (Ak I (Ag (Ao I I (λ_ h=>⟨(),congrArg Eb (by unfold tkB; rw[od h1]; rfl),T0,h⟩))))
 .exact Mv 3 I (Ak I (Ag (Ao I I (λ_ h=>⟨(),congrArg Eb (by unfold tkB; rw[oc (by omega)]; rfl),T0,h⟩))))
theorem B5 {Q:Prop} (o:Option α) (h1:o=none->Q) (h2:∀i,o=some i->Q):Q:=by cases o with
 |none=>exact h1 rfl
 |some i=>exact h2 i rfl
theorem e_q {n:Nat} {v:Value} (hd:o.dst=some d) (hn:d.blt n) (hq:QOp P n L X o v) (h:Pre n ((d,v)::L) X K):EOp P n L X o Q K :=
 EOp.val (β:=Unit) (λ_=>v) Tr (λ_=>X) hd hn (λa w k x=>⟨(),w,hq a w k x,T0,x⟩) (λ_ _=>h)
abbrev kI:Int->Value:=Value.int .i64
abbrev vS (q:Sv×List Int):Value:=q.1.v
theorem Ky:Ia prog 3 kI:=Ux .i64 U3
def wn (q:Int×Int):Wn:=⟨q.1,q.2,decide (q.2 = -1)⟩
structure CS where
 vF:Value
 fl:List FC
 bA:Nat
 at':List (Int×Int)
 bL:Nat
 ld:List (Int×(Sv×List Int))
 vL:Value
 ln:List Wn
 hand:Int
namespace CS
def cells (S:CS):List Value:=[S.vF,.map (some S.bA),.map (some S.bL),S.vL,.int .i64 S.hand]
def rows (S:CS):List Ent:=S.ld.map (λq=>AA q.2.1.v 3 (AH .i64) q.2.2)
def H (bc:Nat) (S:CS):List Ent:=[Ad bc 257 S.cells,AA S.vF 259 FC.enc S.fl,Dz S.bA kI kI S.at',Dz S.bL kI vS S.ld,AA S.vL 277 Wn.enc S.ln]++S.rows
end CS
structure CR (w:World) (bc:Nat) (S:CS):Prop where
 c:(Ad bc 257 S.cells).at w
 f:RdV w S.vF FC.enc S.fl
 a:(Dz S.bA kI kI S.at').at w
 m:(Dz S.bL kI vS S.ld).at w
 l:RdV w S.vL Wn.enc S.ln
 r:∀q∈S.ld,RdV w q.2.1.v (AH .i64) q.2.2
theorem CR.of {S:CS} {F:List Ent} (h:St w0 D (S.H bc++F) w):CR w bc S :=
 ⟨h.at 0 rfl,h.rd 1 rfl,h.at 2 rfl,h.at 3 rfl,h.rd 4 rfl,λq hq=>BU (h.hp.holds _ (lO _ (nK _ (lP.2 ⟨q,hq,rfl⟩))))⟩
theorem CR.keep {S:CS} {H:List Ent} (h:CR w0 bc S) (s:St w0 [] H w):CR w bc S :=
 ⟨O7 h.c s (by simp),h.f.keep s (by simp),Mx h.a s (by simp),Mx h.m s (by simp),h.l.keep s (by simp),λq hq=>(h.r q hq).keep s (by simp)⟩
structure Rel (S:CS) (M:Mo):Prop where
 fr:S.fl.map vw=M.fr
 ln:S.ln=M.line.map wn
 hd:S.hand=M.hand
 at':∀b,Co b S.at'=Option.map (λi:Nat=>(i:Int)) (M.find b)
 ld:∀b,M.told b=match Co b S.ld with|some q=>q.2|none=>[]
 nd:(S.ld.map Prod.fst).Nodup
 na:(S.at'.map Prod.fst).Nodup
theorem Rel.len {S:CS} {M:Mo} (h:Rel S M):S.fl.length=M.fr.length:=by rw[<-h.fr,mB]
theorem Rel.lnl {S:CS} {M:Mo} (h:Rel S M):S.ln.length=M.line.length:=by rw[h.ln,mB]
theorem Rel.get {S:CS} {M:Mo} (h:Rel S M) {i:Nat} {y:Vw} (hy:M.fr[i]?=some y):∃f,S.fl[i]?=some f/\vw f=y:=by
 rw[<-h.fr,lS,mP] at hy; exact hy
theorem Rel.vw_at {S:CS} {M:Mo} (h:Rel S M) {i:Nat} {f:FC} (hf:S.fl[i]?=some f):M.fr[i]?=some (vw f):=by rw[<-h.fr,lS,hf]; rfl
theorem Kz {M:Mo} {y:Vw} (h:M.fr[i]?=some y):M.at' i=y:=by unfold Mo.at'; rw[om,h]; rfl
theorem Et {M:Mo} (h:M.find b=some i):∃y,M.fr[i]?=some y/\y.blk=b/\(y.st=1\/y.st=2)/\M.at' i=y:=by
 obtain⟨y,h1,h2,_⟩:=C4 h
 simp only[isB,mz,Bool.or_eq_true,mS] at h2
 exact⟨y,h1,h2.1,h2.2,Kz h1⟩
theorem HJ {M:Mo} {st:Int} (h:M.frI b st=some i):M.find b=some i/\(M.at' i).st=st:=by
 unfold Mo.frI at h
 split at h
 .rename_i j hj
  split at h
  .rename_i hs; cases h; exact⟨hj,hs⟩
  .cases h
 .cases h
abbrev fp (v:Value) (i:Nat):Value:=.pointer (some ⟨blk v,Fi v+i*11,none⟩)
def fpo (v:Value):Option Nat->Value
 |some i=>fp v i
 |none=>.pointer none
theorem jO (q:Int×Int):(wn q).t=q.1:=rfl
theorem WA {S:CS} {M:Mo} (h:Rel S M) (t:Int):B7 (λz:Wn=>decide (z.t=t)) S.ln=M.stand t:=by
 rw[h.ln]; unfold Mo.stand; rw[O9]; rfl
theorem KA {M:Mo} (h:M.stand t=some i):∃q,M.line[i]?=some q/\q.1=t:=by
 obtain⟨q,h1,h2,_⟩:=C4 h; exact⟨q,h1,oh h2⟩
theorem KB [DecidableEq α] {a:α} {y:β}:∀{l:List (α×β)},Co a l=some y->(a,y)∈l
 |[],h=>by cases h
 |(x,z)::l,h=>by
  simp only[Co] at h
  split at h
  .rename_i e; cases h; subst e; exact ns ..
  .exact nG _ (KB h)
theorem KC [DecidableEq α] {a:α} {y:β}:∀{l:List (α×β)},(l.map Prod.fst).Nodup->(a,y)∈l->Co a l=some y
 |[],_,h=>by cases h
 |(x,z)::l,hn,h=>by
  obtain⟨h1,h2⟩:=nH.1 hn
  simp only[Co]
  rcases kN.1 h with h5|h5
  .cases h5; rw[lu rfl]
  .rw[lz (λe=>h1 (by subst e; exact lP.2 ⟨_,h5,rfl⟩))]; exact KC h2 h5
theorem GX (a:Int) (v:β):∀{l:List (Int×β)},(l.map Prod.fst).Nodup->((mput a v l).map Prod.fst).Nodup
 |[],_=>by simp[mput]
 |(x,y)::l,h=>by
  obtain⟨h1,h2⟩:=nH.1 h
  simp only[mput]
  split
  .rename_i e; subst e; exact nH.2 ⟨h1,h2⟩
  .rename_i e
   refine nH.2 ⟨λhm=>?_,GX a v h2⟩
   have:∀{l:List (Int×β)},x∈(mput a v l).map Prod.fst->x=a\/x∈l.map Prod.fst:=by
    intro l
    induction l with
    |nil=>intro h; simp[mput] at h; exact .inl h
    |cons p l ih =>
     intro h
     simp only[mput] at h
     split at h
     .rename_i e2
      rcases kN.1 h with h|h
      .exact .inl h
      .exact .inr (nG _ h)
     .rcases kN.1 h with h|h
      .exact .inr (by rw[h]; exact ns ..)
      .rcases ih h with h|h
       .exact .inl h
       .exact .inr (nG _ h)
   rcases this hm with h5|h5
   .exact e h5.symm
   .exact h1 h5
theorem waits_iff {S:CS} {M:Mo} (h:Rel S M) (t:Int):M.waits t=true↔∃q∈S.ld,t∈q.2.2:=by
 constructor
 .intro hw
  obtain⟨q,hq,hqt⟩:=nk.1 hw
  have ht:t∈M.told q.2:=lP.2 ⟨q,oD.2 ⟨hq,by simp⟩,oh hqt⟩
  rw[h.ld] at ht
  cases hm:Co q.2 S.ld with
  |none=>rw[hm] at ht; cases ht
  |some r=>rw[hm] at ht; exact⟨_,KB hm,ht⟩
 .rintro⟨q,hq,ht⟩
  have hm:Co q.1 S.ld=some q.2:=KC h.nd (by obtain⟨a,b⟩:=q; exact hq)
  have:=h.ld q.1
  rw[hm] at this
  have ht:t∈M.told q.1:=by rw[this]; exact ht
  obtain⟨p,hp,e⟩:=lP.1 ht
  exact nk.2 ⟨p,(oD.1 hp).1,od e⟩
theorem Ej {S:CS} {M:Mo} (hR:Rel S M) (hO:M.Ok B) (b:Int):Con prog 194 [pV bc,.int .i64 b] (λw=>CR w bc S) [] (λ_:Unit=>.int .i64 (io (M.find b))) Tr (λ_=>[]):=by
 intro w hC hH
 refine E0 func194 I hH (Cs I (Ak I (Cs I (Mv 2 I (Lfa Db I sizeOf89 I (Lq I (Al I isAgg89 I (λ_ h=>(CR.keep hC h).c) I) (Lm I (Lq I (Kq (kf:=kI) (vf:=kI) b I U89 Ky zeroValue3 I I (λ_ h=>(CR.keep hC h).a)) (Mv 4 I (Ak I (Af (Af (B5 (M.find b) (λhf=>?_) (λi hf=>?_))))))))))))))
 .have hm:=hR.at' b
  rw[hf,Option.map_none] at hm
  exact Sv' 6 (.bool false) I (by rw[hm]; rfl) (Cr I (Mv 2 I (Nk (Ah I (Cs I (Ak I (Ag (Ac (Ao I I (λ_ h=>⟨(),congrArg Ei (by rw[hf]; rfl),T0,h⟩))))))))))
 .have hm:=hR.at' b
  rw[hf,lU] at hm
  exact Sv' 6 (.bool true) I (by rw[hm]; rfl) (Sv' 5 (.int .i64 (i:Int)) I (by rw[hm]) (Cr I (Mv 2 I (Nk (Aa I (Ae (Kt (Cs I (Lm I (Ak I (Ag (Ao I I (λ_ h=>⟨(),congrArg Ei (by rw[hf]; rfl),T0,h⟩)))))))))))))
theorem iD {v:Value} {E:Enc α} {l:List α} {b:Nat} {φ:Option Obj->Prop} {H:List Ent} (h:RdV w0 v E l) (s:St w0 [] (⟨some b,φ⟩::H) w):blk v≠b\/l=[]:=by
 by_cases hl:l=[]
 .exact .inr hl
 .refine .inl (λe=>?_)
  have h1:=h.lt hl
  have h2:b∈([]:List Nat)\/w0.heap.size<=b:=s.dom b (ns ..)
  rcases h2 with h2|h2
  .cases h2
  .omega
section
variable {n:Nat} {L:Env} {X:World->Prop} {o:Oper}
def wks:List Sc:=[.i .i64,.i .i64,.b]
def i64 (z:Int):Prop:=(Lit.int .i64 z).wf=true
theorem KD {z:Int} (h0 : -60000<=z) (h1:z<=60000):i64 z:=by
 unfold i64
 simp only[Lit.wf,mz,mS]
 exact⟨by show (-2^63:Int)<=_; omega,by show _<=(2^63-1:Int); omega⟩
theorem Wn.kinds {w:Wn} (ht:i64 w.t) (hb:i64 w.b):Kinds wks w.c:=by
 refine⟨rfl,λj k v h1 h2=>?_⟩
 match j with
 |0=>cases h1; cases h2; exact⟨_,rfl,ht⟩
 |1=>cases h1; cases h2; exact⟨_,rfl,hb⟩
 |2=>cases h1; cases h2; exact⟨_,rfl⟩
 |j+3=>simp[wks] at h1
theorem Wn.c_inj {a b:Wn}:a.c=b.c↔a=b:=by
 refine⟨λh=>?_,λh=>by rw[h]⟩
 simp only[Wn.c,List.cons.injEq,Value.int.injEq,Value.bool.injEq,true_and,and_true] at h
 exact Wn.ext' h.1 h.2.1 h.2.2
theorem iE (k j:Wn) (hk:i64 k.t/\i64 k.b) (hj:i64 j.t/\i64 j.b) (ho:o.op=.binOp .eql 277 x y u) (hx:ev L x=some (.agg k.c.toArray)) (hy:ev L y=some (.agg j.c.toArray)):QOp prog n L X o (.bool (decide (k=j))) :=
 JU (d:=3) (ks:=wks) _ (by kernel_rfl) (by kernel_rfl) (by decide) (by kernel_rfl) (by kernel_rfl) (by kernel_rfl) ho hx hy (Wn.kinds hk.1 hk.2) (Wn.kinds hj.1 hj.2) (by rw[Wn.c_inj,mS])
end
theorem iF {p:Int×Int}:decide (wn p=wn q)=decide (p=q):=by
 rw[oE]
 refine⟨λh=>?_,λh=>by rw[h]⟩
 have h1:=congrArg Wn.t h
 have h2:=congrArg Wn.b h
 exact Prod.ext h1 h2
theorem iG {S:CS} {m:Array MapEntry} (h:m.toList.map (λe=>(e.key,e.val))=S.ld.map (λp=>(kI p.1,vS p.2))) {e:MapEntry} (he:e∈m.toList):∃(i:Nat) (q:Int×(Sv×List Int)),m[i]?=some e/\S.ld[i]?=some q/\e.val=q.2.1.v:=by
 obtain⟨i,hi⟩:=oJ.1 he
 have h1:(m.toList.map (λe=>(e.key,e.val)))[i]?=some (e.key,e.val):=by rw[lS,hi]; rfl
 rw[h,lS,mP] at h1
 obtain⟨q,hq,e2⟩:=h1
 exact⟨i,q,by simpa using hi,hq,(congrArg Prod.snd e2).symm⟩
theorem iH {S:CS} {m:Array MapEntry} (h:m.toList.map (λe=>(e.key,e.val))=S.ld.map (λp=>(kI p.1,vS p.2))) {q:Int×(Sv×List Int)} (hq:q∈S.ld):∃(i:Nat) (e:MapEntry),S.ld[i]?=some q/\m[i]?=some e/\e∈m.toList:=by
 obtain⟨i,hi⟩:=oJ.1 hq
 have hl:=congrArg List.length h
 simp only[mB,mX] at hl
 have hlt:=(lR.1 hi).1
 exact⟨i,m[i],hi,ox (by omega),by simp⟩
theorem WB {m:Array MapEntry} (hn:(m.toList.map (·.born)).Nodup) {i j:Nat} {e f:MapEntry} (he:m[i]?=some e) (hf:m[j]?=some f) (h:e.born=f.born):i=j:=by
 have hi:=(lH.1 he).1
 have hj:=(lH.1 hf).1
 refine (List.getElem_inj (h₀:=by simpa using hi) (h₁:=by simpa using hj) hn).1 ?_
 have e1:=(lH.1 he).2
 have e2:=(lH.1 hf).2
 simp[e1,e2,h]
theorem KE {l:List Int}:(B7 (λz=>decide (z=t)) l).isSome=true↔t∈l:=by
 constructor
 .intro h
  obtain⟨k,hk⟩:=Option.isSome_iff_exists.1 h
  obtain⟨y,hy,hp,_⟩:=C4 hk
  have:=oh hp
  subst this; exact mQ hy
 .intro h
  cases hf:B7 (λz=>decide (z=t)) l with
  |some _=>rfl
  |none=>have:=JV hf t h; simp at this
theorem E8 {S:CS} {M:Mo} (hR:Rel S M) (hO:M.Ok B) (b st:Int):Con prog 165 [pV bc,.int .i64 b,.int .i64 st] (λw=>CR w bc S) [] (λ_:Unit=>fpo S.vF (M.frI b st)) Tr (λ_=>[]):=by
 intro w hC hH
 refine E0 func165 I hH (Cs I (Ak I (Cs I (Mv 2 I (l_e I (E1 (Ej hR hO b) I call194 (λ_ h=>CR.keep hC h) (λ_ _=>Ak I (Af (Af (B5 (M.find b) (λhf=>?_) (λi hf=>?_)))))))))))
 .exact Sv' 7 (.int .i64 (-1)) I (by rw[hf]; rfl) (Cr I (Mv 3 I (Sb 13 true I (I) (Mv 11 I (Nk (Ah I (Cs I (Ak I (Ag (Ac (Ao I I (λ_ h=>⟨(),congrArg (λz=>Ending.returned z) (by unfold Mo.frI; rw[hf]; rfl),T0,h.kv⟩))))))))))))
 .obtain⟨y,hy,hyb,hys,hya⟩:=Et hf
  obtain⟨f,hfi,hfy⟩:=hR.get hy
  have hlt:=(lR.1 hfi).1
  have hst:(M.at' i).st=f.st:=by rw[hya,<-hfy]; rfl
  refine Sv' 7 (.int .i64 (i:Int)) I (by rw[hf]; rfl) (Cr I (Mv 3 I (Sf 13 I (by omega) (Mv 2 I (Lfa Db I Gg I (Lq I (Al I G2 I (λ_ h=>(CR.keep hC h).c) I) (Lm I (Lq I (Ar i I FK E5 I hC.f.kp I I) (Lfa EG I Z3 I (Lq I (AI i 0 I G3 I I hC.f.kp hfi I) (Mv 3 I (Nk (CB 24 I (λhs=>?_) (λhs=>?_))))))))))))))
  .exact Ah I (Cs I (Ak I (Ag (Ac (Ao I I (λ_ h=>⟨(),congrArg (λz=>Ending.returned z) (by unfold Mo.frI; rw[hf]; simp only; rw[lz (by rw[hst]; exact hs)]; rfl),T0,h.kv⟩))))))
  .exact Aa I (Ae (Kt (Cs I (Mv 2 I (Lfa Db I Gg I (Lq I (Al I G2 I (λ_ h=>(CR.keep hC h).c) I) (Lm I (Lq I (Ar i I FK E5 I hC.f.kp I I) (Ak I (Ag (Ao I I (λ_ h=>⟨(),congrArg (λz=>Ending.returned z) (by unfold Mo.frI; rw[hf]; simp only; rw[lu (by rw[hst]; exact hs)]; rfl),T0,h.kv⟩))))))))))))
theorem Ft {S:CS} {M:Mo} (hR:Rel S M) (hO:M.Ok B) (t:Int):Con prog 192 [pV bc,.int .i64 t] (λw=>CR w bc S) [] (λ_:Unit=>.int .i64 (io (M.stand t))) Tr (λ_=>[]):=by
 intro w hC hH
 refine E0 func192 I hH ?_
 exact Cs I (l_e I (AT I I I I (λbt=>Ce [.int .i64 t] I (Ak I (Cs I (Mv 2 I (Lfa Db I IM I (Lq I (Al I Nz I (λ_ h=>(CR.keep hC h).c) I) (Lq I (C3 (fn:=.func 0) (us:=#[pV bt]) 256 I (vs:=#[]) (λa k=>by simp) (λa k=>by simp[k.eval (x:=.tmp 3) rfl])) (Pre.fact (λ_ h=>iD hC.l h) (λhb=>l_e I (Bf (indexf_spec S.ln bt hb t (by have:=hR.lnl; have:=hO.lB; have:=hO.B9; omega)) I I I call255 I (λ_ h=>(CR.keep hC h).l) (λ_ _=>Ak I (Ag (Ao I I (λ_ h=>⟨(),congrArg Ei (by rw[WA hR]),T0,h.kv⟩))))))))))))))))
theorem waits_spec {S:CS} {M:Mo} (hR:Rel S M) (hO:M.Ok B) (t:Int):Con prog 191 [pV bc,.int .i64 t] (λw=>CR w bc S) [] (λ_:Unit=>.bool (M.waits t)) Tr (λ_=>[]):=by
 intro w hC hH
 refine E0 func191 I hH (Cs I (Ak I (Af (Cs I (Mv 2 I (Lfa Db I Ul I (Lq I (Al I isAgg254 I (λ_ h=>(CR.keep hC h).c) I) ?_)))))))
 obtain⟨m,c,hm,hkv,hT⟩:=Ib hC.m
 have hX:Uy S.bL m c w:=hm
 refine l_e I (Z2 I I I Q9 I (λ_ h=>IT hX h (by simp)) (λr=>Nk (Aj ?_)))
 refine A0 (λ(seen:Array Nat)=>[(1,.int .i64 t),(11,pV r)]) (λ(seen:Array Nat)=>St w [] [itE r S.bL c seen]) (λ(seen:Array Nat)=>∀(i:Nat) (e:MapEntry) (q:Int×(Sv×List Int)),m[i]?=some e->S.ld[i]?=some q->seen.contains e.born=true->t∉q.2.2) (λ(seen:Array Nat)=>SR m seen) (#[]) (λi e q h1 h2 h3=>by simp at h3) (Si I) Ih (λseen hp=>Cs I (l_e I ?_))
 refine eQ I I I I hT.1 (λ_ h=>IT hX h (by simp)) (λh0=>?_) (λe he=>?_)
 .refine Lq I (Qx I) (Ns (Aa I (AO (Ab (Ab (Am (Kt (Cs I (Ak I (Ag (Av ?_)))))))))))
  have hno:=UA h0
  refine Ao I I ?_
  exact λ_ h=>⟨(),congrArg Eb ((by
   rw[m9] 
   intro hw
   obtain⟨q,hq,ht⟩:=(waits_iff hR t).1 hw
   obtain⟨i,e,h1,h2,h3⟩:=iH hkv hq
   exact hp i e q h2 h1 (hno e h3) ht:M.waits t=false).symm),T0,h.kv⟩
 .obtain⟨hem,hes⟩:=O6 he
  obtain⟨i,q,hmi,hqi,hval⟩:=iG hkv hem
  have hq:=mQ hqi
  refine Lq I (Qx I) (Ns (Ah I (Ae (Kt (Aj (Cs I (Lq I (Z6 I I hT.2 hem (λ_ h=>IT hX h (by simp)) (Hat 0 I)) (Lq I (Qx I) (Ak I (Af (Sv' 6 (q.2.1.v) I (hval) (Cr I (Mv 2 I ?_)))))))))))))
  have hqm:Co q.1 S.ld=some q.2:=KC hR.nd hq
  have hql:q.2.2.length<=65536:=by
   have h1:=hR.ld q.1
   rw[hqm] at h1
   have h2:q.2.2=M.told q.1:=h1.symm
   rw[h2]; unfold Mo.told
   rw[mB]
   exact mf (oK _ _) (by have:=hO.ll; have:=hO.B9; omega)
  refine l_e I (E1 (contains_spec q.2.2 t hql) I call105 (λ_ h=>(hC.r q hq).keep h (by simp)) (λ_ _=>Nk (Pre.caseB 18 I (λhc=>?_) (λhc=>?_))))
  .exact Ah I (Cs I (Ak I (Ag (As (Ac (As (Ac (Ao I I (λ_ h=>⟨(),congrArg Eb (((waits_iff hR t).2 ⟨q,hq,KE.1 hc⟩).symm),T0,h.kv⟩)))))))))
  .refine Aa I (Ae (Aw ?_))
   exact AE (seen.push e.born) (Uz he) (λi' e' q' h1 h2 h3 ht=>by
    rw[Array.contains_push,Bool.or_eq_true] at h3
    rcases h3.symm with h3|h3
    .have hb:e'.born=e.born:=by first|exact (nm.1 h3).symm|exact nm.1 h3
     have:=WB hT.2 h1 hmi hb
     subst this
     rw[hqi] at h2; cases h2
     have:=KE.2 ht
     rw[hc] at this; cases this
    .exact hp i' e' q' h1 h2 h3 ht) (Si I) (λ_ h=>h)
theorem KF {Q:Prop} (l:List α) (h1:l=[]->Q) (h2:∀q r,l=q::r->Q):Q:=by cases l with
 |nil=>exact h1 rfl
 |cons q r=>exact h2 q r rfl
theorem Jx {p:α->Bool} {l:List α} {x:α} (h:l[i]?=some x):(l.take (i+1)).countP p=(l.take i).countP p+(if p x=true then 1 else 0):=by
 rw[nT,h,List.countP_append]; simp[List.countP_cons]
def cls (M:Mo) (t:Int) (i:Nat):List Nat:=(List.range i).filter (λj=>isC t (M.at' j))
theorem KG (M:Mo) (t:Int) (i:Nat):cls M t (i+1)=if isC t (M.at' i)=true then cls M t i++[i] else cls M t i:=by
 unfold cls; rw[oL,oM]
 cases h:isC t (M.at' i)<;>simp[h]
theorem NS (M:Mo) (t:Int) (i:Nat):(cls M t i).length<=i:=by
 have:=oK (λj=>isC t (M.at' j)) (List.range i)
 rw[oN] at this; exact this
theorem MD (M:Mo) (t:Int):∀i,i<=M.fr.length->(cls M t i).length=(M.fr.take i).countP (isC t)
 |0,_=>rfl
 |i+1,h=>by
  obtain⟨y,hy⟩:=gE M.fr i
  rw[KG,Jx hy,Kz hy,<-MD M t i (by omega)]
  split<;>simp
theorem S4 (M:Mo) (t:Int):(cls M t M.fr.length).length=M.claims t:=by
 rw[MD M t _ (lJ _),oG]; rfl
def ME (v:Value):Enc Nat:=⟨1,λi=>[fp v i],λ_=>rfl,λa u h=>by simp at h; subst h; rfl,by decide⟩
theorem e6 (t:Int) (f:FC):isC t (vw f)=(decide (f.st=3)&&decide (f.own=t)):=by
 unfold isC vw
 by_cases h:f.st=3<;>simp[h]
theorem WC {M:Mo} (h1:tkB t) (h2:M.waits t=false) (h:M.stand t=none):M.may t=true:=by unfold Mo.may; rw[h1,h2,h]; rfl
theorem WD {M:Mo} {k:Nat} (h1:tkB t) (h2:M.waits t=false) (h:M.stand t=some k) (hq:M.line[k]?=some q):M.may t=((decide (k=0)&&decide (0<M.free))||(M.find q.2).isSome):=by
 have hg:M.line.getD k (0,-1)=q:=by rw[om,hq]; rfl
 unfold Mo.may
 rw[h1,h2,h]
 show (true&&!false&&(decide (k=0)&&decide (0<M.free)||(M.find (M.line.getD k (0,-1)).2).isSome))=_
 rw[hg]
 simp
theorem may_spec {S:CS} {M:Mo} (hR:Rel S M) (hO:M.Ok B) (t b:Int) (hb64:i64 b):Con prog 242 [pV bc,.agg (wn (t,b)).c.toArray] (λw=>CR w bc S) [] (λ_:Unit=>.bool (M.mayW t b)) Tr (λ_=>[]):=by
 intro w hC hH
 refine E0 func242 I hH (Cs I (l_e I (AT I I I I (λbw=>Ce (wn (t,b)).c I (Ak I (Cs I (Lm I (Lfa Kh I Z3 I (Lo G3 0 I (l_e I (E1 (Ft hR hO t) I call192 (λ_ h=>CR.keep hC h) (λ_ _=>Ak I (Af (B5 (M.stand t) (λhs=>?_) (λi hs=>?_)))))))))))))))
 .refine Sv' 5 (.int .i64 (-1)) I (by rw[hs]; rfl) (Do8 (rg 26) 2196 (λw2=>CR w2 bc S/\(Ad bw 277 (wn (t,b)).c).at w2) I St.drawn (λ_ h=>⟨CR.keep hC h,h.at 0 rfl⟩) (Dfa Kh I Z3 I (Dq I (Al I G3 I (λ_ h=>h.2) I) (d_e I (E1 (I0 t) I call190 Tt (λ_ _=>Ai (λ_ h=>⟨CR.keep hC h,h.at 0 rfl⟩) (Dm I (Pre.caseB 13 I (λh1=>?_) (λh1=>?_)))))))))
  .have ht8:0<=t/\t<8:=by unfold tkB at h1; simpa using h1
   have ht64:i64 t:=KD (by omega) (by omega)
   refine Dm I (Dfa Kh I Z3 I (Dq I (Al I G3 I (λ_ h=>h.2) I) (d_e I (E1 (waits_spec hR hO t) I call191 (λ_ h=>CR.keep hC h) (λ_ _=>Ai (λ_ h=>⟨CR.keep hC h,h.at 0 rfl⟩) (Md 3 I (CB 20 I (λh2=>?_) (λh2=>?_))))))))
   .exact Md 3 I (Sb 23 true I (I) (Md 12 I (AL (Kt (Ag (Ao I I (λ_ h=>⟨(),congrArg Eb (by unfold Mo.mayW; rw[h1,h2,hs]; rfl),T0,h.kv⟩)))))))
   .exact Md 15 I (AL (Kt (Ag (Ao I I (λ_ h=>⟨(),congrArg Eb (by unfold Mo.mayW; rw[h1,h2]; rfl),T0,h.kv⟩)))))
  .refine Md 22 I (AL (Kt ?_))
   exact Ag (Ao I I (λ_ h=>⟨(),congrArg Eb (by unfold Mo.mayW; rw[h1]; rfl),T0,h.kv⟩))
 .obtain⟨q,hq,hqt⟩:=KA hs
  have hli:S.ln[i]?=some (wn q):=by rw[hR.ln,lS,hq]; rfl
  have hlt:=(lR.1 hli).1
  refine Sv' 5 (.int .i64 (i:Int)) I (by rw[hs]; rfl) (Do8 (rg 26) 2196 (λw2=>CR w2 bc S/\(Ad bw 277 (wn (t,b)).c).at w2) I St.drawn (λ_ h=>⟨CR.keep hC h,h.at 0 rfl⟩) (Dfa Kh I Z3 I (Dq I (Al I G3 I (λ_ h=>h.2) I) (d_e I (E1 (I0 t) I call190 Tt (λ_ _=>Ai (λ_ h=>⟨CR.keep hC h,h.at 0 rfl⟩) (Dm I (Pre.caseB 13 I (λh1=>?_) (λh1=>?_)))))))))
  .have ht8:0<=t/\t<8:=by unfold tkB at h1; simpa using h1
   have ht64:i64 t:=KD (by omega) (by omega)
   refine Dm I (Dfa Kh I Z3 I (Dq I (Al I G3 I (λ_ h=>h.2) I) (d_e I (E1 (waits_spec hR hO t) I call191 (λ_ h=>CR.keep hC h) (λ_ _=>Ai (λ_ h=>⟨CR.keep hC h,h.at 0 rfl⟩) (Md 3 I (CB 20 I (λh2=>?_) (λh2=>?_))))))))
   .exact Md 3 I (Sf 23 I (by omega) (Md 2 I (Dfa Db I IM I (Dq I (Al I Nz I (λ_ h=>(h.1).c) I) (Dm I (Dq I (Ar i I Fj ER I (λ_ h=>(h.1).l) I I) (Dq I (AV i I Ny ER I I (λ_ h=>(h.1).l) hli) (Dq I (AQ ((wn (t,b)).c) I Ny ER I (λ_ h=>h.2) (I) (I)) (Dq I (iE (wn q) (wn (t,b)) ⟨by rw[jO,hqt]; exact ht64,KD (by have:=hO.lb q (mQ hq); show -60000<=q.2; omega) (by have:=hO.lb q (mQ hq); show q.2<=60000; omega)⟩ ⟨ht64,hb64⟩ I I I) (Md 3 I (AL (Kt (Ag (Ao I I (λ_ h=>⟨(),congrArg Eb (by rw[iF]; unfold Mo.mayW; rw[h1,h2,hs]; show _=(true&&!false&&decide (M.line[i]?=some (t,b))); rw[hq]; simp),T0,h.kv⟩)))))))))))))))
   .exact Md 15 I (AL (Kt (Ag (Ao I I (λ_ h=>⟨(),congrArg Eb (by unfold Mo.mayW; rw[h1,h2]; rfl),T0,h.kv⟩)))))
  .refine Md 22 I (AL (Kt ?_))
   exact Ag (Ao I I (λ_ h=>⟨(),congrArg Eb (by unfold Mo.mayW; rw[h1]; rfl),T0,h.kv⟩))
theorem free_spec {S:CS} {M:Mo} (hR:Rel S M) (hO:M.Ok B) (t:Int):Con prog 244 [pV bc,.int .i64 t] (λw=>CR w bc S) [] (λ_:Unit=>fpo S.vF (M.takes t)) Tr (λ_=>[]):=by
 intro w hC hH
 refine E0 func244 I hH (Cs I (Ak I (Af (Cs I (Mv 2 I (Lfa Db I IM I (Lq I (Al I Nz I (λ_ h=>(CR.keep hC h).c) I) (Lq I (AJ I Fj I hC.l.kp) (Lq I (BQ I I I) (Lm I (KF M.line (λhl=>?_) (λq r hl=>?_))))))))))))
 .have h0:S.ln.length=0:=by rw[hR.lnl,hl]; rfl
  have ht:M.turn t=true:=by unfold Mo.turn; rw[hl]
  refine Sf 12 I (by omega) (Mv 10 I (Nk (Aa I (Ae (Ks (Cs I (Mv 2 I (Lfa Db I Gg I (Lq I (Al I G2 I (λ_ h=>(CR.keep hC h).c) I) (Lq I (AJ I FK I hC.f.kp) (Lm I (Nk (Aj ?_)))))))))))))
  refine A0 (λ(i:Nat)=>[(0,pV bc),(1,.int .i64 t),(27,.int .i64 (S.fl.length:Int)),(28,.int .i64 (i:Int))]) (λ(i:Nat)=>St w [] []) (λ(i:Nat)=>i<=S.fl.length/\∀z∈M.fr.take i,isF z=false) (λ(i:Nat)=>S.fl.length-i) (0) ⟨lK _,by simp⟩ (Si I) Ih (λi hp=>Af ?_)
  obtain⟨hi,hno⟩:=hp
  have hfl:=hR.len
  have h64:=hO.n64
  refine Cr I (Lq I (Ql I) (Ns (CB 29 I (λh1=>?_) (λh1=>?_))))
  .obtain⟨f,hfi⟩:=gE S.fl i
   have hv:=hR.vw_at hfi
   refine Ah I (Ae (Ks (Aj (Cs I (Lm I (Ak I (Cs I (Mv 2 I (Lfa Db I Gg I (Lq I (Al I G2 I (λ_ h=>(CR.keep hC h).c) I) (Lm I (Lq I (Ar i I FK E5 I hC.f.kp I I) (Lfa EG I Z3 I (Lq I (AI i 0 I G3 I I hC.f.kp hfi I) (Lq I (Qe I) (Nk (CB 39 I (λh2=>?_) (λh2=>?_))))))))))))))))))
   .exact Ah I (Cs I (Mv 2 I (Lfa Db I Gg I (Lq I (Al I G2 I (λ_ h=>(CR.keep hC h).c) I) (Lm I (Lq I (Ar i I FK E5 I hC.f.kp I I) (Ak I (Ag (As (Ac (Ac (As (Ac (Ao I I (λ_ h=>⟨(),congrArg (λz=>Ending.returned z) (by unfold Mo.takes; rw[lu ht]; unfold Mo.freeI; rw[C7 hv (od h2) hno]; rfl),T0,h.kv⟩)))))))))))))))
   .refine Aa I (Ae (Aw (Kt (Cr I (Lq I (Qi I) (Lm I (AB ?_)))))))
    exact AE (i+1) (by omega) ⟨by omega,EY hno hv (oc h2)⟩ (Si I) (λ_ h=>h)
  .exact Aa I (AO (Ab (Ab (Am (Kt (Cs I (Ak I (Ag (Ao I I (λ_ h=>⟨(),congrArg (λz=>Ending.returned z) (by unfold Mo.takes; rw[lu ht]; unfold Mo.freeI; rw[lI (by omega)] at hno; rw[C8 hno]; rfl),T0,h.kv⟩))))))))))
 .have hl0:S.ln[0]?=some (wn q):=by rw[hR.ln,hl]; rfl
  have hlt:=(lR.1 hl0).1
  refine St' 12 I (by omega) (Mv 2 I (Lfa Db I IM I (Lq I (Al I Nz I (λ_ h=>(CR.keep hC h).c) I) (Lq I (Ar 0 I Fj ER I hC.l.kp I I) (Lfa Kh I Z3 I (Lq I (AI 0 0 I G3 I I hC.l.kp hl0 I) (Mv 3 I (Nk (CB 22 I (λhqt=>?_) (λhqt=>?_))))))))))
  .exact Ah I (Cs I (Ak I (Ag (Ac (Ao I I (λ_ h=>⟨(),congrArg (λz=>Ending.returned z) (by unfold Mo.takes Mo.turn; rw[hl]; simp only; rw[lz (show ¬decide (q.1=t)=true from λe=>hqt (oh e))]; rfl),T0,h.kv⟩))))))
  .have ht:M.turn t=true:=by unfold Mo.turn; rw[hl]; exact od hqt
   refine Aa I (Ae (Ks (Cs I (Mv 2 I (Lfa Db I Gg I (Lq I (Al I G2 I (λ_ h=>(CR.keep hC h).c) I) (Lq I (AJ I FK I hC.f.kp) (Lm I (Nk (Aj ?_))))))))))
   refine A0 (λ(i:Nat)=>[(0,pV bc),(1,.int .i64 t),(27,.int .i64 (S.fl.length:Int)),(28,.int .i64 (i:Int))]) (λ(i:Nat)=>St w [] []) (λ(i:Nat)=>i<=S.fl.length/\∀z∈M.fr.take i,isF z=false) (λ(i:Nat)=>S.fl.length-i) (0) ⟨lK _,by simp⟩ (Si I) Ih (λi hp=>Af ?_)
   obtain⟨hi,hno⟩:=hp
   have hfl:=hR.len
   have h64:=hO.n64
   refine Cr I (Lq I (Ql I) (Ns (CB 29 I (λh1=>?_) (λh1=>?_))))
   .obtain⟨f,hfi⟩:=gE S.fl i
    have hv:=hR.vw_at hfi
    refine Ah I (Ae (Ks (Aj (Cs I (Lm I (Ak I (Cs I (Mv 2 I (Lfa Db I Gg I (Lq I (Al I G2 I (λ_ h=>(CR.keep hC h).c) I) (Lm I (Lq I (Ar i I FK E5 I hC.f.kp I I) (Lfa EG I Z3 I (Lq I (AI i 0 I G3 I I hC.f.kp hfi I) (Lq I (Qe I) (Nk (CB 39 I (λh2=>?_) (λh2=>?_))))))))))))))))))
    .exact Ah I (Cs I (Mv 2 I (Lfa Db I Gg I (Lq I (Al I G2 I (λ_ h=>(CR.keep hC h).c) I) (Lm I (Lq I (Ar i I FK E5 I hC.f.kp I I) (Ak I (Ag (As (Ac (Ac (As (Ac (Ao I I (λ_ h=>⟨(),congrArg (λz=>Ending.returned z) (by unfold Mo.takes; rw[lu ht]; unfold Mo.freeI; rw[C7 hv (od h2) hno]; rfl),T0,h.kv⟩)))))))))))))))
    .refine Aa I (Ae (Aw (Kt (Cr I (Lq I (Qi I) (Lm I (AB ?_)))))))
     exact AE (i+1) (by omega) ⟨by omega,EY hno hv (oc h2)⟩ (Si I) (λ_ h=>h)
   .exact Aa I (AO (Ab (Ab (Am (Kt (Cs I (Ak I (Ag (Ao I I (λ_ h=>⟨(),congrArg (λz=>Ending.returned z) (by unfold Mo.takes; rw[lu ht]; unfold Mo.freeI; rw[lI (by omega)] at hno; rw[C8 hno]; rfl),T0,h.kv⟩))))))))))
theorem Rm {S:CS} {M:Mo} (hR:Rel S M) (hO:M.Ok B):Con prog 193 [pV bc] (λw=>CR w bc S) [] (λ_:Unit=>.int .i64 (M.free:Int)) Tr (λ_=>[]):=by
 intro w hC hH
 refine E0 func193 I hH (Af ?_)
 have hfl:=hR.len
 have h64:=hO.n64
 refine Cr I (Ak I (Cs I (Ak I (Af (Cs I (Mv 2 I (Lfa Db I Gg I (Lq I (Al I G2 I (λ_ h=>(CR.keep hC h).c) I) (Lq I (AJ I FK I hC.f.kp) (Lm I (Nk (Aj ?_))))))))))))
 refine A0 (λ(i:Nat)=>[(3,.int .i64 (((M.fr.take i).countP isF):Int)),(9,S.vF),(10,.int .i64 (S.fl.length:Int)),(11,.int .i64 (i:Int))]) (λ(i:Nat)=>St w [] []) (λ(i:Nat)=>i<=S.fl.length) (λ(i:Nat)=>S.fl.length-i) (0) (lK _) (Si I) Ih (λi hi=>Af ?_)
 have hcl:((M.fr.take i).countP isF)<=(M.fr.take i).length:=List.countP_le_length
 have htl:=oO i M.fr
 refine Cr I (Lq I (Ql I) (Ns (CB 12 I (λh1=>?_) (λh1=>?_))))
 .obtain⟨f,hfi⟩:=gE S.fl i
  have hv:=hR.vw_at hfi
  have hcs:=Jx (p:=isF) hv
  refine Ah I (Ae (Ks (Aj (Cs I (Lq I (Ar i I FK E5 I hC.f.kp I I) (Lq I (AV i I isAgg259 E5 I I hC.f.kp hfi) (l_e I (Au I I I zeroValue259 (λbf=>l_e I (SW E5 I (FC.one _) (Nk (Cs I (Lfa EG I Z3 I (Lo G3 0 I (Lq I (Qe I) (Nk (CB 17 I (λh2=>?_) (λh2=>?_))))))))))))))))))
  .refine Ah I (Cr I (Lm I (Lq I (Qi I) (Las I (AB (Aw (Kt (Cr I (Lq I (Qi I) (Lm I (AB (Av ?_))))))))))))
   exact AE (i+1) (by omega) (by omega) (Sub.consE I (by rw[hcs,lu (show isF (vw f)=true from od h2)]) (Si I)) (λ_ h=>h)
  .refine Aa I (Ae (Aw (Kt (Cr I (Lq I (Qi I) (Lm I (AB (Av ?_))))))))
   exact AE (i+1) (by omega) (by omega) (Sub.consE I (by rw[hcs,lz (show ¬isF (vw f)=true from λe=>h2 (oh e)),nB]) (Si I)) (λ_ h=>h)
 .exact Aa I (AO (Ab (Ab (Am (Kt (Cs I (Lm I (Ak I (Ag (Ao I I (λ_ h=>⟨(),congrArg Ei (by rw[lI (by omega)]; rfl),T0,h.kv⟩)))))))))))
theorem UF {S:CS} {M:Mo} (hR:Rel S M) (hO:M.Ok B):Con prog 99 [pV bc] (λw=>CR w bc S) [] (λv:Value=>v) Tr (λv=>[AA v 3 (AH .i64) (M.line.map Prod.fst)]):=by
 intro w hC hH
 refine E0 func99 I hH (Af ?_)
 have hll:=hR.lnl
 have hlB:=hO.lB
 have hB9:=hO.B9
 refine Cr I (Ak I (Cs I (Ak I (Af (Cs I (Mv 2 I (Lfa Db I IM I (Lq I (Al I Nz I (λ_ h=>(CR.keep hC h).c) I) (Lq I (AJ I Fj I hC.l.kp) (Lm I (Nk (Aj (row0 3 (AH .i64) none ?_)))))))))))))
 refine Cy (λ(i:Nat) (v:Value)=>[(3,v),(9,S.vL),(10,.int .i64 (S.ln.length:Int)),(11,.int .i64 (i:Int))]) (λ(i:Nat) (v:Value)=>St w [] [AA v 3 (AH .i64) ((M.line.take i).map Prod.fst)]) (λ(i:Nat) (v:Value)=>i<=S.ln.length) (λ(i:Nat) (v:Value)=>S.ln.length-i) (0) (.slice none 0 0) (lK _) (Si I) Ih (λi v hi=>Af ?_)
 have htl:=oO i M.line
 have htm:((M.line.take i).map Prod.fst).length<=i:=by rw[mB]; exact htl
 refine Cr I (Lq I (Ql I) (Ns (CB 12 I (λh1=>?_) (λh1=>?_))))
 .obtain⟨q,hq⟩:=gE M.line i
  have hli:S.ln[i]?=some (wn q):=by rw[hR.ln,lS,hq]; rfl
  refine Ah I (Ae (Ks (Aj (Cs I (Lq I (Ar i I Fj ER I hC.l.kp I I) (Lq I (AV i I Ny ER I I hC.l.kp hli) (l_e I (Au I I I zeroValue277 (λbw=>l_e I (SW ER I (Wn.one _) (Nk (Cr I (Lm I (Lfa Kh I Z3 I (Lo G3 0 I (l_e I (Ax (sz:=1) [.tmp 17] I I I I I U22 Z3 I zeroValue3 I (λb1=>AX (l_e I (Ap U22 U22 EA I (λ_ h=>AY (h.at 1 I) (AH .i64) [q.1] I I) (by simp; omega) (λv2=>Bt (show _=(M.line.take (i+1)).map Prod.fst from by rw[nT,hq,mn]; rfl) (AM (Av (Las I (AB (Aw (Kt (Cr I (Lq I (Qi I) (Lm I (AB (AM (Av ?_)))))))))))))))))))))))))))))))))
  exact AE ((i+1,v2)) (by dsimp only; omega) (by dsimp only; omega) (Si I) (λ_ h=>h)
 .have hfin:((M.line.take i).map Prod.fst)=M.line.map Prod.fst:=by rw[lI (by omega)]
  exact Bt hfin (Aa I (AO (Ab (Ab (Am (Kt (Cs I (Lm I (Ak I (Ag (Ao I I (λ_ h=>⟨v,rfl,T0,h⟩))))))))))))
theorem UG (f:FC):(f.c.drop 6).take 5=f.nv.c:=rfl
def NR (w:World) (S:CS):Prop:=∀f∈S.fl,NRd w f.nv
theorem NR.keep {S:CS} {H:List Ent} (h:NR w0 S) (s:St w0 [] H w):NR w S:=λf hf=>(h f hf).keep s
theorem UH {M:Mo} (h:M.frI b 2=some i):M.node b=((M.at' i).nd,true):=by unfold Mo.node Mo.ready; rw[h]
theorem MF {M:Mo} (h:M.frI b 2=none):M.node b=(nd0,false):=by unfold Mo.node Mo.ready; rw[h]
theorem Rn {S:CS} {M:Mo} (hR:Rel S M) (hO:M.Ok B) (t:Int):Con prog 132 [pV bc,.int .i64 t] (λw=>CR w bc S) [] (λ_:Unit=>.bool (M.may t)) Tr (λ_=>[]):=by
 intro w hC hH
 refine E0 func132 I hH (Cs I (Ak I (Af (Cs I (Lm I (l_e I (E1 (I0 t) I call190 Tt (λ_ _=>Lq I (Qt I) (Lm I (CB 9 I (λh1=>?_) (λh1=>?_)))))))))))
 .exact Mv 4 I (Nk (Ah I (Cs I (Ak I (Ag (Ac (Ao I I (λ_ h=>⟨(),congrArg Eb (by unfold Mo.may; rw[h1]; rfl),T0,h.kv⟩))))))))
 .refine Mv 2 I (l_e I (E1 (waits_spec hR hO t) I call191 (λ_ h=>CR.keep hC h) (λ_ _=>Lq I (Qz I) (Nk (CB 13 I (λh2=>?_) (λh2=>?_))))))
  .exact Ah I (Cs I (Ak I (Ag (Ac (Ao I I (λ_ h=>⟨(),congrArg Eb (by unfold Mo.may; rw[h1,h2]; rfl),T0,h.kv⟩))))))
  .refine Aa I (Ae (Kt (Cs I (Mv 2 I (l_e I (E1 (Ft hR hO t) I call192 (λ_ h=>CR.keep hC h) (λ_ _=>Ak I (Af (B5 (M.stand t) (λhs=>?_) (λk hs=>?_))))))))))
   .refine Sv' 5 (.int .i64 (-1)) I (by rw[hs]; rfl) (Cr I (Mv 3 I (Sb 19 true I (I) (Mv 18 I ?_))))
    exact Mv 3 I (Ak I (Ag (Ao I I (λ_ h=>⟨(),congrArg Eb ((WC h1 h2 hs).symm),T0,h.kv⟩))))
   .obtain⟨q,hq,hqt⟩:=KA hs
    have hmy:=WD h1 h2 hs hq
    have hlk:S.ln[k]?=some (wn q):=by rw[hR.ln,lS,hq]; rfl
    have hlt:=(lR.1 hlk).1
    refine Sv' 5 (.int .i64 (k:Int)) I (by rw[hs]; rfl) (Cr I (Mv 3 I (Sf 19 I (by omega) (Mv 3 I (CB 22 I (λhk=>?_) (λhk=>?_))))))
    .refine Lm I (l_e I (E1 (Rm hR hO) I call193 (λ_ h=>CR.keep hC h) (λ_ _=>Lq I (BQ I I I) (Mv 3 I (CB 28 I (λhfr=>?_) (λhfr=>?_))))))
     .exact Mv 12 I (Ak I (Ag (Ao I I (λ_ h=>⟨(),congrArg Eb (by rw[hmy,od (show k=0 by omega),od (show 0<M.free by omega)]; rfl),T0,h.kv⟩))))
     .exact Mv 3 I (Lfa Db I IM I (Lq I (Al I Nz I (λ_ h=>(CR.keep hC h).c) I) (Lm I (Lq I (Ar k I Fj ER I hC.l.kp I I) (Lfa Kh I Z3 I (Lq I (AI k 1 I G3 I I hC.l.kp hlk I) (l_e I (E1 (Ej hR hO q.2) I call194 (λ_ h=>CR.keep hC h) (λ_ _=>Lq I (Qg I) (Lq I (Qz I) (Ak I (Ag (Ao I I (λ_ h=>⟨(),congrArg Eb (by rw[hmy,Pa]; first|rfl|(rw[show decide (k=0)=false from oc (by omega)]; rfl)|(rw[show decide (0<M.free)=false from oc (by omega),oP]; rfl)),T0,h.kv⟩))))))))))))))
    .exact Mv 9 I (Lfa Db I IM I (Lq I (Al I Nz I (λ_ h=>(CR.keep hC h).c) I) (Lm I (Lq I (Ar k I Fj ER I hC.l.kp I I) (Lfa Kh I Z3 I (Lq I (AI k 1 I G3 I I hC.l.kp hlk I) (l_e I (E1 (Ej hR hO q.2) I call194 (λ_ h=>CR.keep hC h) (λ_ _=>Lq I (Qg I) (Lq I (Qz I) (Ak I (Ag (Ao I I (λ_ h=>⟨(),congrArg Eb (by rw[hmy,Pa]; first|rfl|(rw[show decide (k=0)=false from oc (by omega)]; rfl)|(rw[show decide (0<M.free)=false from oc (by omega),oP]; rfl)),T0,h.kv⟩))))))))))))))
theorem F4 {S:CS} {M:Mo} (hR:Rel S M) (hO:M.Ok B) (t:Int):Con prog 291 [pV bc,.int .i64 t] (λw=>CR w bc S) [] (λv:Value=>v) Tr (λv=>[AA v 284 (ME S.vF) (cls M t M.fr.length)]):=by
 intro w hC hH
 refine E0 func291 I hH (Af ?_)
 have hfl:=hR.len
 have h64:=hO.n64
 refine Cr I (Ak I (Cs I (Ak I (Af (Cs I (Mv 2 I (Lfa Db I Gg I (Lq I (Al I G2 I (λ_ h=>(CR.keep hC h).c) I) (Lq I (AJ I FK I hC.f.kp) (Lm I (Nk (Aj (row0 284 (ME S.vF) none ?_)))))))))))))
 refine Cy (λ(i:Nat) (v:Value)=>[(0,pV bc),(1,.int .i64 t),(5,v),(12,.int .i64 (S.fl.length:Int)),(13,.int .i64 (i:Int))]) (λ(i:Nat) (v:Value)=>St w [] [AA v 284 (ME S.vF) (cls M t i)]) (λ(i:Nat) (v:Value)=>i<=S.fl.length) (λ(i:Nat) (v:Value)=>S.fl.length-i) (0) (.slice none 0 0) (lK _) (Si I) Ih (λi v hi=>Af ?_)
 have hcl:=NS M t i
 refine Cr I (Lq I (Ql I) (Ns (CB 14 I (λh1=>?_) (λh1=>?_))))
 .obtain⟨f,hfi⟩:=gE S.fl i
  have hv:=hR.vw_at hfi
  have hcs:=KG M t i
  rw[Kz hv,e6] at hcs
  refine Ah I (Ae (Ks (Aj (Cs I (Lm I (Ak I (Cs I (Mv 2 I (Lfa Db I Gg I (Lq I (Al I G2 I (λ_ h=>(CR.keep hC h).c) I) (Lm I (Lq I (Ar i I FK E5 I hC.f.kp I I) (Ak I (Cs I (Mv 2 I (Lfa EG I Z3 I (Lq I (AI i 0 I G3 I I hC.f.kp hfi I) (Mv 2 I (CB 27 I (λh2=>?_) (λh2=>?_))))))))))))))))))))
  .refine Mv 2 I (Lfa EG I Z3 I (Lq I (AI i 2 I G3 I I hC.f.kp hfi I) (Mv 3 I (Nk (CB 34 I (λh3=>?_) (λh3=>?_))))))
   .rw[od h2,od h3,Bool.and_self,lu rfl] at hcs
    refine Ah I (Cr I (Mv 2 I (l_e I (Ax (sz:=1) [.tmp 36] I I I I I L0 sizeOf284 I zeroValue284 I (λb1=>AM (l_e I (Ap L0 L0 ZY I (λ_ h=>AY (h.at 1 I) (ME S.vF) [i] I I) (by simp; omega) (λv2=>AM (Av (Las I (AB (Aw (Kt (Cr I (Lq I (Qi I) (Lm I (AB ?_)))))))))))))))))
    exact AE ((i+1,v2)) (by dsimp only; omega) (by dsimp only; omega) (Si I) (λ_ h=>by dsimp only; rw[hcs]; exact h)
   .rw[od h2,oc h3,oP,lz (by decide)] at hcs
    refine Aa I (Ae (Aw (Kt (Cr I (Lq I (Qi I) (Lm I (AB ?_)))))))
    exact AE ((i+1,v)) (by dsimp only; omega) (by dsimp only; omega) (Si I) (λ_ h=>by dsimp only; rw[hcs]; exact h)
  .rw[oc h2,nw,lz (by decide)] at hcs
   refine Mv 7 I (Nk (Aa I (Ae (Aw (Kt (Cr I (Lq I (Qi I) (Lm I (AB ?_)))))))))
   exact AE ((i+1,v)) (by dsimp only; omega) (by dsimp only; omega) (Si I) (λ_ h=>by dsimp only; rw[hcs]; exact h)
 .have hie:i=M.fr.length:=by omega
  subst hie
  exact Aa I (AO (Ab (Ab (Am (Kt (Cs I (Lm I (Ak I (Ag (Ao I I (λ_ h=>⟨v,rfl,T0,h⟩)))))))))))
theorem Gz (nv:NV) (hn:nv.d.Sm 65536):Con prog 155 [.agg nv.c.toArray] (λw=>NRd w nv) [] (λs:N4=>.agg (⟨s,nv.d⟩:NV).c.toArray) Tr (λs=>Bz ⟨s,nv.d⟩):=by
 intro w hE hH
 refine E0 func155 I hH (Cs I (l_e I (AT I I I I (λbn=>Ce nv.c I (l_e I (Au I I I zeroValue135 (λbo=>Ce nv0.c I (Ns (Do8 [0,1,3,4,6,7,9,10,2,12,5,8,11,13,14,15,16,17,18,19] 3485964276 (λw2=>(Ad bn 135 nv.c).at w2) I St.drawn (Hat 1 I) (Dfa Cu I Z49 I (Dq I (Al I G49 I Ih I) (Dfa Cu I Z22 I (Dq I (Al I G22 I Ih I) (Dfa Cu I NA I (Dq I (Al I Ra I Ih I) (Dfa Cu I Hs I (Dq I (Al I IN I Ih I) (d_e I (AZ (Pc nv.d.es hn.e) I I I call220 I hE.e.kp (λve _=>Ai (Hat 2 I) (Dfa Cu I Z49 I (Pre.fact (λ_ h=>Gf (h.rd 0 I)) ?_))))))))))))))))))))))
 rintro⟨s1,rfl⟩
 refine d_e I (AZ (Pd nv.d.kids hn.k) I I I call107 I hE.k.kp (λvk _=>Ai (Hat 3 I) (Pre.fact (λ_ h=>Gf (h.rd 0 I)) ?_)))
 rintro⟨s2,rfl⟩
 refine d_e I (AZ (Pe nv.d.piv hn.p) I I I call221 I hE.p.kp (λvp _=>Ai (Hat 4 I) (Pre.fact (λ_ h=>Gf (h.rd 0 I)) ?_)))
 rintro⟨s3,rfl⟩
 refine d_e I (AZ (Pf nv.d.msgs hn.m) I I I call222 I hE.m.kp (λvm _=>Ai (Hat 5 I) (Pre.fact (λ_ h=>Gf (h.rd 0 I)) ?_)))
 rintro⟨s4,rfl⟩
 refine EM (d_t I (AG I I Z49 I I I (by show 1<5; decide) (Ce (⟨⟨s1,nv.s.k,nv.s.p,nv.s.m⟩,nv.d⟩:NV).c I (d_t I (e_q I I (Ba I Cu I Z22 I I) (d_t I (AG I I Z22 I I I (by show 2<5; decide) (Ce (⟨⟨s1,s2,nv.s.p,nv.s.m⟩,nv.d⟩:NV).c I (d_t I (e_q I I (Ba I Cu I NA I I) (d_t I (AG I I NA I I I (by show 3<5; decide) (Ce (⟨⟨s1,s2,s3,nv.s.m⟩,nv.d⟩:NV).c I (d_t I (e_q I I (Ba I Cu I Hs I I) (d_t I (AG I I Hs I I I (by show 4<5; decide) (Ce (⟨⟨s1,s2,s3,s4⟩,nv.d⟩:NV).c I (AL (Kt (Cs I (Lq I (Cq ((⟨⟨s1,s2,s3,s4⟩,nv.d⟩:NV).c) Bx AU 0 I (I) (I)) (EM ?_)))))))))))))))))))))))
 exact l_e I (SW AU I (NV.one _) (Nk (Ag (Pm [5,4,3,2] I (CJ I (AK I Bx AU (Hat 4 I) (I)) (λ_ h=>⟨⟨s1,s2,s3,s4⟩,rfl,T0,h.sublist (oQ.2 (oQ.2 (oQ.2 (oQ.2 (nF _)))))⟩))))))
theorem CR.ofm {S:CS} {H:List Ent} (h:St w0 D H w) (hs:∀e∈S.H bc,e∈H):CR w bc S:=by
 have at':∀e,e∈S.H bc->e.at w:=λe he=>h.hp.holds e (hs e he)
 have m0:∀e (k:Nat),(S.H bc)[k]?=some e->e.at w:=λe k hk=>at' e (mQ hk)
 exact⟨m0 _ 0 rfl,BU (m0 _ 1 I),m0 _ 2 rfl,m0 _ 3 rfl,BU (m0 _ 4 I),λq hq=>BU (at' _ (nK _ (lP.2 ⟨q,hq,rfl⟩)))⟩
theorem Rel.line {S:CS} {M:Mo} (h:Rel S M) (v:Value) (l:List (Int×Int)):Rel {S with vL:=v,ln:=l.map wn} {M with line:=l}:=⟨h.fr,rfl,h.hd,h.at',h.ld,h.nd,h.na⟩
theorem Pg {l:List (Int×Int)} (h:(l.map Prod.fst).Nodup) (i:Nat):((l.eraseIdx i).map Prod.fst).Nodup:=h.sublist ((List.eraseIdx_sublist ..).map _)
theorem Mo.Ok.mono {M:Mo} (h:M.Ok B) (hBC:B<=C) (hC:C<=60000):M.Ok C :=
 ⟨h.n1,h.n64,h.st,h.none',h.blk,h.own,h.own0,λf hf=>⟨(h.pins f hf).1,oR (h.pins f hf).2 (by omega)⟩,h.uni,mf h.ll hBC,mf h.lB hBC,h.ln,h.lb,h.lo,h.es,h.hw,hC⟩
theorem leave_ok {M:Mo} (h:M.Ok B) (t:Int):(M.leave t).Ok B:=by
 refine⟨h.n1,h.n64,h.st,h.none',h.blk,h.own,h.own0,h.pins,h.uni,h.ll,?_,?_,?_,h.lo,h.es,h.hw,h.B9⟩
 .show (M.leave t).line.length<=B
  unfold Mo.leave
  simp only
  split
  .exact mf (List.length_eraseIdx_le ..) h.lB
  .exact h.lB
 .show ((M.leave t).line.map Prod.fst).Nodup
  unfold Mo.leave
  simp only
  split
  .exact Pg h.ln _
  .exact h.ln
 .intro q hq
  refine h.lb q ?_
  have hq':q∈(M.leave t).line:=hq
  unfold Mo.leave at hq'
  simp only at hq'
  split at hq'
  .exact (List.eraseIdx_sublist ..).subset hq'
  .exact hq'
theorem WE {M:Mo} (h:M.Ok B) (t b:Int) (hb : -1<=b/\b<256) (hB:B+1<=60000):(M.ask t b).Ok (B+1):=by
 have h':=h.mono (oS B) hB
 refine⟨h.n1,h.n64,h.st,h.none',h.blk,h.own,h.own0,h'.pins,h.uni,h'.ll,?_,?_,?_,h.lo,h.es,h.hw,hB⟩
 .show (M.ask t b).line.length<=B+1
  unfold Mo.ask
  simp only
  split
  .rw[lp]; have:=h.lB; simp; omega
  .have:=h.lB; omega
 .show ((M.ask t b).line.map Prod.fst).Nodup
  unfold Mo.ask
  simp only
  split
  .rename_i hs
   rw[mn,nJ]
   refine⟨h.ln,by simp,λa ha c hc e=>?_⟩
   simp only[ma,mb,nq] at hc
   subst hc; subst e
   obtain⟨q,hq,rfl⟩:=lP.1 ha
   have:=JV (oI.1 hs) q hq
   simp[isT] at this
  .exact h.ln
 .intro q hq
  have hq':q∈(M.ask t b).line:=hq
  unfold Mo.ask at hq'
  simp only at hq'
  split at hq'
  .rcases mT.1 hq' with hq'|hq'
   .exact h.lb q hq'
   .simp only[nq] at hq'; subst hq'; exact hb
  .exact h.lb q hq'
theorem WG (l:List (Int×Int)) (i:Nat):(l.map wn).eraseIdx i=(l.eraseIdx i).map wn:=(DG wn l i).symm
theorem UI {S:CS} {M:Mo} (hR:Rel S M) (hO:M.Ok B) (b:Int):Con prog 116 [pV bc,.int .i64 b] (λw=>CR w bc S/\NR w S) [] (λs:N4=>.tuple #[.agg (⟨s,(M.node b).1⟩:NV).c.toArray,.bool (M.node b).2]) Tr (λs=>Bz ⟨s,(M.node b).1⟩):=by
 intro w hE hH
 obtain⟨hC,hN⟩:=hE
 refine E0 func116 I hH (Cs I (l_e I (Au I I I zeroValue135 (λbo=>Ce nv0.c I (Ak I (Cs I (Mv 2 I (l_e I (E1 (E8 hR hO b 2) I call165 (λ_ h=>CR.keep hC h) (λ_ _=>Ak I (Af (Af (B5 (M.frI b 2) (λhf=>?_) (λi hf=>?_))))))))))))))
 .exact Sv' 6 (.pointer none) I (by rw[hf]; rfl) (Cr I (Lm I (Lq I (DS I Ht I I) (Nk (Sb 11 true I (I) (Ah I (Cs I (Lq I (AP (nv0.c) I I (λw=>by kernel_rfl)) (l_e I (SW AU I (NV.one _) (Ak I (Ag (Ac (row0 154 Ms.enc none (row0 77 (Kv.enc 8) none (row0 3 (AH .i64) none (row0 79 En.enc none (BM I (AK I Bx AU (Hat 4 I) (I)) (id I) (λ_ h=>⟨n40,by rw[MF hf]; rfl,T0,by rw[MF hf]; exact h.sublist (oQ.2 (oQ.2 (oQ.2 (oQ.2 (nF _)))))⟩)))))))))))))))))))
 .obtain⟨hf1,hst⟩:=HJ hf
  obtain⟨y,hy,hyb,hys,hya⟩:=Et hf1
  obtain⟨f,hfi,hfy⟩:=hR.get hy
  have hlt:=(lR.1 hfi).1
  have hnd:=UH hf
  rw[hya,<-hfy] at hnd
  have hfm:=mQ hfi
  have hes:f.nv.d.Sm 65536:=by
   have:=hO.es y (mQ hy)
   rw[<-hfy] at this; exact this.mono (by decide)
  exact Sv' 6 (fp S.vF i) I (by rw[hf]; rfl) (Cr I (Lm I (Lq I (DS I Ht I I) (Nk (Sb 11 false I (I) (Aa I (Ae (Kt (Cs I (Mv 2 I (Lfa EG I AU I (Lq I (Ez i 6 I Bx AU I I hC.f.kp hfi (by decide)) (Sv' 16 (.agg f.nv.c.toArray) I (by rfl) (l_e I (EW (Gz f.nv hes) I I I call155 I (λ_ h=>(NR.keep hN h) f hfm) (λs _=>C0 (l_e I (SW AU I (NV.one _) (Ak I (Ag (Pm [1,1,1,1] I (BM I (AK I Bx AU (Hat 4 I) (I)) (id I) (λ_ h=>⟨s,by rw[hnd]; rfl,T0,by rw[hnd]; exact h.sublist (oQ.2 (oQ.2 (oQ.2 (oQ.2 (nF _)))))⟩)))))))))))))))))))))))
theorem Pj {S:CS} {M:Mo} (hR:Rel S M) (hO:M.Ok B):Con prog 97 [pV bc] (λw=>CR w bc S/\NR w S) [] (λb:Value×List FC×List Ent=>b.1) (λb=>b.2.1.map vw=M.fr/\∀f∈b.2.1,∀e∈Bz f.nv,e∈b.2.2) (λb=>AA b.1 202 FC.encA b.2.1::b.2.2):=by
 intro w hE hH
 obtain⟨hC,hN⟩:=hE
 refine E0 func97 I hH (Af ?_)
 have hfl:=hR.len
 have h64:=hO.n64
 refine Cr I (Ak I (Cs I (Ak I (Af (Cs I (Mv 2 I (Lfa Db I Gg I (Lq I (Al I G2 I (λ_ h=>(CR.keep hC h).c) I) (Lq I (AJ I FK I hC.f.kp) (Lm I (Nk (Aj (row0 202 FC.encA none ?_)))))))))))))
 refine SI (λ(i:Nat) (v:Value) (fs:List FC) (G:List Ent)=>[(3,v),(9,S.vF),(10,.int .i64 (S.fl.length:Int)),(11,.int .i64 (i:Int))]) (λ(i:Nat) (v:Value) (fs:List FC) (G:List Ent)=>St w [] (AA v 202 FC.encA fs::G)) (λ(i:Nat) (v:Value) (fs:List FC) (G:List Ent)=>i<=S.fl.length/\fs.map vw=M.fr.take i/\∀f∈fs,∀e∈Bz f.nv,e∈G) (λ(i:Nat) (v:Value) (fs:List FC) (G:List Ent)=>S.fl.length-i) (0) (.slice none 0 0) ([]) ([]) ⟨lK _,rfl,λf h=>by cases h⟩ (Si I) Ih (λi v fs G hp=>Af ?_)
 obtain⟨hi,hfs,hG⟩:=hp
 have hfsl:fs.length<=i:=by have:=congrArg List.length hfs; rw[mB,k9] at this; omega
 refine Cr I (Lq I (Ql I) (Ns (CB 12 I (λh1=>?_) (λh1=>?_))))
 .obtain⟨f,hfi⟩:=gE S.fl i
  have hv:=hR.vw_at hfi
  have hfm:=mQ hfi
  have hes:f.nv.d.Sm 65536:=(hO.es (vw f) (mQ hv)).mono (by decide)
  refine Ah I (Ae (Ks (Aj (Cs I (Lq I (Ar i I FK E5 I hC.f.kp I I) (Lq I (AV i I isAgg259 E5 I I hC.f.kp hfi) (l_e I (Au I I I zeroValue259 (λbf=>l_e I (SW E5 I (FC.one _) (Nk (Do8 (rg 18) 58989951 (λw2=>(Ad bf 259 f.c).at w2) I St.drawn (Hat 0 I) (Dm I (Dfa EG I Z3 I (Dq I (Al I G3 I Ih I) (Dfa EG I Z3 I (Dq I (Al I G3 I Ih I) (Dfa EG I Z3 I (Dq I (Al I G3 I Ih I) (Dfa EG I Z4 I (Dq I (Al I G4 I Ih I) (Dfa EG I Z4 I (Dq I (Al I G4 I Ih I) (Dfa EG I AU I (Dq I (AQ (f.nv.c) I Bx AU I Ih (UG _) (I)) (d_e I (EW (Gz f.nv hes) I I I call155 I (λ_ h=>(NR.keep hN h) f hfm) (λs _=>Ai (Hat 4 I) (Dq I (AP (({f with nv:=⟨s,f.nv.d⟩}:FC).cA) I I (λw=>by kernel_rfl)) (d_e I (Ax (sz:=13) [.tmp 29] I I I I I Wf sizeOf202 I zeroValue202 I ?_)))))))))))))))))))))))))))))))
  intro b2
  refine Ai (Hat 5 I) (Ed (d_e I (Ap Wf Wf ZV I (λ_ h=>AY (h.at 1 I) FC.encA [({f with nv:=⟨s,f.nv.d⟩}:FC)] I I) (by simp; omega) (λv2=>AM (Av (Ai (Hat 5 I) (Das I (AL (Aw (Kt (Cr I (Lq I (Qi I) (Lm I (AB (EM (Av ?_))))))))))))))))
  exact AE ((i+1,v2,fs++[({f with nv:=⟨s,f.nv.d⟩}:FC)],Bz (({f with nv:=⟨s,f.nv.d⟩}:FC)).nv++G)) (by dsimp only; omega) ⟨by dsimp only; omega,by dsimp only; rw[mn,hfs,nT,hv]; rfl,λg hg=>by
   dsimp only at hg ⊢
   rcases mT.1 hg with hg|hg
   .exact λe he=>nK _ (hG g hg e he)
   .simp only[nq] at hg; subst hg; exact λe he=>lO _ he⟩ (Si I) (λ_ h=>h)
 .have hfin:fs.map vw=M.fr:=by rw[hfs,lI (by omega)]
  exact Aa I (AO (Ab (Ab (Am (Kt (Cs I (Lm I (Ak I (Ag (Ao I I (λ_ h=>⟨(v,fs,G),rfl,⟨hfin,hG⟩,h⟩)))))))))))
theorem HK {S:CS} {M:Mo} (hR:Rel S M) (hO:M.Ok B) (t:Int):Con prog 243 [pV bc,.int .i64 t] Tr (S.H bc) (λv:Value=>.tuple #[]) Tr (λv=>CS.H bc {S with vL:=v,ln:=(M.leave t).line.map wn}):=by
 intro w hE hH
 refine enter (n:=21) (vs:=[pV bc,.int .i64 t]) (St w (dom (S.H bc)) (CS.H bc (S))) func243 I I I (St.init hH) ?_
 refine Cs I (Mv 2 I (l_e I (E1 (Ft hR hO t) I call192 (λ_ h=>CR.ofm (S:=S) h (λe he=>he)) (λ_ _=>Ak I (Af (B5 (M.stand t) (λhs=>?_) (λi hs=>?_)))))))
 .have hlv:(M.leave t).line=M.line:=by unfold Mo.leave; rw[hs]
  exact Sv' 4 (.int .i64 (-1)) I (by rw[hs]; rfl) (Cr I (Mv 2 I (Nk (Sb 9 false I (I) (Aa I (Ae (Bp (BB I (λ_ h=>⟨S.vL,rfl,T0,by rw[hlv,<-hR.ln]; exact h⟩)))))))))
 .have hlv:(M.leave t).line=M.line.eraseIdx i:=by unfold Mo.leave; rw[hs]
  obtain⟨q,hq,hqt⟩:=KA hs
  have hlt:i<S.ln.length:=by rw[hR.lnl]; exact (lR.1 hq).1
  have hB:=hO.lB
  have hB9:=hO.B9
  have hll:=hR.lnl
  refine Sv' 4 (.int .i64 (i:Int)) I (by rw[hs]; rfl) (Cr I (Mv 2 I (Nk (St' 9 I (by omega) (Ah I (Cr I (Mv 3 I (Lfa Db I IM I (Lo Nz 0 I (Mv 2 I (Lq I (Qi I) (C0 (l_e I (Bf (deletew_spec S.ln i hlt (by omega)) I I I call284 I Tt (λv _=>Lc I (Lfa Db I IM I (Bt (l':=(M.leave t).line.map wn) (by rw[hlv,hR.ln,WG]) (Pre.fact (λ_ h=>Gf (h.rd 0 I)) ?_))))))))))))))))))
  rintro⟨sv,rfl⟩
  exact AM (l_e I (AG I I IM I I I (ng I) (Ce ({S with vL:=sv.v,ln:=(M.leave t).line.map wn}:CS).cells I (AB (Bp (Pm [0,1,1,1] I (BB I (λ_ h=>⟨sv.v,rfl,T0,h⟩))))))))
theorem Pk {S:CS} {M:Mo} (hR:Rel S M) (hO:M.Ok B) (t b:Int):Con prog 245 [pV bc,.agg (wn (t,b)).c.toArray] Tr (S.H bc) (λv:Value=>.tuple #[]) Tr (λv=>CS.H bc {S with vL:=v,ln:=(M.ask t b).line.map wn}):=by
 intro w hE hH
 refine enter (n:=19) (vs:=[pV bc,.agg (wn (t,b)).c.toArray]) (St w (dom (S.H bc)) (CS.H bc (S))) func245 I I I (St.init hH) ?_
 refine Cs I (l_e I (AT I I I I (λbw=>Ce (wn (t,b)).c I (Nk (Cs I (Lm I (Lfa Kh I Z3 I (Lo G3 0 I (l_e I (E1 (Ft hR hO t) I call192 (λ_ h=>CR.ofm (S:=S) h (λe he=>nG _ (he))) (λ_ _=>Lq I (Ql I) (Nk (B5 (M.stand t) (λhs=>?_) (λi hs=>?_))))))))))))))
 .have hlv:(M.ask t b).line=M.line++[(t,b)]:=by unfold Mo.ask; rw[hs]; rfl
  have hB:=hO.lB
  have hB9:=hO.B9
  have hll:=hR.lnl
  refine Sb 8 true I (by rw[hs]; rfl) (Ah I (Do8 (rg 11) 173502 (λw2=>(Ad bc 257 S.cells).at w2/\(Ad bw 277 (wn (t,b)).c).at w2) I St.drawn (H2 1 0 I) (Md 3 I (Dfa Db I IM I (Dq I (Al I Nz I (λ_ h=>h.1) I) (Dq I (AQ ((wn (t,b)).c) I Ny ER I (λ_ h=>h.2) (I) (I)) (d_e I (Ax (sz:=3) [.tmp 14] I I I I I Fj ER I zeroValue277 I (λb2=>Ai (H2 2 1 I) (Ed (d_e I (Ap Fj Fj SO I (λ_ h=>AY (h.at 1 I) Wn.enc [(wn (t,b))] I I) (by simp; omega) (λv2=>Bt (show _=(M.ask t b).line.map wn from by rw[hlv,hR.ln,mn]; rfl) (AM (Av (Ai (H2 2 1 I) (d_t I (e_q I I (Bw I I) (d_t I (e_q I I (Ba I Db I IM I I) (Pre.fact (λ_ h=>Gf (h.rd 0 I)) ?_)))))))))))))))))))))
  rintro⟨sv,rfl⟩
  exact AX (d_t I (AG I I IM I I I (ng I) (Ce ({S with vL:=sv.v,ln:=(M.ask t b).line.map wn}:CS).cells I (AL (Bp (AX (Av (Pm [0,1,1,1] I (BB I (λ_ h=>⟨sv.v,rfl,T0,h⟩))))))))))
 .have hlv:(M.ask t b).line=M.line:=by unfold Mo.ask; rw[hs]; rfl
  exact Sb 8 false I (by rw[hs]; exact oc (by simp[io])) (Aa I (Ae (Bp (Av (BB I (λ_ h=>⟨S.vL,rfl,T0,by rw[hlv,<-hR.ln]; exact h⟩))))))
section
variable {P:Program} {n:Nat} {L:Env} {X:World->Prop} {o:Oper}
theorem e7 {t e:TypeId} {b o1 o2 sz:Nat} (ho:o.op=.binOp .eql t x y u) (ht:P.underlying t=some (.pointer e)) (hz:∀w,(sizeOf e).run P w=.ok sz w) (hs:sz≠0) (hx:ev L x=some (.pointer (some ⟨b,o1,none⟩))) (hy:ev L y=some (.pointer (some ⟨b,o2,none⟩))):QOp P n L X o (.bool (decide (o1=o2))) :=
 CV ho hx hy (λw _=>D1 rfl (Nq w rfl (GO w (λd=>by
  have hb:((⟨b,o1,none⟩:Addr) == ⟨b,o2,none⟩)=decide (o1=o2):=by
   by_cases h:o1=o2
   .subst h; simp
   .rw[oc h]; rw[m9]; intro h'; exact h (congrArg Addr.off (nm.1 h'))
  unfold Op.equalIn
  simp[AW ht,hz,hs,sameAddr,hb]))))
end
theorem WH {e:Ent} (hj:T[j]?=some e):T.Perm (e::T.eraseIdx j):=by
 induction T generalizing j with
 |nil=>cases hj
 |cons a T ih =>
  cases j with
  |zero=>cases hj; exact oe _
  |succ j=>exact ((ih hj).cons a).trans (List.Perm.swap e a _)
theorem ak {e:Ent} (hj:j<T.length):(e::T.eraseIdx j).Perm (T.set j e):=by
 induction T generalizing j with
 |nil=>cases hj
 |cons a T ih =>
  cases j with
  |zero=>exact oe _
  |succ j=>exact (List.Perm.swap a e _).trans ((ih (by simpa using hj)).cons a)
section
variable {w0 w:World} {D:List Nat}
theorem St.pullT {e:Ent} (hj:T[j]?=some e) (h:St w0 D (pre++T) w):St w0 D (e::(pre++T.eraseIdx j)) w :=
 h.perm (((WH hj).append_left pre).trans oa)
theorem St.pushT {e:Ent} (hj:j<T.length) (h:St w0 D (e::(pre++T.eraseIdx j)) w):St w0 D (pre++T.set j e) w :=
 h.perm (oa.symm.trans ((ak hj).append_left pre))
theorem St.addT {e:Ent} (h:St w0 D (e::(pre++T)) w):St w0 D (pre++(T++[e])) w :=
 h.perm (by
  rw[<-mj]
  exact (List.perm_append_singleton e (pre++T)).symm)
end
theorem KH {p:α->Bool}:∀{l:List α} {i:Nat} {x y:α},l[i]?=some x->p y=p x->B7 p (l.set i y)=B7 p l
 |[],i,x,y,h,_=>by cases h
 |a::l,0,x,y,h,hp=>by
  cases h
  unfold B7
  simp only[m8,oT,hp]
 |a::l,i+1,x,y,h,hp=>by
  have ih:=KH (p:=p) (l:=l) (i:=i) (x:=x) (y:=y) (by simpa using h) hp
  unfold B7 at ih ⊢
  simp only[nO,oT,ih]
theorem WI {p:α->Bool} {l:List α} {x y:α} (hi:l[i]?=some x) (hn:B7 p l=none) (hp:p y):B7 p (l.set i y)=some i:=by
 have hlt:=(lR.1 hi).1
 refine C7 (y:=y) (by rw[oU hlt]) hp (λz hz=>?_)
 rw[List.take_set_of_le (lJ _)] at hz
 exact JV hn z (kZ hz)
theorem WJ {M:Mo} {y y':Vw} (hy:M.fr[i]?=some y) (hb:∀b,isB b y'=isB b y) (b:Int):(M.put i y').find b=M.find b:=KH hy (hb b)
theorem UJ {M:Mo} {y y':Vw} (hy:M.fr[i]?=some y) (hb:y'.blk=y.blk) (hs:(y'.st=1\/y'.st=2)↔(y.st=1\/y.st=2)) (b:Int):(M.put i y').find b=M.find b :=
 WJ hy (λc=>by
  unfold isB
  rw[hb]
  congr 1
  rw[<-Bool.decide_or,<-Bool.decide_or,oE]; exact hs) b
theorem an {M:Mo} {y y':Vw} (hy:M.fr[i]?=some y) (hf:¬(y.st=1\/y.st=2)) (hn:M.find b=none) (hb:y'.blk=b) (hs:y'.st=1\/y'.st=2) (c:Int):(M.put i y').find c=if c=b then some i else M.find c:=by
 have hy0:∀c,isB c y=false:=λc=>by
  unfold isB
  rw[<-Bool.decide_or,oc hf,oP]
 split
 .rename_i e; subst e
  exact WI hy hn (by unfold isB; rw[<-Bool.decide_or,od hs,od hb]; rfl)
 .rename_i e
  exact KH hy (by rw[hy0]; unfold isB; rw[oc (λe'=>e (by rw[<-e',hb]))]; rfl)
end Go.Proofs.YtloldofjddbjoaaGreat
