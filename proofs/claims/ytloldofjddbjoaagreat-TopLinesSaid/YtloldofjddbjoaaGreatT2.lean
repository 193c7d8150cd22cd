/- Part 2 of the proof: texts of my own, laid behind one another. No condition. -/
import Derived.Test.YtloldofjddbjoaaGreatT1
set_option linter.unusedVariables false
set_option linter.unusedSimpArgs false
namespace Go.Sep
end Go.Sep
namespace Go.Proofs.YtloldofjddbjoaaGreat
open Tryz
abbrev U77:=@underlying77
abbrev Z3:=@sizeOf3
abbrev G3:=@isAgg3
abbrev Z77:=@sizeOf77
abbrev Z75:=@sizeOf75
abbrev U75:=@underlying75
abbrev Z5:=@sizeOf5
abbrev U23:=@underlying23
abbrev G77:=@isAgg77
abbrev U9:=@underlying9
abbrev U5:=@underlying5
abbrev B7:=@underlying154
abbrev Z56:=@sizeOf56
abbrev G56:=@isAgg56
abbrev Z41:=@sizeOf41
abbrev G41:=@isAgg41
abbrev Cm:=@isAgg154
abbrev Bi:=@sizeOf154
abbrev U56:=@underlying56
abbrev U22:=@underlying22
abbrev JD:=@underlying277
abbrev EX:=@underlying255
abbrev EC:=@sizeOf277
abbrev L9:=@isAgg277
abbrev U49:=@underlying49
abbrev Z79:=@sizeOf79
abbrev Ho:=@underlying132
abbrev BP:=@underlying133
abbrev U3:=@underlying3
abbrev C7:=@underlying257
abbrev U89:=@underlying89
abbrev FN:=@sizeOf253
abbrev Gy:=@isAgg253
abbrev Fh:=@underlying253
abbrev EM:=@sizeOf259
abbrev Er:=@underlying259
abbrev H9:=@sizeOf255
abbrev Ma:=@isAgg255
abbrev R8:=@sizeOf254
abbrev Pk:=@underlying254
abbrev KN:=@underlying379
abbrev CT:=@underlying135
abbrev Z49:=@sizeOf49
abbrev G49:=@isAgg49
abbrev Z22:=@sizeOf22
abbrev G22:=@isAgg22
abbrev Ni:=@sizeOf132
abbrev Hp:=@sizeOf133
abbrev I7:=@isAgg133
abbrev Bs:=@isAgg135
abbrev AR:=@sizeOf135
abbrev GV:=@underlying284
abbrev Z4:=@sizeOf4
abbrev G4:=@isAgg4
abbrev Ua:=@underlying198
abbrev Pn:=@underlying324
abbrev U79:=@underlying79
abbrev G79:=@isAgg79
abbrev Nj:=@underlying365
abbrev Nl:=@underlying366
abbrev I8:=@underlying363
abbrev KO:=@isAgg361
abbrev G5:=@isAgg5
abbrev Ub:=@underlying270
abbrev Mb:=@underlying161
abbrev R9:=@sizeOf159
abbrev FO:=@underlying159
abbrev Uc:=@underlying158
abbrev Sa:=@underlying241
abbrev D5:=@underlying200
abbrev Gz:=@sizeOf241
abbrev DT:=@underlying275
abbrev GA:=@sizeOf200
abbrev KP:=@isAgg200
abbrev U91:=@underlying91
abbrev Z87:=@sizeOf87
abbrev Z86:=@sizeOf86
abbrev G86:=@isAgg86
abbrev Z88:=@sizeOf88
abbrev U88:=@underlying88
abbrev Bw:=@underlying226
abbrev BT:=@underlying229
abbrev Po:=@sizeOf177
abbrev Z44:=@sizeOf44
abbrev Dp:=@underlying249
abbrev G44:=@isAgg44
abbrev Db:=@underlying125
abbrev GB:=@sizeOf122
abbrev I9:=@isAgg122
abbrev Mc:=@underlying122
abbrev F1:=@sizeOf123
abbrev Md:=@isAgg123
abbrev Sd:=@underlying123
abbrev Z40:=@sizeOf40
abbrev G40:=@isAgg40
abbrev U40:=@underlying40
abbrev Co:=@underlying100
abbrev Z34:=@sizeOf34
abbrev G58:=@isAgg58
abbrev Z58:=@sizeOf58
abbrev U34:=@underlying34
abbrev Z71:=@sizeOf71
abbrev Z43:=@sizeOf43
abbrev G43:=@isAgg43
abbrev U43:=@underlying43
abbrev Z9:=@sizeOf9
abbrev G9:=@isAgg9
abbrev Z47:=@sizeOf47
abbrev G47:=@isAgg47
abbrev GW:=@underlying171
abbrev Nm:=@sizeOf169
abbrev Nn:=@underlying169
abbrev Z98:=@sizeOf98
abbrev G98:=@isAgg98
abbrev U98:=@underlying98
abbrev GX:=@sizeOf102
abbrev Ja:=@isAgg102
abbrev Ia:=@underlying103
abbrev Xr:=@underlying108
abbrev Z97:=@sizeOf97
abbrev G97:=@isAgg97
abbrev U25:=@underlying25
abbrev U27:=@underlying27
abbrev Z25:=@sizeOf25
abbrev G27:=@isAgg27
abbrev Z27:=@sizeOf27
abbrev Xs:=@underlying202
abbrev U58:=@underlying58
abbrev U60:=@underlying60
abbrev U71:=@underlying71
abbrev U36:=@underlying36
abbrev Z60:=@sizeOf60
abbrev G60:=@isAgg60
abbrev Me:=@underlying196
abbrev Se:=@sizeOf194
abbrev Sg:=@underlying194
end Go.Proofs.YtloldofjddbjoaaGreat
set_option maxHeartbeats 8000000
set_option maxRecDepth 100000
namespace Go.Proofs.YtloldofjddbjoaaGreat
open Go.Sep Go.RowKit Tryz
theorem Ez:Tryz.prog.info? 3=some Tryz.t3:=by kernel_rfl
theorem ZH:Tryz.t3.bytes=8:=rfl
theorem QT:Tryz.prog.info? 4=some Tryz.t4:=by kernel_rfl
theorem ZI:Tryz.t4.bytes=1:=rfl
theorem IQ:Tryz.prog.info? 5=some Tryz.t5:=by kernel_rfl
theorem Sh:Tryz.t5.bytes=1:=rfl
theorem Ud:Tryz.prog.info? 40=some Tryz.t40:=by kernel_rfl
theorem cX:Tryz.t40.bytes=24:=rfl
theorem JE:Tryz.prog.info? 43=some Tryz.t43:=by kernel_rfl
theorem ZJ:Tryz.prog.info? 60=some Tryz.t60:=by kernel_rfl
theorem Pp:Tryz.prog.info? 71=some Tryz.t71:=by kernel_rfl
theorem ZK:Tryz.prog.info? 77=some Tryz.t77:=by kernel_rfl
theorem CV:Tryz.prog.info? 79=some Tryz.t79:=by kernel_rfl
theorem GG:Tryz.t79.bytes=40:=rfl
theorem Mf:Tryz.prog.info? 102=some Tryz.t102:=by kernel_rfl
theorem Dr:Tryz.prog.info? 154=some Tryz.t154:=by kernel_rfl
theorem Es:Tryz.t154.bytes=64:=rfl
theorem Xt:Tryz.prog.info? 202=some Tryz.t202:=by kernel_rfl
theorem Xu:Tryz.prog.info? 203=some Tryz.t203:=by kernel_rfl
theorem Mg:Tryz.prog.info? 241=some Tryz.t241:=by kernel_rfl
theorem Xw:Tryz.prog.info? 259=some Tryz.t259:=by kernel_rfl
theorem QU:Tryz.prog.info? 277=some Tryz.t277:=by kernel_rfl
theorem QV:Tryz.prog.info? 279=some Tryz.t279:=by kernel_rfl
theorem Ue:Tryz.t279.bytes=256:=rfl
theorem Xx:Tryz.prog.info? 284=some Tryz.t284:=by kernel_rfl
theorem Xy:Tryz.prog.info? 320=some Tryz.t320:=by kernel_rfl
end Go.Proofs.YtloldofjddbjoaaGreat
namespace Go.Sep
open Go.RowKit Go.Proofs.YtloldofjddbjoaaGreat
section
variable {P:Program} {n:Nat} {L:Env} {X:World->Prop} {fn:Func} {R:Ending->World->Prop}
def Hq (P:Program) (L:Env) (X:World->Prop):ResultVar->Value->Prop
 |.tmp t,v=>look L t=some v
 |.cell x t,v=>∃p,look L x=some (.pointer (some p))/\∀w,X w->(loadVar t p).run P w=.ok v w
theorem DF {a:Act} {w:World} (k:Know n L a) (x:X w):∀{r:ResultVar} {v:Value},Hq P L X r v->(GO a.tmps r).run P w=.ok v w
 |.tmp t,v,h=>by
  have:=k.get t v h
  simp[GO,iw,this]
 |.cell y t,v,⟨p,hp,hl⟩=>by
  have:=k.get y _ hp
  simp[GO,iw,this,asAddr,hl w x]
theorem GY (fn:Func) (tmps:Array Value):results fn tmps=(do let vs<-fn.results.mapM (GO tmps); pure (if h:vs.size=1 then vs[0] else .tuple vs)):=rfl
theorem CL {r:ResultVar} {v:Value} (hr:fn.results=#[r]) (h:Hq P L X r v) (hR:∀w,X w->R (.returned v) w):Pre n L X (bodyPost P fn R .ret):=fun a w k x =>
 ⟨k.defers,v,by rw[GY,hr]; simp[DF k x h],hR w x⟩
theorem BI {r r':ResultVar} {u v:Value} (hr:fn.results=#[r,r']) (h1:Hq P L X r u) (h2:Hq P L X r' v) (hR:∀w,X w->R (.returned (.tuple #[u,v])) w):Pre n L X (bodyPost P fn R .ret):=fun a w k x =>
 ⟨k.defers,_,by rw[GY,hr]; simp[DF k x h1,DF k x h2],hR w x⟩
theorem AJ {x b sz:Nat} {t T:TypeId} {cs:List Value} (hx:look L x=some (.pointer (some ⟨b,0,none⟩))) (hg:∀w,(isAgg t).run P w=.ok true w) (hz:∀w,(sizeOf t).run P w=.ok sz w) (hr:∀w,X w->(Ad b T cs).at w) (hl:cs.length=sz):Hq P L X (.cell x t) (.agg cs.toArray) :=
 ⟨_,hx,fun w hX=>by
  have:=Ea (P:=P) b 0 w sz 0 cs #[] hl (fun j v hj=>by rw[gE,gE]; exact DI (hr w hX) hj)
  simp[loadVar,hg,hz,loadCells,this]⟩
end
section
variable {P:Program} {n:Nat} {L:Env} {X:World->Prop} {o:Oper} {Q:Exit->Act->World->Prop} {K:Act->World->Prop}
variable {w0:World} {D:List Nat} {H:List Ent} {α:Type} {E:Enc α} {l:List α} {v:Value}
theorem Pq {w:World} {m:Nat} (h:RdV w v E l) (hm:m<=l.length):(Builtin.firstCells E.sz m v).run P w=.ok (E.flat (l.take m)).toArray w:=by
 obtain⟨a,c,rfl,hc,h⟩:=h
 have h':RdV w (.slice a (l.take m).length c) E (l.take m):=⟨a,c,rfl,by rw[fJ]; omega,by
  rcases h with rfl|⟨b,off,rfl,h⟩
  · exact .inl (by simp)
  · refine .inr ⟨b,off,rfl,fun k u hk=>h k u ?_⟩
    rw[<-E.flat_take,fN] at hk
    split at hk
    · exact hk
    · cases hk⟩
 have:=D2 (P:=P) h'
 rw[fJ,gV hm] at this
 cases a<;>exact this
theorem Np {t tx e ty:TypeId} {x:Value} {b off dn dc:Nat} {T:TypeId} {cs:List Value} {w:World} (ht:P.underlying t=some (.slice e)) (hz:∀w,(sizeOf e).run P w=.ok E.sz w) (h:St w0 D (Ad b T cs::H) w) (hx:RdV w x E l) (hfit:off+min l.length dn*E.sz<=cs.length) :
 ∃w',(Builtin.copy_ #[t,tx] ty #[.slice (some ⟨b,off,none⟩) dn dc,x]).run P w=.ok (.int .i64 (min l.length dn:Nat)) w'/\St w0 D (Ad b T (splice cs off (E.flat (l.take (min l.length dn))))::H) w':=by
 have hf:=Pq (P:=P) hx (Nat.min_le_left l.length dn)
 have hl:=H6 (P:=P) hx
 have hlen:(E.flat (l.take (min l.length dn))).length=min l.length dn*E.sz:=by rw[E.fa,fJ,gV (Nat.min_le_left ..)]
 obtain⟨w',hr,h'⟩:=B6 (P:=P) (off:=off) (E.flat (l.take (min l.length dn))) _ 0 h (by omega) (fun u hu=>E.flat_one _ u hu)
 refine⟨w',?_,by simpa using h'⟩
 have hmin:Nat.min l.length dn=min l.length dn:=rfl
 simp[Builtin.copy_,AT ht,hl,hz,hmin,hf,hr,goInt]
theorem Pr {t tx e:TypeId} {x y:Operand} {xv:Value} {b off dn dc:Nat} {T:TypeId} {cs:List Value} {d:Nat} (ho:o.op=.call ⟨.builtin .copy,#[y,x],#[t,tx]⟩) (hd:o.dst=some d) (hnn:d.blt n=true) (ht:P.underlying t=some (.slice e)) (hz:∀w,(sizeOf e).run P w=.ok E.sz w)
 (hy:ev L y=some (.slice (some ⟨b,off,none⟩) dn dc)) (hxv:ev L x=some xv) (hx:∀w,St w0 D (Ad b T cs::H) w->RdV w xv E l) (hfit:off+min l.length dn*E.sz<=cs.length)
 (h:Pre n ((d,.int .i64 (min l.length dn:Nat))::L) (St w0 D (Ad b T (splice cs off (E.flat (l.take (min l.length dn))))::H)) K):EOp P n L (St w0 D (Ad b T cs::H)) o Q K :=
 EOp.val (β:=Unit) (fun _=>.int .i64 (min l.length dn:Nat)) (fun _=>True) (fun _=>St w0 D (Ad b T (splice cs off (E.flat (l.take (min l.length dn))))::H)) hd hnn (fun a w kn hX=>by
  obtain⟨w',hr,h'⟩:=Np (P:=P) (ty:=o.type) (tx:=tx) (dc:=dc) ht hz hX (hx w hX) hfit
  exact⟨(),w',by simp[execOp,ho,resolve,invoke,builtin,kn.eval hy,kn.eval hxv,hr],trivial,h'⟩) (fun _ _=>h)
theorem Jg {w:World} {b off k c:Nat} {T:TypeId} {cs:List Value} (h:(Ad b T cs).at w) (E:Enc α) (l:List α) (hk:l.length=k) (hc:k<=c) (hf:(cs.drop off).take (k*E.sz)=E.flat l):RdV w (.slice (some ⟨b,off,none⟩) k c) E l:=by
 subst hk
 refine⟨_,c,rfl,hc,.inr ⟨b,off,rfl,fun j u hj=>DI h ?_⟩⟩
 rw[<-hf,fN] at hj
 split at hj
 · rwa[fQ] at hj
 · cases hj
theorem Nq {t:TypeId} {x i:Operand} {s:ByteArray} {k:IntKind} {p:Int} (j:Nat) (b:UInt8) (ho:o.op=.index t x i) (ht:P.underlying t=some .string) (hx:ev L x=some (.string s)) (hi:ev L i=some (.int k p)) (hp:p=(j:Int)) (hb:s[j]?=some b):QOp P n L X o (.int .u8 (b.toNat:Int)) :=
 QOp.mk (fun a=>Instr.index t (a.eval x) (a.eval i)) (fun a=>by simp[execOp,ho]) (fun a w hk _=>by
  subst hp
  rw[hk.eval hx,hk.eval hi]
  simp[Instr.index,asIntOf,AT ht,hb])
theorem Sj {t:TypeId} {x hi:Operand} {s:ByteArray} {k:IntKind} {zh:Int} (h:Nat) (ho:o.op=.slice t x none (some hi) none) (ht:P.underlying t=some .string) (hx:ev L x=some (.string s)) (hhi:ev L hi=some (.int k zh)) (eh:zh=(h:Int)) (h2:h<=s.size):QOp P n L X o (.string (s.extract 0 h)) :=
 QOp.mk (fun a=>Instr.sliceAt t (a.eval x) none (some (a.eval hi)) none) (fun a=>by simp[execOp,ho]) (fun a w hk _=>by
  subst eh
  rw[hk.eval hx,hk.eval hhi]
  have hb:(Instr.sliceBound (.int k (h:Int)) s.size .sliceAlen).run P w=.ok h w:=CA w rfl h2
  simp only[Instr.sliceAt,Instr.slice,Instr.sliceBounds,gx,AT ht,gz,gy]
  simp[hb])
theorem E4 {l:List Int} {r t e:TypeId} {x:Operand} (ho:o.op=.convert r t x) (hs:P.underlying r=some (.slice e)) (he:P.underlying e=some (.int .u8)) (ht:P.underlying t=some .string) (hx:ev L x=some v) (hr:∀w,X w->RdV w v (AG .u8) l):QOp P n L X o (.string (strOfNums l)):=fun a w hk hX=>by
 obtain⟨ad,c,rfl,hc,h⟩:=hr w hX
 have hrun:(convert r t (.slice ad l.length c)).run P w=.ok (.string (strOfNums l)) w:=by
  rcases h with rfl|⟨b,off,rfl,h⟩
  · cases ad with
    |none=>exact run_convert_bytes_nil w r e hs he 0 c t ht
    |some p=>simp[convert,AT hs,AT ht,AT he,Conv.bytesToString,loadCells,loadCellsFrom,strOfNums]; rfl
  · exact run_convert_bytes_arg w r e hs he b off l.length c l rfl (fun i hi=>by
     refine h i _ ?_
     have:=(AG .u8).flat_get l i 0 (l.getD i 0) (.int .u8 (l.getD i 0)) (by simp[ju,hi]) rfl
     have e1:(AG .u8).sz=1:=rfl
     rw[e1,jv,iM] at this
     exact this) t ht
 have:=QOp.mk (P:=P) (n:=n) (L:=L) (X:=fun w'=>w'=w) (o:=o) (v:=.string (strOfNums l)) (fun a=>convert r t (a.eval x)) (fun a=>by simp[execOp,ho]) (fun a w' hk hw=>by subst hw; rw[hk.eval hx]; exact hrun)
 exact this a w hk rfl
theorem K6 {w:World} {d:Nat} {t:TypeId} {ks:List Sc} {xs ys:List Value} {b:Bool} (hf:flat P d t=some ks) (hk:P.keyTypeAt d t=true) (hd:d.ble 10000=true) (hc:P.cellsOf t=ks.length)
 (ha:(match P.underlying t with|some (.struct _)|some (.array _ _)=>true|_=>false)=true) (hx:Kinds ks xs) (hy:Kinds ks ys) (hb:xs=ys↔b=true):(Op.equal t (.agg xs.toArray) (.agg ys.toArray)).run P w=.ok b w:=by
 obtain⟨r,h1,h2⟩:=FU (P:=P) (w:=w) (n:=d) (t:=t) (ks:=ks) (xs:=xs.toArray) (ys:=ys.toArray) hf hk (iy hd) hc ha hx hy
 have hr:r=b:=by
  rw[hZ,h2,<-hb]
  exact⟨fun h=>by simpa using h,fun h=>by rw[h]⟩
 rw[<-hr]; exact h1
theorem Jh {t u:TypeId} {x y:Operand} {d:Nat} {ks:List Sc} {xs ys:List Value} (b:Bool) (hf:flat P d t=some ks) (hk:P.keyTypeAt d t=true) (hd:d.ble 10000=true) (hc:P.cellsOf t=ks.length)
 (ha:(match P.underlying t with|some (.struct _)|some (.array _ _)=>true|_=>false)=true) (hm:P.eqGuardType P.depth t=false) (ho:o.op=.binOp .eql t x y u) (hx:ev L x=some (.agg xs.toArray)) (hy:ev L y=some (.agg ys.toArray)) (kx:Kinds ks xs) (ky:Kinds ks ys) (hb:xs=ys↔b=true):QOp P n L X o (.bool b) :=
 CW ho hx hy (fun w _=>DQ (run_eqGuard_agg (w:=w) .eql t x y _ _ hm) (L3 w rfl (K6 hf hk hd hc ha kx ky hb)))
theorem Mh {t u:TypeId} {x y:Operand} {d:Nat} {ks:List Sc} {xs ys:List Value} (b:Bool) (hf:flat P d t=some ks) (hk:P.keyTypeAt d t=true) (hd:d.ble 10000=true) (hc:P.cellsOf t=ks.length)
 (ha:(match P.underlying t with|some (.struct _)|some (.array _ _)=>true|_=>false)=true) (hm:P.eqGuardType P.depth t=false) (ho:o.op=.binOp .neq t x y u) (hx:ev L x=some (.agg xs.toArray)) (hy:ev L y=some (.agg ys.toArray)) (kx:Kinds ks xs) (ky:Kinds ks ys) (hb:xs=ys↔b=true):QOp P n L X o (.bool (!b)) :=
 CW ho hx hy (fun w _=>DQ (run_eqGuard_agg (w:=w) .neq t x y _ _ hm) (Pf w rfl (K6 hf hk hd hc ha kx ky hb)))
end
theorem GZ {P:Program} {f:FuncId} {vs:List Value} {v:Value} {E:World->Prop} (h:∀w,E w->Calls P f vs.toArray w (fun e w'=>e=.returned v/\Go.RowKit.Below w.heap.size w w')):Con P f vs E [] (fun _:Unit=>v) (fun _=>True) (fun _=>[]):=fun w hE hH =>
 (h w hE).mono (fun e w' ⟨he,hb⟩=>⟨(),he,trivial,⟨HP.nil w',fun b hb'=>(by cases hb'),⟨hb.os,hb.tape,hb.output,hb.size,fun b hb' _=>hb.block b hb'⟩⟩⟩)
theorem e7 {cs vs:List Value} (h:vs.length=cs.length):splice cs 0 vs=vs:=by
 rw[splice_eq _ _ _ (by omega)]; simp[h]
theorem splice_mid {a b c vs:List Value} {k:Nat} (ha:a.length=k) (h:vs.length=b.length):splice (a++(b++c)) k vs=a++(vs++c):=by
 subst ha
 rw[splice_eq _ _ _ (by simp[h]),ja]
 rw[h,<-fL,<-gK,List.drop_left,gK]
theorem Nr {a b c:List Value} {k m:Nat} (ha:a.length=k) (hb:b.length=m):((a++(b++c)).drop k).take m=b:=by
 subst ha; subst hb
 rw[List.drop_left,ja]
structure Kv (m:Nat) where
 n:Int
 b:List Int
 len:b.length=m
 wn:(Lit.int .i64 n).wf=true
 wb:∀x∈b,(Lit.int .u8 x).wf=true
namespace Kv
variable {m:Nat}
def c (k:Kv m):List Value:=.int .i64 k.n::k.b.map (.int .u8)
theorem ext' {k j:Kv m} (hn:k.n=j.n) (hb:k.b=j.b):k=j:=by
 cases k; cases j; simp only at hn hb; subst hn; subst hb; rfl
instance:DecidableEq (Kv m):=fun k j=>if h:k.n=j.n/\k.b=j.b then isTrue (ext' h.1 h.2) else isFalse (fun e=>h (by subst e; exact⟨rfl,rfl⟩))
theorem e6 (k:Kv m):k.c.length=m+1:=by simp[c,k.len]
theorem QW {α:Type} {f:α->Value} (hf:∀a b,f a=f b->a=b):∀{xs ys:List α},xs.map f=ys.map f->xs=ys
 |[],[],_=>rfl
 |[],y::ys,h=>by simp at h
 |x::xs,[],h=>by simp at h
 |x::xs,y::ys,h=>by
  simp only[gB,List.cons.injEq] at h
  rw[hf _ _ h.1,QW hf h.2]
theorem c_inj {k j:Kv m}:k.c=j.c↔k=j:=by
 refine⟨fun h=>?_,fun h=>by rw[h]⟩
 simp only[c,List.cons.injEq,Value.int.injEq,true_and] at h
 exact ext' h.1 (QW (fun a b e=>by simpa using e) h.2)
def ks (m:Nat):List Sc:=Sc.i .i64::List.replicate m (Sc.i .u8)
theorem kinds (k:Kv m):Kinds (ks m) k.c:=by
 refine⟨by simp[ks,c,k.len],fun j q v h1 h2=>?_⟩
 cases j with
 |zero=>simp[ks,c] at h1 h2; subst h1 h2; exact⟨k.n,rfl,k.wn⟩
 |succ j =>
  simp only[ks,g9,hM] at h1
  split at h1
  · simp only[Option.some.injEq] at h1
    subst h1
    simp only[c,g9,gm,hU] at h2
    obtain⟨z,hz,rfl⟩:=h2
    exact⟨z,rfl,k.wb z (hY hz)⟩
  · simp at h1
theorem one (k:Kv m):∀v∈k.c,v.oneCell'=true:=by
 intro v hv
 rcases fq.1 hv with rfl|hv
 · rfl
 · obtain⟨z,_,rfl⟩:=gj.1 hv; rfl
theorem eqb {k j:Kv m}:k.c=j.c↔decide (k=j)=true:=by rw[c_inj,ia]
def enc (m:Nat):Enc (Kv m):={sz:=m+1,f:=Kv.c,len:=e6,pos:=by omega,one:=one}
end Kv
end Go.Sep
namespace Go.Sep
open Go.RowKit
section
variable {P:Program} {n:Nat} {L:Env} {X:World->Prop} {o:Oper} {Q:Exit->Act->World->Prop} {K:Act->World->Prop}
variable {w0:World} {D:List Nat} {H:List Ent} {α:Type} {E:Enc α} {l:List α} {v:Value}
theorem Ps {w:World} {sa:Option Addr} {sc:Nat} {m:List α} (h:RdV w (.slice sa m.length sc) E m) (sl' sc':Nat):(Builtin.firstCells E.sz m.length (.slice sa sl' sc')).run P w=.ok (E.flat m).toArray w:=by
 have:=D2 (P:=P) h
 cases sa<;>exact this
theorem Gt {t tx e:TypeId} {x y:Operand} {sa:Option Addr} {sl sc sc' b off dl dc:Nat} {T:TypeId} {cs:List Value} {m:List α} {d:Nat} (k:Nat) (ho:o.op=.call ⟨.builtin .copy,#[y,x],#[t,tx]⟩) (hd:o.dst=some d) (hnn:d.blt n=true) (ht:P.underlying t=some (.slice e)) (hz:∀w,(sizeOf e).run P w=.ok E.sz w)
 (hy:ev L y=some (.slice (some ⟨b,off,none⟩) dl dc)) (hxv:ev L x=some (.slice sa sl sc)) (hm:min sl dl=k) (hx:∀w,St w0 D (Ad b T cs::H) w->RdV w (.slice sa k sc') E m) (hfit:off+k*E.sz<=cs.length)
 (h:Pre n ((d,.int .i64 (k:Nat))::L) (St w0 D (Ad b T (splice cs off (E.flat m))::H)) K):EOp P n L (St w0 D (Ad b T cs::H)) o Q K :=
 EOp.val (β:=Unit) (fun _=>.int .i64 (k:Nat)) (fun _=>True) (fun _=>St w0 D (Ad b T (splice cs off (E.flat m))::H)) hd hnn (fun a w kn hX=>by
  have hx1:=hx w hX
  have hk:m.length=k:=by obtain⟨a',c',e',_⟩:=hx1; cases e'; rfl
  subst hk
  have hf:=Ps (P:=P) hx1 sl sc
  have hlen:=E.fa m
  obtain⟨w',hr,h'⟩:=B6 (P:=P) (off:=off) (E.flat m) _ 0 hX (by omega) (fun u hu=>E.flat_one _ u hu)
  have hmin:Nat.min sl dl=m.length:=hm
  have hl:(Builtin.lenOf (.slice sa sl sc)).run P w=.ok sl w:=rfl
  refine⟨(),w',?_,trivial,by simpa using h'⟩
  simp[execOp,ho,resolve,invoke,builtin,kn.eval hy,kn.eval hxv,Builtin.copy_,AT ht,hl,hz,hmin,hf,hr,goInt]) (fun _ _=>h)
theorem RdV.keepE {w:World} (h:RdV w0 v E l) (s:St w0 D H w) (hD:blk v∉D\/l=[]):RdV w v E l :=
 h.congr (fun hl=>s.keep.block _ (h.lt hl) (hD.resolve_right hl))
theorem Dd {F:Act->World->Prop} {e:TypeId} (hl:0<l.length) (k:∀b cap pre post,v=.slice (some ⟨b,pre.length,none⟩) l.length cap->l.length<=cap->post.length=(cap-l.length)*E.sz->Pre n L (St w0 D (Ad b e (pre++E.flat l++post)::H)) F):Pre n L (St w0 D (Az v e E l::H)) F:=fun a w kn hX=>by
 obtain⟨b,cap,pre,post,hv,hc,hp,h⟩:=FZ hX hl
 exact k b cap pre post hv hc hp a w kn h
theorem Fi {F:Act->World->Prop} {b cap len:Nat} {e:TypeId} (l:List α) (pre post:List Value) {cs:List Value} (hcs:cs=pre++E.flat l++post) (hlen:l.length=len) (hc:0<cap) (hl:len<=cap) (hp:post.length=(cap-len)*E.sz) (k:Pre n L (St w0 D (Az (.slice (some ⟨b,pre.length,none⟩) len cap) e E l::H)) F):Pre n L (St w0 D (Ad b e cs::H)) F:=k.world _ (fun w s=>by
 subst hcs; subst hlen
 exact CX s hc hl hp)
theorem Uf {F:Act->World->Prop} {e:TypeId} (i:Nat) (hi:i<=l.length) (k:Pre n L (St w0 D (Az (vsl v E.sz i l.length) e E (l.drop i)::H)) F):Pre n L (St w0 D (Az v e E l::H)) F:=k.world _ (fun w s=>by
 have hat:Row v e E l ((C4 v).bind (w.heap[·]?)):=s.at 0 rfl
 rcases hat with⟨a',rfl,rfl⟩|⟨b,cap,pre,post,rfl,hcp,ho,hlc,hpost⟩
 · have h0:i=0:=by simpa using hi
   subst h0
   exact s
 · have hown:C4 (.slice (some ⟨b,pre.length,none⟩) l.length cap)=some b:=by simp[C4]; omega
   by_cases hc:cap=i
   · have e1:l.drop i=[]:=List.drop_eq_nil_of_le (by omega)
     have e2:vsl (.slice (some ⟨b,pre.length,none⟩) l.length cap) E.sz i l.length=.slice (some ⟨b,pre.length,none⟩) 0 0:=by
      have h1:l.length-i=0:=by omega
      have h2:cap-i=0:=by omega
      simp only[vsl,fO hc,h1,h2]
     rw[e1,e2]
     exact s.drop.row0 e E _
   · have h1:St w0 D (Ad b e (pre++E.flat l++post)::H) w:=s.head hown.symm (fun _=>by rw[hown] at ho; exact ho)
     have hl:(l.drop i).length=l.length-i:=fK
     have hp:(pre++E.flat (l.take i)).length=pre.length+i*E.sz:=by rw[fL,E.fa,fJ]; congr 2; omega
     have e1:pre++E.flat l++post=(pre++E.flat (l.take i))++E.flat (l.drop i)++post:=by
      rw[gK pre (E.flat (l.take i)) (E.flat (l.drop i)),<-E.fm,gP]
     rw[e1] at h1
     have:=CX (cap:=cap-i) h1 (by omega) (by omega) (by rw[hpost,hl]; congr 1; omega)
     rw[hp,hl] at this
     have e2:vsl (.slice (some ⟨b,pre.length,none⟩) l.length cap) E.sz i l.length=.slice (some ⟨b,pre.length+i*E.sz,none⟩) (l.length-i) (cap-i):=by simp[vsl,hc,BF]
     rw[e2]
     exact this)
theorem splice_part:∀(V M A C:List Value),M.length=V.length->splice (A++M++C) A.length V=A++V++C:=fun V M A C h=>by
 rw[splice_eq _ _ _ (by simp; omega)]
 congr 1
 · congr 1
   rw[gK,ja]
 · rw[<-h,<-fL,List.drop_left]
theorem Sk (A B C:List Value) (t:Value) (h:C≠[]):splice (splice (A++B++C) (A.length+1) B) A.length [t]=A++(t::B)++C.drop 1:=by
 obtain⟨x,R,hR⟩:∃x R,B++C=x::R:=by
  cases hbc:B++C with
  |nil=>exact absurd (List.append_eq_nil_iff.1 hbc).2 h
  |cons x R=>exact⟨x,R,rfl⟩
 have hc:0<C.length:=ji.2 h
 have hlen:R.length+1=B.length+C.length:=by rw[<-fL,hR]; rfl
 have hd:R.drop B.length=C.drop 1:=by
  have:(B++C).drop (B.length+1)=C.drop 1:=by rw[iW]
  rw[hR,gU] at this
  exact this
 have e1:A++B++C=(A++[x])++R.take B.length++R.drop B.length:=by
  rw[gK,hR,gK,gP,gK]; rfl
 have e2:=splice_part B (R.take B.length) (A++[x]) (R.drop B.length) (by rw[fJ]; omega)
 rw[fL,jx] at e2
 rw[e1,e2,gK,splice_part [t] [x] A _ rfl,hd]
 simp
theorem Nt (A Z C B:List Value) (t:Value) (h:Z.length=B.length+1):splice (splice (A++Z++C) A.length [t]) (A.length+1) B=A++(t::B)++C:=by
 obtain⟨x,R,rfl⟩:∃x R,Z=x::R:=by
  cases Z with
  |nil=>cases h
  |cons x R=>exact⟨x,R,rfl⟩
 have e1:A++(x::R)++C=A++[x]++(R++C):=by simp
 rw[e1,splice_part [t] [x] A _ rfl,<-gK]
 have e2:=splice_part B R (A++[t]) C (by simpa using h)
 rw[fL,jx] at e2
 rw[e2]; simp
theorem Mi {t tx e e':TypeId} {x:Value} {m:List α} {ty:TypeId} {w:World} {i:Nat} (ht:P.underlying t=some (.slice e)) (htx:P.underlying tx=some (.slice e')) (hsz:∀w,(sizeOf e).run P w=.ok E.sz w)
 (h:St w0 D (Az v e E l::H) w) (hx:RdV w x E m) (hi:i+m.length<=l.length) :
 ∃v' w',(Builtin.append_ #[t,tx] ty #[vsl v E.sz 0 i,x]).run P w=.ok v' w'/\vcap v'=vcap v/\St w0 D (Az v' e E (l.take i++m)::H) w':=by
 have hlen:=H6 (P:=P) hx
 have hf:=D2 (P:=P) hx
 have hat:Row v e E l ((C4 v).bind (w.heap[·]?)):=h.at 0 rfl
 rcases hat with⟨a',rfl,rfl⟩|⟨b,cap,pre,post,rfl,hcp,ho,hlc,hpost⟩
 · simp at hi
   obtain⟨rfl,hm⟩:=hi
   subst hm
   simp only[jn,E.flat_nil] at hf
   refine⟨.slice a' 0 0,w,?_,rfl,by simpa using h⟩
   cases a'<;>simp[vsl,Builtin.append_,AT ht,AT htx,hsz,hlen,hf,Enc.flat_nil,storeCells]
 · have hown:C4 (.slice (some ⟨b,pre.length,none⟩) l.length cap)=some b:=by simp[C4]; omega
   have h1:St w0 D (Ad b e (pre++E.flat l++post)::H) w:=h.head hown.symm (fun _=>by rw[hown] at ho; exact ho)
   have hl1:=E.fa l
   have hl2:=E.fa m
   have hlen2:(l.take i++m).length=i+m.length:=by rw[fL,fJ]; omega
   have hmul:(i+m.length)*E.sz<=l.length*E.sz:=gr _ hi
   have hmul2:l.length*E.sz<=cap*E.sz:=gr _ hlc
   have hsub:(cap-l.length)*E.sz=cap*E.sz-l.length*E.sz:=jj ..
   have hsub2:(cap-(i+m.length))*E.sz=cap*E.sz-(i*E.sz+m.length*E.sz):=by rw[jj,fW]
   rw[fW] at hmul
   have hfit:pre.length+i*E.sz+0+(E.flat m).length<=(pre++E.flat l++post).length:=by
    simp only[fL]; omega
   obtain⟨w',hr,h'⟩:=B6 (P:=P) (off:=pre.length+i*E.sz) (E.flat m) _ 0 h1 hfit (fun u hu=>E.flat_one m u hu)
   have hroom:i+m.length<=cap:=by omega
   have hc0:¬(cap=0):=by omega
   refine⟨.slice (some ⟨b,pre.length,none⟩) (i+m.length) cap,w',?_,rfl,?_⟩
   · simp[vsl,hc0,Builtin.append_,AT ht,AT htx,hsz,hlen,hroom,hf,BF,hr]
   · rw[splice_eq _ _ _ (by simpa using hfit)] at h'
     have t1:(pre++E.flat l++post).take (pre.length+i*E.sz+0)=pre++E.flat (l.take i):=by
      rw[iM,gK,iV,jg (by omega),E.flat_take]
     rw[t1] at h'
     have e2:pre++E.flat (l.take i)++E.flat m=pre++E.flat (l.take i++m):=by rw[E.fm,gK]
     rw[e2] at h'
     have:=CX (cap:=cap) h' hcp (by omega) (by
      rw[hlen2,hsub2]
      simp only[fK,fL,iM]
      omega)
     rw[hlen2] at this
     exact this
theorem G0 {t tx e e':TypeId} {xv:Value} {s x:Operand} {m:List α} {d:Nat} (i:Nat) (ho:o.op=.call ⟨.builtin .append,#[s,x],#[t,tx]⟩) (hd:o.dst=some d) (hnn:d.blt n=true) (ht:P.underlying t=some (.slice e)) (htx:P.underlying tx=some (.slice e')) (hsz:∀w,(sizeOf e).run P w=.ok E.sz w)
 (hsv:ev L s=some (vsl v E.sz 0 i)) (hxv:ev L x=some xv) (hx:∀w,St w0 D (Az v e E l::H) w->RdV w xv E m) (hi:i+m.length<=l.length)
 (h:∀v',vcap v'=vcap v->Pre n ((d,v')::L) (St w0 D (Az v' e E (l.take i++m)::H)) K):EOp P n L (St w0 D (Az v e E l::H)) o Q K :=
 EOp.val (β:=Value) (fun v=>v) (fun v'=>vcap v'=vcap v) (fun v'=>St w0 D (Az v' e E (l.take i++m)::H)) hd hnn (fun a w kn hX=>by
  obtain⟨v',w',hr,hc,h'⟩:=Mi (P:=P) (ty:=o.type) ht htx hsz hX (hx w hX) hi
  exact⟨v',w',by simp[execOp,ho,resolve,invoke,builtin,kn.eval hsv,kn.eval hxv,hr],hc,h'⟩) (fun v' hv=>h v' hv)
theorem JF {t e:TypeId} {x lo hi:Operand} {k k':IntKind} {zl zh:Int} (i j:Nat) (ho:o.op=.slice t x (some lo) (some hi) none) (ht:P.underlying t=some (.slice e)) (hz:∀w,(sizeOf e).run P w=.ok E.sz w)
 (hx:ev L x=some v) (hr:∀w,X w->RdV w v E l) (hlo:ev L lo=some (.int k zl)) (hhi:ev L hi=some (.int k' zh)) (el:zl=(i:Int)) (eh:zh=(j:Int)) (h1:i<=j) (h2:j<=vcap v) :
 QOp P n L X o (vsl v E.sz i j):=fun a w hk hX=>by
 obtain⟨ad,c,rfl,hc,_⟩:=hr w hX
 subst el; subst eh
 have hjc:j<=c:=h2
 have:=QOp.mk (P:=P) (n:=n) (L:=L) (X:=X) (o:=o) (v:=vsl (.slice ad l.length c) E.sz i j) (fun a=>Instr.sliceAt t (a.eval x) (some (a.eval lo)) (some (a.eval hi)) none) (fun a=>by simp[execOp,ho]) (fun a w hk _=>by
  rw[hk.eval hx,hk.eval hlo,hk.eval hhi]
  simp only[Instr.sliceAt,Instr.slice,Instr.sliceBounds,gx,AT ht,gz,gy,CA (P:=P) w rfl hjc,CA (P:=P) w rfl h1,hz,vsl])
 exact this a w hk hX
theorem JG {t e:TypeId} {x lo hi mx:Operand} {k k' k'':IntKind} {zl zh zm:Int} (i j m:Nat) (ho:o.op=.slice t x (some lo) (some hi) (some mx)) (ht:P.underlying t=some (.slice e)) (hz:∀w,(sizeOf e).run P w=.ok E.sz w)
 (hx:ev L x=some v) (hr:∀w,X w->RdV w v E l) (hlo:ev L lo=some (.int k zl)) (hhi:ev L hi=some (.int k' zh)) (hmx:ev L mx=some (.int k'' zm)) (el:zl=(i:Int)) (eh:zh=(j:Int)) (em:zm=(m:Int)) (h1:i<=j) (h2:j<=m) (h3:m<=l.length) :
 QOp P n L X o (.slice (if m=i then (match v with|.slice a _ _=>a|_=>none:Option Addr) else (match v with|.slice a _ _=>a|_=>none:Option Addr).map (fun q:Addr=>q.add (i*E.sz))) (j-i) (m-i)):=fun a w hk hX=>by
 obtain⟨ad,c,rfl,hc,_⟩:=hr w hX
 subst el; subst eh; subst em
 have hmc:m<=c:=by omega
 have:=QOp.mk (P:=P) (n:=n) (L:=L) (X:=X) (o:=o) (v:=.slice (if m=i then ad else ad.map (·.add (i*E.sz))) (j-i) (m-i)) (fun a=>Instr.sliceAt t (a.eval x) (some (a.eval lo)) (some (a.eval hi)) (some (a.eval mx))) (fun a=>by simp[execOp,ho]) (fun a w hk _=>by
  rw[hk.eval hx,hk.eval hlo,hk.eval hhi,hk.eval hmx]
  simp only[Instr.sliceAt,Instr.slice,Instr.sliceBounds,gx,AT ht,gz,gy,CA (P:=P) w rfl hmc,CA (P:=P) w rfl h2,CA (P:=P) w rfl h1,hz])
 exact this a w hk hX
theorem F2 {t e:TypeId} {i:TypeInfo} {z:Value} {x:Operand} {hi:Nat} (ho:o.op=.call ⟨.builtin .clear,#[x],#[t]⟩) (hd:o.dst=none) (ht:P.underlying t=some (.slice e)) (hi':P.info? e=some i) (hz:i.zero=some z) (hzc:z.cells.size=E.sz) (hz1:∀u∈z.cells.toList,u.oneCell'=true)
 (hx:ev L x=some (vsl v E.sz l.length hi)) (h1:l.length<=hi) (h2:hi<=vcap v) (h:Pre n L (St w0 D (Az v e E l::H)) K):EOp P n L (St w0 D (Az v e E l::H)) o Q K :=
 EOp.val0 (β:=Unit) (fun _=>.tuple #[]) (fun _=>True) (fun _=>St w0 D (Az v e E l::H)) hd (fun a w kn hX=>by
  have hzv:∀w,(zeroValue e).run P w=.ok z w:=fun w=>by simp[zeroValue,typeInfo,hi',hz]
  suffices hs:∃w',(Builtin.clear_ #[t] o.type #[vsl v E.sz l.length hi]).run P w=.ok (.tuple #[]) w'/\St w0 D (Az v e E l::H) w' by
   obtain⟨w',hr,h'⟩:=hs
   exact⟨(),w',by simp[execOp,ho,resolve,invoke,builtin,kn.eval hx,hr],trivial,h'⟩
  have hat:Row v e E l ((C4 v).bind (w.heap[·]?)):=hX.at 0 rfl
  rcases hat with⟨a',rfl,rfl⟩|⟨b,cap,pre,post,rfl,hcp,ho,hlc,hpost⟩
  · have h0:hi=0:=by have:hi<=0:=h2; omega
    subst h0
    exact⟨w,by cases a'<;>simp[vsl,Builtin.clear_,AT ht],hX⟩
  · have h2':hi<=cap:=h2
    by_cases hk:hi-l.length=0
    · refine⟨w,?_,hX⟩
      simp only[vsl,hk]
      cases hq:(if cap=l.length then (some (⟨b,pre.length,none⟩:Addr)) else (some ⟨b,pre.length,none⟩:Option Addr).map (·.add (l.length*E.sz)))<;>simp[Builtin.clear_,AT ht]
    · have hown:C4 (.slice (some ⟨b,pre.length,none⟩) l.length cap)=some b:=by simp[C4]; omega
      have h1:St w0 D (Ad b e (pre++E.flat l++post)::H) w:=hX.head hown.symm (fun _=>by rw[hown] at ho; exact ho)
      have hl1:=E.fa l
      have hzs:(Builtin.zeroCells z.cells (hi-l.length)).toList.length=(hi-l.length)*E.sz:=by rw[ij,jl,hzc]
      have hmul:(hi-l.length)*E.sz<=(cap-l.length)*E.sz:=gr _ (by omega)
      have hfit:pre.length+l.length*E.sz+0+(Builtin.zeroCells z.cells (hi-l.length)).toList.length<=(pre++E.flat l++post).length:=by
       simp only[fL]; omega
      obtain⟨w',hr,h'⟩:=B6 (P:=P) (off:=pre.length+l.length*E.sz) _ _ 0 h1 hfit (fun u hu=>by
       obtain⟨j,hj,rfl⟩:=Array.mem_iff_getElem.1 (Array.mem_toList_iff.1 hu)
       have hs:=hj
       rw[jl] at hs
       have hp:0<z.cells.size:=by rcases gh z.cells.size with h0|h0; rw[h0,Nat.mul_zero] at hs; exact absurd hs (jy _); exact h0
       have e1:(Builtin.zeroCells z.cells (hi-l.length))[j]=z.cells[j%z.cells.size]! := by simp[Builtin.zeroCells]
       rw[e1,getElem!_pos z.cells _ (gg _ hp)]
       exact hz1 _ (Array.mem_toList_iff.2 (Array.getElem_mem _)))
      refine⟨w',?_,?_⟩
      · have hc:¬(cap=l.length):=by omega
        obtain⟨k,hk⟩:∃k,hi-l.length=k+1:=⟨hi-l.length-1,by omega⟩
        rw[hk] at hr
        simp[vsl,hc,hk,Builtin.clear_,AT ht,hzv,BF,hr]
      · rw[splice_eq _ _ _ (by simpa using hfit)] at h'
        have t1:(pre++E.flat l++post).take (pre.length+l.length*E.sz+0)=pre++E.flat l:=by
         rw[iM,<-hl1,<-fL,ja]
        rw[t1,gK] at h'
        refine CX (cap:=cap) h' hcp hlc ?_
        simp only[fL,fK,iM]
        omega) (fun _ _=>h)
theorem Hr {t tx e:TypeId} {i:TypeInfo} {z:Value} {s x:Operand} {m d:Nat} {a0:α} (ho:o.op=.call ⟨.builtin .append,#[s,x],#[t,tx]⟩) (hd:o.dst=some d) (hnn:d.blt n=true) (ht:P.underlying t=some (.slice e)) (htx:P.underlying tx=some (.int .i64)) (hi:P.info? e=some i) (hs:i.size=E.sz) (hz:i.zero=some z) (hzc:z.cells.toList=E.f a0)
 (hsv:ev L s=some v) (hxv:ev L x=some (.int .i64 (m:Int))) (hv:∀w,St w0 D H w->RdV w v E l) (hgt:vcap v<l.length+m) (hb:(l.length+m)*i.bytes<=140737488355328) (hn:l.length+m<=9223372036854775807)
 (h:∀v',Pre n ((d,v')::L) (St w0 D (Az v' e E (l++List.replicate m a0)::H)) K):EOp P n L (St w0 D H) o Q K :=
 EOp.val (β:=Value) (fun v=>v) (fun _=>True) (fun v'=>St w0 D (Az v' e E (l++List.replicate m a0)::H)) hd hnn (fun ac w kn hX=>by
  have hrd:=hv w hX
  have hrd0:=hrd
  obtain⟨a,c,rfl,hc,_⟩:=hrd0
  have hgt':c<l.length+m:=hgt
  have hsz:∀w,(sizeOf e).run P w=.ok E.sz w:=fun w=>by simp[sizeOf,typeInfo,hi,hs]
  have hti:∀w,(typeInfo e).run P w=.ok i w:=fun w=>by simp[typeInfo,hi]
  have hzv:∀w,(zeroValue e).run P w=.ok z w:=fun w=>by simp[zeroValue,typeInfo,hi,hz]
  have hw1:IntKind.i64.wrap (m:Int)=(m:Int):=Cj (by omega)
  have hroom:¬(l.length+m<=c):=by omega
  have h64:¬(9223372036854775807<((l.length:Int)+(m:Int))):=by omega
  have hfits:=growslice_fits hgt' hb
  have h48:¬(281474976710656<Builtin.nextslicecap (l.length+m) c*i.bytes):=by omega
  have h5:¬((m:Int)*(i.bytes:Int)>281474976710656):=by
   have:m*i.bytes<=(l.length+m)*i.bytes:=gr _ (by omega)
   rw[<-jb]; omega
  have h6:¬((m:Int)<0):=by omega
  have hf1:=D2 (P:=P) hrd.drew
  have hzc2:z.cells.size=E.sz:=by rw[<-ij,hzc,E.len]
  have hne:0<E.sz:=E.pos
  have hzf:(Builtin.zeroCells z.cells m).toList=E.flat (List.replicate m a0):=by
   refine gv (fun k=>?_)
   by_cases hk:k<m*E.sz
   · have hmod:k%E.sz<E.sz:=gg _ E.pos
     have hdiv:k/E.sz<m:=(Nat.div_lt_iff_lt_mul E.pos).2 hk
     have e1:k=k/E.sz*E.sz+k%E.sz:=by rw[gf]; exact (Nat.div_add_mod k E.sz).symm
     have hg:=E.flat_get (List.replicate m a0) (k/E.sz) (k%E.sz) a0 _ (by simp[hdiv]) (fD (by rw[E.len]; exact hmod))
     rw[<-e1] at hg
     rw[hg]
     have h2:z.cells[k%z.cells.size]! = (E.f a0)[k%E.sz]'(by rw[E.len]; exact hmod):=by
      rw[getElem!_pos z.cells (k%z.cells.size) (by rw[hzc2]; exact hmod)]
      have:z.cells.toList[k%z.cells.size]'(by rw[ij,hzc2]; exact hmod)=(E.f a0)[k%E.sz]'(by rw[E.len]; exact hmod):=by simp only[hzc,hzc2]
      simpa using this
     have h3:k<(Builtin.zeroCells z.cells m).size:=by rw[jl,hzc2]; exact hk
     rw[<-h2,jz,jA h3]
     simp[Builtin.zeroCells]
   · rw[fI (by rw[ij,jl,hzc2]; omega),fI (by rw[E.fa,jB]; omega)]
  have hm0:∀w,(if m*E.sz=0 then pure #[] else do pure (Builtin.zeroCells (<-zeroValue e).cells m):Sem (Array Value)).run P w=.ok (Builtin.zeroCells z.cells m) w:=fun w=>by
   split
   · rename_i h0
     have:m=0:=by rcases gw.1 h0 with h|h; exact h; omega
     subst this
     have:Builtin.zeroCells z.cells 0=#[]:=by apply jk.1; rw[hzf]; rfl
     rw[this]; rfl
   · simp[hzv]
  have hrun:(Builtin.append_ #[t,tx] o.type #[.slice a l.length c,.int .i64 (m:Int)]).run P w=.ok (.slice (some ⟨w.heap.size,0,none⟩) (l.length+m) (grownCap w (l.length+m) c e))
   (w.drew.alloc (.cells ((E.flat l).toArray++Builtin.zeroCells z.cells m++Builtin.zeroCells z.cells (grownCap w (l.length+m) c e-(l.length+m))) e)):=by
   have hmw:=hm0 w.drew
   by_cases h0:m*E.sz=0
   · have hmz:m=0:=by rcases gw.1 h0 with h|h; exact h; omega
     subst hmz
     omega
   · simp[Builtin.append_,AT ht,AT htx,hsz,hti,hzv,asInt,asIntOf,hw1,h6,h5,hroom,h64,h48,Question.forced,hf1,newRow,grownCap,h0,<-Array.append_assoc]
  have hge:=grownCap_ge w (l.length+m) c e
  have hb2:C4 (.slice (some ⟨w.heap.size,0,none⟩) (l.length+m) (grownCap w (l.length+m) c e))=some w.heap.size:=by simp[C4]; omega
  have h1:=(hX.drew).alloc (o:=.cells ((E.flat l).toArray++Builtin.zeroCells z.cells m++Builtin.zeroCells z.cells (grownCap w (l.length+m) c e-(l.length+m))) e)
   (φ:=Row (.slice (some ⟨w.heap.size,0,none⟩) (l.length+m) (grownCap w (l.length+m) c e)) e E (l++List.replicate m a0)) (.inr ⟨w.heap.size,grownCap w (l.length+m) c e,[],(Builtin.zeroCells z.cells (grownCap w (l.length+m) c e-(l.length+m))).toList,by simp,by omega,by
    congr 2
    apply jk.1
    simp[E.fm,hzf],by simp; omega,by
    rw[ij,jl,hzc2,fL,jB]⟩)
  refine⟨.slice (some ⟨w.heap.size,0,none⟩) (l.length+m) (grownCap w (l.length+m) c e),w.drew.alloc (.cells ((E.flat l).toArray++Builtin.zeroCells z.cells m++Builtin.zeroCells z.cells (grownCap w (l.length+m) c e-(l.length+m))) e),by simp[execOp,ho,resolve,invoke,builtin,kn.eval hsv,kn.eval hxv,hrun],trivial,?_⟩
  show St w0 D (⟨C4 _,_⟩::H) _
  rw[hb2]
  exact h1) (fun v' _=>h v')
theorem ZL {t u:TypeId} {x y:Operand} {p:Int} (h:Nat) (ho:o.op=.binOp .shr t x y u) (hx:ev L x=some (.int .u64 p)) (hy:ev L y=some (.int .u64 1)) (hp:p.fdiv 2=(h:Int)):QOp P n L X o (.int .u64 (h:Int)) :=
 CW ho hx hy (fun w _=>by rw[gx,Ch]; simp only[binOp,Op.shift]; rw[show min (1:Int).toNat IntKind.u64.bits=1 from rfl]; simp[hp])
theorem Pt {f:FuncId} {fn:Func} {x y:Operand} {ts:Array TypeId} {d a b i j la lb ca cb sz:Nat} {t r e T U:TypeId} {cs us:List Value} (ho:o.op=.call ⟨.value (.func f),[x,y].toArray,ts⟩) (hd:o.dst=some d) (hnn:d.blt n=true) (hfn:P.funcs[f]?=some fn) (hb:fn.body.isNone=true) (OB:(fn.name == "runtime.NumGoroutine")=false) (hn:Extern.findNext fn=none) (he:Extern.find fn=some (Extern.SlicesOverlaps.overlaps #[t,t] #[r]))
 (ht:P.underlying t=some (.slice e)) (hz:∀w,(sizeOf e).run P w=.ok sz w) (hx:ev L x=some (.slice (some ⟨a,i,none⟩) la ca)) (hy:ev L y=some (.slice (some ⟨b,j,none⟩) lb cb)) (h1:∀w,X w->(Ad a T cs).at w) (h2:∀w,X w->(Ad b U us).at w) (hne:a≠b) (hu:us≠[])
 (h:Pre n ((d,.bool false)::L) X K):EOp P n L X o Q K :=
 EOp.val (β:=Unit) (fun _=>.bool false) (fun _=>True) (fun _=>X) hd hnn (fun ac w kn hX=>by
  have ha:w.heap[a]?=some (.cells cs.toArray T (0,0)):=h1 w hX
  have hb':w.heap[b]?=some (.cells us.toArray U (0,0)):=h2 w hX
  refine⟨(),w,?_,trivial,hX⟩
  have hr:=Lib.run_overlaps_apart w t r e ht sz hz ⟨a,i,none⟩ ⟨b,j,none⟩ la ca lb cb hne T U cs.length us.length (by simp[World.shape?,ha]) (by simp[World.shape?,hb']) (fun e=>hu (fS e)) (FY (h1 w hX) _) (FY (h1 w hX) _)
  have hc:=run_callFunc_extern hfn OB hb hn he #[.slice (some ⟨a,i,none⟩) la ca,.slice (some ⟨b,j,none⟩) lb cb] w
  rw[hr] at hc
  simp only[gz] at hc
  have hargs:([x,y].toArray.map ac.eval)=#[.slice (some ⟨a,i,none⟩) la ca,.slice (some ⟨b,j,none⟩) lb cb]:=by simp[kn.eval hx,kn.eval hy]
  have h0:∀us:Array Value,(#[]++us++#[])=us:=fun us=>by simp
  simp only[execOp,ho,resolve,Act.eval,Deferred.ofValue,gx,gy,gz,invoke,hargs,h0,hc]) (fun _ _=>h)
end
end Go.Sep
namespace Go.Sep
open Go.RowKit Go.Proofs.YtloldofjddbjoaaGreat
section plain
variable {α β:Type} [DecidableEq α]
def De (a:α):List (α×β)->Nat->Option (Nat×β)
 |[],_=>none
 |(x,y)::l,i=>if a=x then some (i,y) else De a l (i+1)
def BJ (a:α) (v:β):List (α×β)->List (α×β)
 |[]=>[(a,v)]
 |(x,y)::l=>if a=x then (a,v)::l else (x,y)::BJ a v l
def Cn (a:α):List (α×β)->Option β
 |[]=>none
 |(x,y)::l=>if a=x then some y else Cn a l
theorem JH {a:α} {v:β}:∀{l:List (α×β)} {i:Nat},De a l i=none->BJ a v l=l++[(a,v)]
 |[],i,h=>rfl
 |(x,y)::l,i,h=>by
  simp only[De] at h
  split at h
  · cases h
  · rename_i hne
    simp only[BJ,fR hne]
    rw[JH (v:=v) h]; rfl
theorem K7 {a:α}:∀{l:List (α×β)} {i:Nat},Cn a l=(De a l i).map Prod.snd
 |[],i=>rfl
 |(x,y)::l,i=>by
  simp only[De,Cn]
  split
  · rfl
  · exact K7
theorem G1 {a:α} {v y:β}:∀{l:List (α×β)} {i j:Nat},De a l i=some (j,y)->i<=j/\l[j-i]?=some (a,y)/\BJ a v l=l.set (j-i) (a,v)
 |[],i,j,h=>by cases h
 |(x,z)::l,i,j,h=>by
  simp only[De] at h
  split at h
  · rename_i he
    cases h
    subst he
    simp[BJ]
  · rename_i hne
    obtain⟨h1,h2,h3⟩:=G1 (v:=v) h
    have e:j-i=(j-(i+1))+1:=by omega
    simp only[BJ,fR hne]
    rw[e]
    exact⟨by omega,by simpa using h2,by rw[iY,h3]⟩
end plain
section
variable {P:Program} {n:Nat} {L:Env} {X:World->Prop} {o:Oper} {Q:Exit->Act->World->Prop} {K:Act->World->Prop}
variable {w0:World} {D:List Nat} {H:List Ent} {α β:Type} [DecidableEq α] {kf:α->Value} {vf:β->Value}
def ZM (b:Nat) (kf:α->Value) (vf:β->Value) (l:List (α×β)):Ent:=⟨some b,fun o=>∃m c,o=some (.map m c)/\m.toList.map (fun e=>(e.key,e.val))=l.map (fun p=>(kf p.1,vf p.2))⟩
structure Hs (P:Program) (kt:TypeId) (kf:α->Value):Prop where
 ck:∀em w a,(Instr.checkKey em 10000 kt (kf a)).run P w=.ok () w
 find:∀w a (es:List MapEntry) (β:Type) (vf:β->Value) (l:List (α×β)),es.map (fun e=>(e.key,e.val))=l.map (fun p=>(kf p.1,vf p.2))->(Instr.findKey kt (kf a) es).run P w=.ok ((De a l 0).map (fun p=>(p.1,vf p.2))) w
 same:∀a,Instr.sameBits 10000 (kf a) (kf a)=true
theorem KQ {kt:TypeId} (heq:∀w a x,(Op.equal kt (kf a) (kf x)).run P w=.ok (decide (a=x)) w) (w:World) (a:α):∀(es:List MapEntry) (l:List (α×β)) (i:Nat),es.map (fun e=>(e.key,e.val))=l.map (fun p=>(kf p.1,vf p.2)) ->
 (Instr.findAsking kt (kf a) es i).run P w=.ok ((De a l i).map (fun p=>(p.1,vf p.2))) w
 |[],[],i,h=>rfl
 |[],_::_,i,h=>by cases h
 |_::_,[],i,h=>by cases h
 |e::es,(x,y)::l,i,h=>by
  simp only[gB,List.cons.injEq,Prod.mk.injEq] at h
  obtain⟨⟨h1,h2⟩,h3⟩:=h
  simp only[Instr.findAsking,h1,gx,heq,gz,De]
  by_cases hax:a=x
  · simp[hax,h2]
  · simp only[hax,decide_false,iK,iL]
    exact KQ heq w a es l (i+1) h3
omit [DecidableEq α] in
theorem Xz {b:Nat} {l:List (α×β)} {w:World} (h:(ZM b kf vf l).at w):∃m c,w.heap[b]?=some (.map m c)/\m.toList.map (fun e=>(e.key,e.val))=l.map (fun p=>(kf p.1,vf p.2)):=h
theorem JI {t kt vt:TypeId} {b:Nat} {l:List (α×β)} {w:World} (a:α) {z:Value} (ht:P.underlying t=some (.map kt vt)) (hK:Hs P kt kf) (hz:∀w,(zeroValue vt).run P w=.ok z w) (h:(ZM b kf vf l).at w) (ok:Bool) :
 (Instr.lookup t (.map (some b)) (kf a) ok).run P w=.ok (if ok then .tuple #[match Cn a l with|some y=>vf y|none=>z,.bool (Cn a l).isSome] else match Cn a l with|some y=>vf y|none=>z) w:=by
 obtain⟨m,c,hm,hl⟩:=Xz h
 have hg:(getObj b).run P w=.ok (.map m c) w:=by simp[getObj,Sem.run,hm]
 have hf:=hK.find w a m.toList β vf l hl
 have hmg:=K7 (a:=a) (l:=l) (i:=0)
 unfold Instr.lookup
 cases hfi:De a l 0 with
 |none =>
  rw[hfi] at hf hmg
  simp only[Option.map_none] at hf hmg
  simp[AT ht,hg,hK.ck,hf,hz,hmg]
 |some p =>
  rw[hfi] at hf hmg
  simp only[gp] at hf hmg
  simp[AT ht,hg,hK.ck,hf,hmg]
theorem Ug {t e:TypeId} {i:TypeInfo} {z:Value} {x:Operand} {b off m c:Nat} {T:TypeId} {cs:List Value} (ho:o.op=.call ⟨.builtin .clear,#[x],#[t]⟩) (hd:o.dst=none) (ht:P.underlying t=some (.slice e)) (hi:P.info? e=some i) (hz:i.zero=some z) (hzc:z.cells=#[z]) (hz1:z.oneCell'=true)
 (hx:ev L x=some (.slice (some ⟨b,off,none⟩) m c)) (hfit:off+m<=cs.length) (h:Pre n L (St w0 D (Ad b T (splice cs off (List.replicate m z))::H)) K):EOp P n L (St w0 D (Ad b T cs::H)) o Q K :=
 EOp.val0 (β:=Unit) (fun _=>.tuple #[]) (fun _=>True) (fun _=>St w0 D (Ad b T (splice cs off (List.replicate m z))::H)) hd (fun a w kn hX=>by
  have hzv:∀w,(zeroValue e).run P w=.ok z w:=fun w=>by simp[zeroValue,typeInfo,hi,hz]
  have hzl:(Builtin.zeroCells z.cells m).toList=List.replicate m z:=by
   rw[hzc]
   refine gv (fun j=>?_)
   by_cases hj:j<m
   · simp[Builtin.zeroCells,hj,Nat.mod_one]
   · rw[fI (by rw[ij,jl]; simp; omega),fI (by simp; omega)]
  obtain⟨w',hr,h'⟩:=B6 (P:=P) (off:=off) (List.replicate m z) cs 0 hX (by simp; omega) (fun u hu=>by rw[(ic.1 hu).2]; exact hz1)
  rw[iM] at h'
  refine⟨(),w',?_,trivial,h'⟩
  cases m with
  |zero =>
   have:w'=w:=by
    simp[storeCells] at hr; exact hr.symm
   subst this
   simp[execOp,ho,resolve,invoke,builtin,kn.eval hx,Builtin.clear_,AT ht]
  |succ k =>
   rw[<-hzl] at hr
   simp[execOp,ho,resolve,invoke,builtin,kn.eval hx,Builtin.clear_,AT ht,hzv,hr]) (fun _ _=>h)
theorem XA {t tx e:TypeId} {x y:Operand} {s:ByteArray} {b off dn dc:Nat} {T:TypeId} {cs:List Value} {d:Nat} (ho:o.op=.call ⟨.builtin .copy,#[y,x],#[t,tx]⟩) (hd:o.dst=some d) (hnn:d.blt n=true) (ht:P.underlying t=some (.slice e)) (hz:∀w,(sizeOf e).run P w=.ok 1 w)
 (hy:ev L y=some (.slice (some ⟨b,off,none⟩) dn dc)) (hxv:ev L x=some (.string s)) (hsn:s.size<=dn) (hfit:off+s.size<=cs.length)
 (h:Pre n ((d,.int .i64 (s.size:Nat))::L) (St w0 D (Ad b T (splice cs off (s.data.toList.map (fun q=>Value.int .u8 (q.toNat:Int))))::H)) K):EOp P n L (St w0 D (Ad b T cs::H)) o Q K :=
 EOp.val (β:=Unit) (fun _=>.int .i64 (s.size:Nat)) (fun _=>True) (fun _=>St w0 D (Ad b T (splice cs off (s.data.toList.map (fun q=>Value.int .u8 (q.toNat:Int))))::H)) hd hnn (fun a w kn hX=>by
  have hl:(s.data.toList.map (fun q=>Value.int .u8 (q.toNat:Int))).length=s.size:=by rw[gS,ij]; rfl
  obtain⟨w',hr,h'⟩:=B6 (P:=P) (off:=off) (s.data.toList.map (fun q=>Value.int .u8 (q.toNat:Int))) cs 0 hX (by rw[hl]; omega) (fun u hu=>by obtain⟨q,_,rfl⟩:=gj.1 hu; rfl)
  rw[iM] at h'
  have hmin:Nat.min s.size dn=s.size:=gV hsn
  have hf:(Builtin.firstCells 1 s.size (.string s)).run P w=.ok (s.data.toList.map (fun q=>Value.int .u8 (q.toNat:Int))).toArray w:=by
   have he:s.extract 0 s.size=s:=by
    apply ByteArray.ext
    simp[ByteArray.data_extract]
   simp only[Builtin.firstCells,he]
   show Result.ok _ w=_
   congr 1
   apply jk.1
   simp
  have hlen:(Builtin.lenOf (.string s)).run P w=.ok s.size w:=rfl
  refine⟨(),w',?_,trivial,h'⟩
  simp[execOp,ho,resolve,invoke,builtin,kn.eval hy,kn.eval hxv,Builtin.copy_,AT ht,hlen,hz,hmin,hf,hr,goInt]) (fun _ _=>h)
end
end Go.Sep
namespace Go.Sep
open Go.RowKit Go.MapKept Go.Proofs.YtloldofjddbjoaaGreat
section plain
variable {α β:Type} [DecidableEq α]
def Mj (a:α):List (α×β)->Nat
 |[]=>0
 |(x,_)::l=>if a=x then 0 else Mj a l+1
theorem Sl (a:α) (v u:β):∀l:List (α×β),(BJ a v l).set (Mj a l) (a,u)=BJ a u l
 |[]=>rfl
 |(x,y)::l=>by
  simp only[BJ,Mj]
  by_cases h:a=x
  · simp[h]
  · simp only[fR h,iY]; rw[Sl a v u l]
theorem Uh (a:α) (v:β):∀l:List (α×β),(BJ a v l)[Mj a l]?=some (a,v)
 |[]=>rfl
 |(x,y)::l=>by
  simp only[BJ,Mj]
  by_cases h:a=x
  · simp[h]
  · simp only[fR h,g9]; exact Uh a v l
theorem JJ (a:α) (v:β):∀l:List (α×β),Cn a (BJ a v l)=some v
 |[]=>by simp[BJ,Cn]
 |(x,y)::l=>by
  simp only[BJ]
  by_cases h:a=x
  · subst h; simp[Cn]
  · simp only[fR h,Cn]; exact JJ a v l
theorem So {a:α} {y:β}:∀{l:List (α×β)} {i j:Nat},De a l i=some (j,y)->j=i+Mj a l
 |[],i,j,h=>by cases h
 |(x,z)::l,i,j,h=>by
  simp only[De] at h
  simp only[Mj]
  split at h
  · rename_i he; cases h; simp[he]
  · rename_i hne; have:=So h; rw[fR hne]; omega
theorem Sp {a:α}:∀{l:List (α×β)} {i:Nat},De a l i=none->Mj a l=l.length
 |[],i,h=>rfl
 |(x,z)::l,i,h=>by
  simp only[De] at h
  simp only[Mj]
  split at h
  · cases h
  · rename_i hne; rw[fR hne,Sp h]; rfl
end plain
section
variable {P:Program} {n:Nat} {L:Env} {X:World->Prop} {o:Oper} {Q:Exit->Act->World->Prop} {K:Act->World->Prop}
variable {w0:World} {D:List Nat} {H:List Ent} {α β:Type} [DecidableEq α] {kf:α->Value} {vf:β->Value}
end
end Go.Sep
namespace Go.Sep
open Go.RowKit Go.MapKept Go.Proofs.YtloldofjddbjoaaGreat
theorem Dy {α β:Type} (f:α->β):∀(l:List α) (i:Nat),(l.eraseIdx i).map f=(l.map f).eraseIdx i
 |[],_=>rfl
 |_::_,0=>rfl
 |_::l,i+1=>by simp only[jC,gB]; rw[Dy f l i]
section plain
variable {α β:Type} [DecidableEq α]
def BM (a:α):List (α×β)->List (α×β)
 |[]=>[]
 |(x,y)::l=>if a=x then l else (x,y)::BM a l
theorem JK {a:α}:∀{l:List (α×β)} {i:Nat},De a l i=none->BM a l=l
 |[],i,h=>rfl
 |(x,y)::l,i,h=>by
  simp only[De] at h
  split at h
  · cases h
  · rename_i hne; simp only[BM,fR hne]; rw[JK h]
theorem JL {a:α} {y:β}:∀{l:List (α×β)} {i j:Nat},De a l i=some (j,y)->i<=j/\BM a l=l.eraseIdx (j-i)
 |[],i,j,h=>by cases h
 |(x,z)::l,i,j,h=>by
  simp only[De] at h
  split at h
  · rename_i he; cases h; simp[BM,he]
  · rename_i hne
    obtain⟨h1,h2⟩:=JL h
    have e:j-i=(j-(i+1))+1:=by omega
    simp only[BM,fR hne]
    rw[e,jC,h2]
    exact⟨by omega,rfl⟩
theorem K8 {a b:α} (h:a≠b):∀l:List (α×β),Cn b (BM a l)=Cn b l
 |[]=>rfl
 |(x,y)::l=>by
  simp only[BM]
  by_cases e:a=x
  · subst e; rw[fO rfl]; simp only[Cn,fR h.symm]
  · rw[fR e]; simp only[Cn,K8 h l]
theorem Ib {a b:α} {v:β} (h:a≠b):∀l:List (α×β),Cn b (BJ a v l)=Cn b l
 |[]=>by simp[BJ,Cn,h.symm]
 |(x,y)::l=>by
  simp only[BJ]
  by_cases e:a=x
  · subst e; rw[fO rfl]; simp only[Cn,fR h.symm]
  · rw[fR e]; simp only[Cn,Ib h l]
end plain
section
variable {P:Program} {n:Nat} {L:Env} {X:World->Prop} {o:Oper} {Q:Exit->Act->World->Prop} {K:Act->World->Prop}
variable {w0:World} {D:List Nat} {H:List Ent} {α β:Type} [DecidableEq α] {kf:α->Value} {vf:β->Value}
theorem Sq {kt:TypeId} (k:IntKind) (hu:P.underlying kt=some (.int k)):Hs P kt (Value.int k):=by
 refine⟨fun em w a=>run_checkKey hu (show IsKey (.int k) (.int k a) from rfl) em 9999,fun w a es β vf l h=>run_findKey hu ?_,fun a=>?_⟩
 · suffices ∀(es:List MapEntry) (l:List (Int×β)) (i:Nat),es.map (fun e=>(e.key,e.val))=l.map (fun p=>(Value.int k p.1,vf p.2))->Instr.findNow (.int k) (.int k a) es i=some ((De a l i).map (fun p=>(p.1,vf p.2))) from this es l 0 h
   intro es
   induction es with
   |nil=>intro l i h; cases l with
    |nil=>rfl
    |cons p l=>cases h
   |cons e es ih =>
    intro l i h
    cases l with
    |nil=>cases h
    |cons p l =>
     obtain⟨x,y⟩:=p
     simp only[gB,List.cons.injEq,Prod.mk.injEq] at h
     obtain⟨⟨h1,h2⟩,h3⟩:=h
     have hs:Instr.sameNow (.int k) (.int k a) e.key=some (decide (a=x)):=by
      rw[h1]
      show (if k=k then some (a == x) else none)=_
      rw[fO rfl]
      congr 1
     simp only[Instr.findNow,hs,De]
     by_cases hax:a=x
     · simp[hax,h2]
     · simp only[hax,decide_false,iL]
       exact ih l (i+1) h3
 · show (k == k&&a == a)=true
   simp
def Eb (m:Array MapEntry) (c:Nat):Prop:=(∀x∈m.toList,x.born<c)/\(m.toList.map (·.born)).Nodup
def BH (b:Nat) (kf:α->Value) (vf:β->Value) (l:List (α×β)):Ent:=⟨some b,fun o=>∃m c,o=some (.map m c)/\m.toList.map (fun e=>(e.key,e.val))=l.map (fun p=>(kf p.1,vf p.2))/\Eb m c⟩
omit [DecidableEq α] in
theorem Nu {b:Nat} {l:List (α×β)} {w:World} (h:(BH b kf vf l).at w):(ZM b kf vf l).at w:=by
 obtain⟨m,c,h1,h2,_⟩:=h; exact⟨m,c,h1,h2⟩
omit [DecidableEq α] in
theorem Ht {b:Nat} {l:List (α×β)} {w:World} (h:(BH b kf vf l).at w):∃m c,w.heap[b]?=some (.map m c)/\m.toList.map (fun e=>(e.key,e.val))=l.map (fun p=>(kf p.1,vf p.2))/\Eb m c:=h
omit [DecidableEq α] in
theorem G2 {t:TypeId} {d:Nat} (kf:α->Value) (vf:β->Value) (ho:o.op=.makeMap t none) (hd:o.dst=some d) (hn:d.blt n=true) (h:∀b,Pre n ((d,.map (some b))::L) (St w0 D (BH b kf vf []::H)) K):EOp P n L (St w0 D H) o Q K :=
 EOp.val (β:=Nat) (fun b=>.map (some b)) (fun _=>True) (fun b=>St w0 D (BH b kf vf []::H)) hd hn (fun a w k x =>
  ⟨w.heap.size,w.alloc (.map #[] 0),by simp[execOp,ho,Instr.makeMap,newObj]; rfl,trivial,x.alloc ⟨#[],0,rfl,rfl,by intro x hx; simp at hx,iO⟩⟩) (fun b _=>h b)
omit [DecidableEq α] in
theorem Mk {m:Array MapEntry} {c:Nat} {k v:Value} (h:Eb m c):Eb (m.push {key:=k,val:=v,born:=c}) (c+1):=by
 refine⟨fun x hx=>?_,?_⟩
 · rw[Array.toList_push] at hx
   rcases ib.1 hx with hx|hx
   · have:=h.1 x hx; omega
   · simp only[iE] at hx; subst hx; exact Nat.lt_succ_self _
 · rw[Array.toList_push,gL,iT]
   refine⟨h.2,by simp,fun a ha b hb e=>?_⟩
   obtain⟨x,hx,rfl⟩:=gj.1 ha
   simp only[gB,gC,iE] at hb
   have:=h.1 x hx
   omega
omit [DecidableEq α] in
theorem Nv (m:Array MapEntry) (i:Nat) (k v:Value):(m.modify i fun e=>{e with key:=k,val:=v}).toList.map (·.born)=m.toList.map (·.born):=by
 refine gv (fun j=>?_)
 simp only[gm,jz,Array.getElem?_modify]
 split
 · rename_i hij; subst hij; cases m[i]?<;>rfl
 · rfl
omit [DecidableEq α] in
theorem JM {m:Array MapEntry} {c i:Nat} {k v:Value} (h:Eb m c):Eb (m.modify i fun e=>{e with key:=k,val:=v}) c:=by
 have hb:=Nv m i k v
 refine⟨fun x hx=>?_,by rw[hb]; exact h.2⟩
 have:x.born∈m.toList.map (·.born):=by rw[<-hb]; exact gj.2 ⟨x,hx,rfl⟩
 obtain⟨y,hy,e⟩:=gj.1 this
 rw[<-e]; exact h.1 y hy
omit [DecidableEq α] in
theorem KR {m:Array MapEntry} {c i:Nat} (h:Eb m c) (hi:i<m.size):Eb (m.eraseIdxIfInBounds i) c:=by
 have he:(m.eraseIdxIfInBounds i).toList=m.toList.eraseIdx i:=by
  unfold Array.eraseIdxIfInBounds
  rw[dif_pos hi]; simp
 have hs:(m.toList.eraseIdx i).Sublist m.toList:=List.eraseIdx_sublist ..
 exact⟨fun x hx=>h.1 x (hs.subset (by rw[he] at hx; exact hx)),by rw[he]; exact h.2.sublist (hs.map _)⟩
theorem Ui {t kt vt:TypeId} {b:Nat} {l:List (α×β)} {w:World} (a:α) (v:β) (ht:P.underlying t=some (.map kt vt)) (hK:Hs P kt kf) (h:St w0 D (BH b kf vf l::H) w) :
 ∃w',(Instr.mapUpdate t (.map (some b)) (kf a) (vf v)).run P w=.ok () w'/\St w0 D (BH b kf vf (BJ a v l)::H) w':=by
 obtain⟨m,c,hm,hl,hT⟩:=Ht (h.at 0 rfl)
 have hlt:b<w.heap.size:=(fY.1 hm).1
 have hg:(getObj b).run P w=.ok (.map m c) w:=by simp[getObj,Sem.run,hm]
 have hs:∀m' c',(setObj b (.map m' c')).run P w=.ok () {w with heap:=w.heap.setIfInBounds b (.map m' c')}:=fun m' c'=>by simp[setObj,Sem.run,hm]
 have hst:∀(m':Array MapEntry) (c':Nat) (l':List (α×β)),m'.toList.map (fun e=>(e.key,e.val))=l'.map (fun p=>(kf p.1,vf p.2))->Eb m' c'->St w0 D (BH b kf vf l'::H) {w with heap:=w.heap.setIfInBounds b (.map m' c')}:=fun m' c' l' hl' hT' =>
  h.write rfl rfl rfl (by simp) (fun k hk=>by simp[iz,iA hk]) ⟨m',c',by simp[iz,hlt],hl',hT'⟩
 have hf:=hK.find w a m.toList β vf l hl
 unfold Instr.mapUpdate
 cases hfi:De a l 0 with
 |none =>
  rw[hfi] at hf
  simp only[Option.map_none] at hf
  refine⟨_,by simp[AT ht,hg,hK.ck,hf,hs],hst (m.push {key:=kf a,val:=vf v,born:=c}) (c+1) (BJ a v l) ?_ (Mk hT)⟩
  rw[JH hfi]
  simp[hl]
 |some p =>
  obtain⟨i,y⟩:=p
  rw[hfi] at hf
  simp only[gp] at hf
  obtain⟨_,h2,h3⟩:=G1 (v:=v) hfi
  simp only[Nat.sub_zero] at h2 h3
  have hi:i<m.size:=by
   have h5:=(gl.1 h2).1
   have:=congrArg List.length hl
   simp at this; omega
  have hk:(m[i]?.map (·.key)).getD (kf a)=kf a:=by
   have h6:(m.toList.map (fun e=>(e.key,e.val)))[i]?=some (kf a,vf y):=by rw[hl]; simp[h2]
   simp only[gm,jz,hU] at h6
   obtain⟨e,he,h7⟩:=h6
   rw[he]
   simp only[gp,gq]
   exact congrArg Prod.fst h7
  have hks:(Instr.keyThatStays (kf a) (kf a)).run P w=.ok (kf a) w:=by unfold Instr.keyThatStays; rw[fO (hK.same a)]; rfl
  refine⟨_,by simp[AT ht,hg,hK.ck,hf,hk,hks,hs],hst (m.modify i fun e=>{e with key:=kf a,val:=vf v}) c (BJ a v l) ?_ (JM hT)⟩
  rw[h3]
  refine gv (fun j=>?_)
  have hlj:(m.toList.map (fun e=>(e.key,e.val)))[j]?=(l.map (fun p=>(kf p.1,vf p.2)))[j]?:=by rw[hl]
  simp only[gm,jz] at hlj
  simp only[gm,jz,Array.getElem?_modify,jD]
  by_cases hij:i=j
  · subst hij
    have h5:=(gl.1 h2).1
    simp[hi,h5]
  · simp only[fR hij]
    exact hlj
theorem Ml {t kt vt:TypeId} {x k y:Operand} {b:Nat} {l:List (α×β)} (a:α) (v:β) (ho:o.op=.mapUpdate t x k y) (hd:o.dst=none) (ht:P.underlying t=some (.map kt vt)) (hK:Hs P kt kf)
 (hx:ev L x=some (.map (some b))) (hk:ev L k=some (kf a)) (hy:ev L y=some (vf v)) (h:Pre n L (St w0 D (BH b kf vf (BJ a v l)::H)) K):EOp P n L (St w0 D (BH b kf vf l::H)) o Q K :=
 EOp.skip _ hd (fun ac w kn hX=>by
  obtain⟨w',hr,h'⟩:=Ui (P:=P) a v ht hK hX
  exact⟨w',by simp[execOp,ho,kn.eval hx,kn.eval hk,kn.eval hy,hr],h'⟩) h
theorem Nw {t kt vt t2 ty:TypeId} {b:Nat} {l:List (α×β)} {w:World} (a:α) (ht:P.underlying t=some (.map kt vt)) (hK:Hs P kt kf) (h:St w0 D (BH b kf vf l::H) w) :
 ∃w',(Builtin.delete_ #[t,t2] ty #[.map (some b),kf a]).run P w=.ok (.tuple #[]) w'/\St w0 D (BH b kf vf (BM a l)::H) w':=by
 obtain⟨m,c,hm,hl,hT⟩:=Ht (h.at 0 rfl)
 have hlt:b<w.heap.size:=(fY.1 hm).1
 have hg:(getObj b).run P w=.ok (.map m c) w:=by simp[getObj,Sem.run,hm]
 have hs:∀m' c',(setObj b (.map m' c')).run P w=.ok () {w with heap:=w.heap.setIfInBounds b (.map m' c')}:=fun m' c'=>by simp[setObj,Sem.run,hm]
 have hst:∀(m':Array MapEntry) (c':Nat) (l':List (α×β)),m'.toList.map (fun e=>(e.key,e.val))=l'.map (fun p=>(kf p.1,vf p.2))->Eb m' c'->St w0 D (BH b kf vf l'::H) {w with heap:=w.heap.setIfInBounds b (.map m' c')}:=fun m' c' l' hl' hT' =>
  h.write rfl rfl rfl (by simp) (fun k hk=>by simp[iz,iA hk]) ⟨m',c',by simp[iz,hlt],hl',hT'⟩
 have hf:=hK.find w a m.toList β vf l hl
 unfold Builtin.delete_
 cases hfi:De a l 0 with
 |none =>
  rw[hfi] at hf
  simp only[Option.map_none] at hf
  refine⟨_,by simp[AT ht,hg,hK.ck,hf,hs],hst m c (BM a l) ?_ hT⟩
  rw[JK hfi]; exact hl
 |some p =>
  obtain⟨i,y⟩:=p
  rw[hfi] at hf
  simp only[gp] at hf
  obtain⟨_,h2⟩:=JL hfi
  rw[Nat.sub_zero] at h2
  have hml:m.size=l.length:=by have:=congrArg List.length hl; simpa using this
  have hi:i<m.size:=by
   obtain⟨_,h5,_⟩:=G1 (v:=y) hfi
   have:=(gl.1 h5).1
   omega
  refine⟨_,by simp[AT ht,hg,hK.ck,hf,hs],hst (m.eraseIdxIfInBounds i) c (BM a l) ?_ (KR hT hi)⟩
  rw[h2]
  have he:(m.eraseIdxIfInBounds i).toList=m.toList.eraseIdx i:=by
   unfold Array.eraseIdxIfInBounds
   rw[dif_pos hi]; simp
  rw[he,Dy,hl,Dy]
theorem Ic {t kt vt t2:TypeId} {x k:Operand} {b:Nat} {l:List (α×β)} (a:α) (ho:o.op=.call ⟨.builtin .delete,#[x,k],#[t,t2]⟩) (hd:o.dst=none) (ht:P.underlying t=some (.map kt vt)) (hK:Hs P kt kf)
 (hx:ev L x=some (.map (some b))) (hk:ev L k=some (kf a)) (h:Pre n L (St w0 D (BH b kf vf (BM a l)::H)) K):EOp P n L (St w0 D (BH b kf vf l::H)) o Q K :=
 EOp.val0 (β:=Unit) (fun _=>.tuple #[]) (fun _=>True) (fun _=>St w0 D (BH b kf vf (BM a l)::H)) hd (fun ac w kn hX=>by
  obtain⟨w',hr,h'⟩:=Nw (P:=P) (t2:=t2) (ty:=o.type) a ht hK hX
  exact⟨(),w',by simp[execOp,ho,resolve,invoke,builtin,kn.eval hx,kn.eval hk,hr],trivial,h'⟩) (fun _ _=>h)
theorem JN {t kt vt:TypeId} {x k:Operand} {b:Nat} {l:List (α×β)} (a:α) {z:Value} (ho:o.op=.lookup t x k true) (ht:P.underlying t=some (.map kt vt)) (hK:Hs P kt kf) (hz:∀w,(zeroValue vt).run P w=.ok z w)
 (hx:ev L x=some (.map (some b))) (hk:ev L k=some (kf a)) (hr:∀w,X w->(BH b kf vf l).at w):QOp P n L X o (.tuple #[match Cn a l with|some y=>vf y|none=>z,.bool (Cn a l).isSome]):=fun ac w kn hX=>by
 have:=JI (P:=P) a ht hK hz (Nu (hr w hX)) true
 simp only[gR] at this
 simp[execOp,ho,kn.eval hx,kn.eval hk,this]
 try rfl
theorem K9 {t kt vt:TypeId} {x k:Operand} {b:Nat} {l:List (α×β)} (a:α) {z:Value} (ho:o.op=.lookup t x k false) (ht:P.underlying t=some (.map kt vt)) (hK:Hs P kt kf) (hz:∀w,(zeroValue vt).run P w=.ok z w)
 (hx:ev L x=some (.map (some b))) (hk:ev L k=some (kf a)) (hr:∀w,X w->(BH b kf vf l).at w):QOp P n L X o (match Cn a l with|some y=>vf y|none=>z):=fun ac w kn hX=>by
 have:=JI (P:=P) a ht hK hz (Nu (hr w hX)) false
 simp only[iK,iL] at this
 simp[execOp,ho,kn.eval hx,kn.eval hk,this]
 try rfl
def Sr (b:Nat) (m:Array MapEntry) (c:Nat) (w:World):Prop:=w.heap[b]?=some (.map m c)
def itE (r b c:Nat) (seen:Array Nat):Ent:=⟨some r,fun o=>o=some (.mapIter (some b) c seen c)⟩
omit [DecidableEq α] in
theorem Ie {b:Nat} {m:Array MapEntry} {c:Nat} {w:World} (h:Sr b m c w0) (s:St w0 D H w) (hD:b∉D):Sr b m c w:=(s.keep.block b (fY.1 h).1 hD).trans h
omit [DecidableEq α] in
theorem XB {t kt vt:TypeId} {x:Operand} {d b c:Nat} {m:Array MapEntry} (ho:o.op=.range t x) (hd:o.dst=some d) (hn:d.blt n=true) (ht:P.underlying t=some (.map kt vt)) (hx:ev L x=some (.map (some b))) (hr:∀w,St w0 D H w->Sr b m c w)
 (h:∀r,Pre n ((d,.pointer (some ⟨r,0,none⟩))::L) (St w0 D (itE r b c #[]::H)) K):EOp P n L (St w0 D H) o Q K :=
 EOp.val (β:=Nat) (fun r=>.pointer (some ⟨r,0,none⟩)) (fun _=>True) (fun r=>St w0 D (itE r b c #[]::H)) hd hn (fun a w k s =>
  ⟨w.heap.size,_,by simp[execOp,ho,k.eval hx,run_range_map w t kt vt b m c ht (hr w s)],trivial,s.alloc rfl⟩) (fun r _=>h r)
omit [DecidableEq α] in
theorem ZN {x:Operand} {d r b c:Nat} {m:Array MapEntry} {seen:Array Nat} (ho:o.op=.next x false) (hd:o.dst=some d) (hn:d.blt n=true) (hx:ev L x=some (.pointer (some ⟨r,0,none⟩))) (hT:∀x∈m.toList,x.born<c)
 (hr:∀w,St w0 D (itE r b c seen::H) w->Sr b m c w)
 (h1:(leftOf m seen).size=0->Pre n ((d,.tuple #[.bool false])::L) (St w0 D (itE r b c seen::H)) K)
 (h2:∀e,e∈(leftOf m seen).toList->Pre n ((d,.tuple #[.bool true,e.key,e.val])::L) (St w0 D (itE r b c (seen.push e.born)::H)) K):EOp P n L (St w0 D (itE r b c seen::H)) o Q K :=
 EOp.val (β:=Option MapEntry) (fun y=>match y with|none=>.tuple #[.bool false]|some e=>.tuple #[.bool true,e.key,e.val]) (fun y=>match y with|none=>(leftOf m seen).size=0|some e=>e∈(leftOf m seen).toList)
  (fun y=>match y with|none=>St w0 D (itE r b c seen::H)|some e=>St w0 D (itE r b c (seen.push e.born)::H)) hd hn (fun a w k s=>by
  have hit:w.heap[r]?=some (.mapIter (some b) c seen c):=s.at 0 rfl
  rcases run_next_at (P:=P) w o.type r b c c seen m c hit (hr w s) hT (ga _) with⟨h0,hrun⟩|⟨e,he,w1,hw1,hrun⟩
  · exact⟨none,w,by simp[execOp,ho,k.eval hx,hrun],h0,s⟩
  · refine⟨some e,ChangeMaps.setBlock w1 r (.mapIter (some b) c (seen.push e.born) c),by simp[execOp,ho,k.eval hx,hrun],he,?_⟩
    have s1:St w0 D (itE r b c seen::H) w1:=by
     rcases hw1 with rfl|rfl
     · exact s
     · exact s.drew
    have hlt:r<w1.heap.size:=by
     have:w1.heap[r]?=some (.mapIter (some b) c seen c):=s1.at 0 rfl
     exact (fY.1 this).1
    exact s1.write rfl rfl rfl (by simp[ChangeMaps.setBlock]) (fun k hk=>by simp[ChangeMaps.setBlock,iz,iA hk]) (by simp[ChangeMaps.setBlock,iz,hlt])) (fun y hy=>by
  cases y with
  |none=>exact h1 hy
  |some e=>exact h2 e hy)
omit [DecidableEq α] in
theorem XC {x:Operand} {r b c:Nat} {m:Array MapEntry} {seen:Array Nat} {e:MapEntry} (ho:o.op=.entry x) (hx:ev L x=some (.pointer (some ⟨r,0,none⟩))) (hn:(m.toList.map (·.born)).Nodup) (he:e∈m.toList)
 (hr:∀w,X w->Sr b m c w) (hi:∀w,X w->(itE r b c (seen.push e.born)).at w):QOp P n L X o (.tuple #[e.key,e.val]):=fun a w k hX=>by
 have:=run_entry_at (P:=P) w r b c seen m c e (hi w hX) (hr w hX) he hn
 simp[execOp,ho,k.eval hx,this]
def QX (m:Array MapEntry) (seen:Array Nat):Nat:=(m.toList.filter (fun e=>!seen.contains e.born)).length
omit [DecidableEq α] in
theorem Nx {m:Array MapEntry} {seen:Array Nat} {e:MapEntry} (h:e∈(leftOf m seen).toList):e∈m.toList/\seen.contains e.born=false:=by
 unfold leftOf at h
 rw[Array.toList_filter] at h
 obtain⟨h1,h2⟩:=jE.1 h
 exact⟨h1,by simpa using h2⟩
omit [DecidableEq α] in
theorem Ss {m:Array MapEntry} {seen:Array Nat} {e:MapEntry} (h:e∈(leftOf m seen).toList):QX m (seen.push e.born)<QX m seen:=by
 obtain⟨h1,h2⟩:=Nx h
 unfold QX
 have h3:¬e.born∈seen:=by simpa using h2
 refine filter_lt _ _ (fun x hx=>?_) e (by simp[h3]) (by simp) m.toList h1
 simp only[Array.contains_push,Bool.not_or,gQ] at hx
 simp_all
omit [DecidableEq α] in
theorem Su {m:Array MapEntry} {seen:Array Nat} (h:(leftOf m seen).size=0):∀e∈m.toList,seen.contains e.born=true:=by
 intro e he
 cases hc:seen.contains e.born with
 |true=>rfl
 |false =>
  have:e∈(leftOf m seen).toList:=by
   unfold leftOf; rw[Array.toList_filter]; exact jE.2 ⟨he,by simpa using hc⟩
  have h0:(leftOf m seen).toList.length=0:=by simpa using h
  rw[fS h0] at this
  cases this
theorem Ent.keep {e:Ent} {w:World} {b:Nat} (h:e.at w0) (s:St w0 D H w) (hb:e.b=some b) (hlt:b<w0.heap.size) (hD:b∉D):e.at w:=Ent.at_congr (fun k hk=>by rw[hb] at hk; cases hk; exact s.keep.block b hlt hD) h
omit [DecidableEq α] in
theorem Ny {b:Nat} {t:TypeId} {cs:List Value} {w:World} (h:(Ad b t cs).at w0) (s:St w0 D H w) (hD:b∉D):(Ad b t cs).at w:=by
 have h':w0.heap[b]?=some (.cells cs.toArray t (0,0)):=h
 exact Ent.keep h s rfl (fY.1 h').1 hD
omit [DecidableEq α] in
theorem Lb {b:Nat} {l:List (α×β)} {w:World} (h:(BH b kf vf l).at w0) (s:St w0 D H w) (hD:b∉D):(BH b kf vf l).at w:=by
 obtain⟨m,c,h1,_⟩:=Ht h
 exact Ent.keep h s rfl (fY.1 h1).1 hD
end
end Go.Sep
namespace Go.Proofs.YtloldofjddbjoaaGreat
open Go.Sep Go.RowKit Tryz
variable {z a0 a1 a2 a3 a4 a5 a6 a7 a8 a9 a10 a11 a12 a13 a14 a15 a16 a17 a18 a19:Ent} {α:Type} {x:Int} {m:Nat} {u:TypeId} {y:Operand} {w:World}
section
variable {n:Nat} {L:Env} {w0:World} {D:List Nat} {H:List Ent} {F:Act->World->Prop}
theorem Ld {z a0:Ent} (k:Pre n L (St w0 D (z::a0::a1::a2::a3::a4::a5::a6::H)) F):Pre n L (St w0 D (a0::a1::a2::a3::a4::a5::a6::z::H)) F:=k.world _ (fun w s=>s.perm (jm (l₁:=[a0,a1,a2,a3,a4,a5,a6]) (l₂:=H)))
theorem eX {z a0:Ent} (k:Pre n L (St w0 D (z::a0::a1::a2::a3::a4::a5::a6::a7::H)) F):Pre n L (St w0 D (a0::a1::a2::a3::a4::a5::a6::a7::z::H)) F:=k.world _ (fun w s=>s.perm (jm (l₁:=[a0,a1,a2,a3,a4,a5,a6,a7]) (l₂:=H)))
theorem eY {z a0:Ent} (k:Pre n L (St w0 D (z::a0::a1::a2::a3::a4::a5::a6::a7::a8::H)) F):Pre n L (St w0 D (a0::a1::a2::a3::a4::a5::a6::a7::a8::z::H)) F:=k.world _ (fun w s=>s.perm (jm (l₁:=[a0,a1,a2,a3,a4,a5,a6,a7,a8]) (l₂:=H)))
theorem G6 {z a0:Ent} (k:Pre n L (St w0 D (z::a0::a1::a2::a3::a4::a5::a6::a7::a8::a9::H)) F):Pre n L (St w0 D (a0::a1::a2::a3::a4::a5::a6::a7::a8::a9::z::H)) F:=k.world _ (fun w s=>s.perm (jm (l₁:=[a0,a1,a2,a3,a4,a5,a6,a7,a8,a9]) (l₂:=H)))
theorem Ig {z a0:Ent} (k:Pre n L (St w0 D (z::a0::a1::a2::a3::a4::a5::a6::a7::a8::a9::a10::H)) F):Pre n L (St w0 D (a0::a1::a2::a3::a4::a5::a6::a7::a8::a9::a10::z::H)) F:=k.world _ (fun w s=>s.perm (jm (l₁:=[a0,a1,a2,a3,a4,a5,a6,a7,a8,a9,a10]) (l₂:=H)))
theorem Ii {z a0:Ent} (k:Pre n L (St w0 D (z::a0::a1::a2::a3::a4::a5::a6::a7::a8::a9::a10::a11::H)) F):Pre n L (St w0 D (a0::a1::a2::a3::a4::a5::a6::a7::a8::a9::a10::a11::z::H)) F:=k.world _ (fun w s=>s.perm (jm (l₁:=[a0,a1,a2,a3,a4,a5,a6,a7,a8,a9,a10,a11]) (l₂:=H)))
theorem eg {z a0:Ent} (k:Pre n L (St w0 D (z::a0::a1::a2::a3::a4::a5::a6::a7::a8::a9::a10::a11::a12::H)) F):Pre n L (St w0 D (a0::a1::a2::a3::a4::a5::a6::a7::a8::a9::a10::a11::a12::z::H)) F:=k.world _ (fun w s=>s.perm (jm (l₁:=[a0,a1,a2,a3,a4,a5,a6,a7,a8,a9,a10,a11,a12]) (l₂:=H)))
theorem ei {z a0:Ent} (k:Pre n L (St w0 D (z::a0::a1::a2::a3::a4::a5::a6::a7::a8::a9::a10::a11::a12::a13::H)) F):Pre n L (St w0 D (a0::a1::a2::a3::a4::a5::a6::a7::a8::a9::a10::a11::a12::a13::z::H)) F:=k.world _ (fun w s=>s.perm (jm (l₁:=[a0,a1,a2,a3,a4,a5,a6,a7,a8,a9,a10,a11,a12,a13]) (l₂:=H)))
theorem ek {z a0:Ent} (k:Pre n L (St w0 D (z::a0::a1::a2::a3::a4::a5::a6::a7::a8::a9::a10::a11::a12::a13::a14::H)) F):Pre n L (St w0 D (a0::a1::a2::a3::a4::a5::a6::a7::a8::a9::a10::a11::a12::a13::a14::z::H)) F:=k.world _ (fun w s=>s.perm (jm (l₁:=[a0,a1,a2,a3,a4,a5,a6,a7,a8,a9,a10,a11,a12,a13,a14]) (l₂:=H)))
theorem ZO {z a0:Ent} (k:Pre n L (St w0 D (z::a0::a1::a2::a3::a4::a5::a6::a7::a8::a9::a10::a11::a12::a13::a14::a15::H)) F):Pre n L (St w0 D (a0::a1::a2::a3::a4::a5::a6::a7::a8::a9::a10::a11::a12::a13::a14::a15::z::H)) F:=k.world _ (fun w s=>s.perm (jm (l₁:=[a0,a1,a2,a3,a4,a5,a6,a7,a8,a9,a10,a11,a12,a13,a14,a15]) (l₂:=H)))
theorem eo {z a0:Ent} (k:Pre n L (St w0 D (z::a0::a1::a2::a3::a4::a5::a6::a7::a8::a9::a10::a11::a12::a13::a14::a15::a16::H)) F):Pre n L (St w0 D (a0::a1::a2::a3::a4::a5::a6::a7::a8::a9::a10::a11::a12::a13::a14::a15::a16::z::H)) F:=k.world _ (fun w s=>s.perm (jm (l₁:=[a0,a1,a2,a3,a4,a5,a6,a7,a8,a9,a10,a11,a12,a13,a14,a15,a16]) (l₂:=H)))
theorem er {z a0:Ent} (k:Pre n L (St w0 D (z::a0::a1::a2::a3::a4::a5::a6::a7::a8::a9::a10::a11::a12::a13::a14::a15::a16::a17::H)) F):Pre n L (St w0 D (a0::a1::a2::a3::a4::a5::a6::a7::a8::a9::a10::a11::a12::a13::a14::a15::a16::a17::z::H)) F:=k.world _ (fun w s=>s.perm (jm (l₁:=[a0,a1,a2,a3,a4,a5,a6,a7,a8,a9,a10,a11,a12,a13,a14,a15,a16,a17]) (l₂:=H)))
theorem et {z a0:Ent} (k:Pre n L (St w0 D (z::a0::a1::a2::a3::a4::a5::a6::a7::a8::a9::a10::a11::a12::a13::a14::a15::a16::a17::a18::H)) F):Pre n L (St w0 D (a0::a1::a2::a3::a4::a5::a6::a7::a8::a9::a10::a11::a12::a13::a14::a15::a16::a17::a18::z::H)) F:=k.world _ (fun w s=>s.perm (jm (l₁:=[a0,a1,a2,a3,a4,a5,a6,a7,a8,a9,a10,a11,a12,a13,a14,a15,a16,a17,a18]) (l₂:=H)))
theorem eu {z a0:Ent} (k:Pre n L (St w0 D (z::a0::a1::a2::a3::a4::a5::a6::a7::a8::a9::a10::a11::a12::a13::a14::a15::a16::a17::a18::a19::H)) F):Pre n L (St w0 D (a0::a1::a2::a3::a4::a5::a6::a7::a8::a9::a10::a11::a12::a13::a14::a15::a16::a17::a18::a19::z::H)) F:=k.world _ (fun w s=>s.perm (jm (l₁:=[a0,a1,a2,a3,a4,a5,a6,a7,a8,a9,a10,a11,a12,a13,a14,a15,a16,a17,a18,a19]) (l₂:=H)))
theorem ew {z a0 a20:Ent} (k:Pre n L (St w0 D (z::a0::a1::a2::a3::a4::a5::a6::a7::a8::a9::a10::a11::a12::a13::a14::a15::a16::a17::a18::a19::a20::H)) F):Pre n L (St w0 D (a0::a1::a2::a3::a4::a5::a6::a7::a8::a9::a10::a11::a12::a13::a14::a15::a16::a17::a18::a19::a20::z::H)) F:=k.world _ (fun w s=>s.perm (jm (l₁:=[a0,a1,a2,a3,a4,a5,a6,a7,a8,a9,a10,a11,a12,a13,a14,a15,a16,a17,a18,a19,a20]) (l₂:=H)))
end
def kv0 (m:Nat):Kv m:=⟨0,List.replicate m 0,by simp,by decide,fun x h=>by rw[(ic.1 h).2]; decide⟩
theorem Uj {k:Nat} (h:k<=65536):(Lit.int .i64 (k:Int)).wf=true:=by
 simp only[Lit.wf,gQ,ia]
 exact⟨by show (-2^63:Int)<=_; omega,by show _<=(2^63-1:Int); omega⟩
theorem Gu (l:List Int):(AG .u8).flat l=l.map (.int .u8):=K5 (AG .u8) (Value.int .u8) (fun _=>rfl) l
theorem ZP (k:Kv m) {j:Nat} (h:j<m):k.c[1+j]?=some (.int .u8 (k.b.getD j 0)):=by
 rw[g8]
 have hj:j<k.b.length:=by rw[k.len]; exact h
 simp[Kv.c,ju,hj]
def kck (k:Kv 8):Bool:=decide (0<=k.n/\k.n<=8/\∀i:Nat,i<8->k.n<=(i:Int)->k.b.getD i 0=0)
theorem Uk {k:Kv 8} (h:k.n<0):kck k=false:=jo (fun x=>by omega)
theorem Ul {k:Kv 8} (h:8<k.n):kck k=false:=jo (fun x=>by omega)
theorem ZQ {k:Kv 8} {i:Nat} (h:i<8) (hn:k.n<=(i:Int)) (hb:¬k.b.getD i 0=0):kck k=false:=jo (fun q=>hb (q.2.2 i h hn))
theorem QY {k:Kv 8} {m:Nat} (hm:k.n=(m:Int)) (h8:m<=8) (hz:∀j,m<=j->j<8->k.b.getD j 0=0):kck k=true:=jq ⟨by omega,by omega,fun i h1 h2=>hz i (by omega) h1⟩
theorem AY (k:Kv m):(k.c.drop 0).take (m+1)=k.c:=fZ (by rw[fV,Kv.e6]; exact ga _)
def Sw (k:Kv 8) (n:Nat) (h:n<=8):Kv 8:=⟨n,k.b.take n++List.replicate (8-n) 0,by simp[k.len]; omega,Uj (by omega),fun x hx=>by
 rcases ib.1 hx with hx|hx
 · exact k.wb x (fF hx)
 · rw[(ic.1 hx).2]; decide⟩
theorem XD (k:Kv 8) {n:Nat} (hn:k.n=(n:Int)) (h:n<=8):decide (Sw k n h=k)=kck k:=by
 unfold kck
 rw[jF]
 have hlen:(k.b.take n++List.replicate (8-n) 0).length=8:=by simp[k.len]; omega
 constructor
 · intro e
   refine⟨by omega,by omega,fun i hi hni=>?_⟩
   have hb:k.b=k.b.take n++List.replicate (8-n) 0:=(congrArg Kv.b e).symm
   rw[hb,ju,fP (by simp; omega),hM]
   split<;>rfl
 · rintro⟨_,_,hz⟩
   have hl:k.b.take n++List.replicate (8-n) 0=k.b:=List.ext_getElem (by rw[k.len]; exact hlen) (fun i h1 h2=>by
    have hi:i<8:=by rw[<-k.len]; exact h2
    rcases fG i n with hin|hin
    · rw[List.getElem_append_left (by simp; omega),List.getElem_take]
    · rw[List.getElem_append_right (by simp; omega),List.getElem_replicate]
      have:=hz i hi (by omega)
      rw[ju,fD h2] at this
      exact this.symm)
   exact Kv.ext' hn.symm hl
def kz (m:Nat) (n:Int) (h:(Lit.int .i64 n).wf=true):Kv m:=⟨n,List.replicate m 0,by simp,h,fun x h=>by rw[(ic.1 h).2]; decide⟩
theorem cY (k:Kv 8) {n:Nat} (h:n<=8):Sep.splice (.int .i64 (n:Int)::List.replicate 8 (.int .u8 0)) 1 ((AG .u8).flat (k.b.take (min k.b.length n)))=(Sw k n h).c:=by
 have hm:min k.b.length n=n:=by rw[k.len]; omega
 have hl:(k.b.take n).length=n:=by simp[k.len]; omega
 rw[hm,Gu,Sep.splice_eq _ _ _ (by simp[k.len]; omega)]
 simp only[gS,hl,Kv.c,Sw,gL,gT]
 rw[g8 1 n,fC,List.take_zero,gU,List.drop_replicate]
 rfl
theorem ED (s:ByteArray):(byt s).length=s.size:=by unfold byt; rw[gS,ij]; rfl
def Mm (x:Int):Prop:=0<=x/\x<=255
theorem Um {s:ByteArray} (h:x∈byt s):Mm x:=by
 obtain⟨b,_,rfl⟩:=gj.1 h
 have:=b.toNat_lt
 exact⟨by omega,by omega⟩
theorem XE (h:Mm x):(Lit.int .u8 x).wf=true:=by
 simp only[Lit.wf,gQ,ia]; exact h
theorem XF (h:(Lit.int .u8 x).wf=true):Mm x:=Sep.wf_u8 h
def kmk (t:List Int) (hl:t.length<=8) (hb:∀x∈t,Mm x):Kv 8:=⟨t.length,t++List.replicate (8-t.length) 0,by simp; omega,Uj (by omega),fun x hx=>by
 rcases ib.1 hx with hx|hx
 · exact XE (hb x hx)
 · rw[(ic.1 hx).2]; decide⟩
theorem Un (t:List Int) (hl:t.length<=8) (hb:∀x∈t,Mm x):kck (kmk t hl hb)=true:=by
 refine QY (m:=t.length) I hl (fun j h1 h2=>?_)
 show (t++List.replicate (8-t.length) 0).getD j 0=0
 rw[ju,fP h1,hM]
 split<;>rfl
def kof (s:ByteArray) (h:s.size<=8):Kv 8:=kmk (byt s) (by rw[ED]; exact h) (fun x hx=>Um hx)
def tx (k:Kv 8):List Int:=if kck k then k.b.take k.n.toNat else []
theorem DJ {k:Kv 8} (h:kck k=true):∃m:Nat,k.n=(m:Int)/\m<=8/\tx k=k.b.take m/\(tx k).length=m/\k.b=tx k++List.replicate (8-m) 0:=by
 have h0:=h
 unfold kck at h
 obtain⟨h1,h2,h3⟩:=jt h
 refine⟨k.n.toNat,by omega,by omega,by unfold tx; rw[h0]; rfl,by unfold tx; rw[h0]; simp[k.len]; omega,?_⟩
 have ht:tx k=k.b.take k.n.toNat:=by unfold tx; rw[h0]; rfl
 rw[ht]
 refine List.ext_getElem (by simp[k.len]; omega) (fun i g1 g2=>?_)
 have hi:i<8:=by rw[<-k.len]; exact g1
 rcases fG i k.n.toNat with hin|hin
 · rw[List.getElem_append_left (by simp; omega),List.getElem_take]
 · rw[List.getElem_append_right (by simp; omega),List.getElem_replicate]
   have:=h3 i hi (by omega)
   rw[ju,fD g1] at this
   exact this
theorem QZ {k:Kv 8} (h:x∈tx k):Mm x:=by
 unfold tx at h
 split at h
 · exact XF (k.wb x (fF h))
 · cases h
theorem XG {a b:Kv 8} (ha:kck a=true) (hb:kck b=true) (h:tx a=tx b):a=b:=by
 obtain⟨m,h1,_,_,h2,h3⟩:=DJ ha
 obtain⟨k,g1,_,_,g2,g3⟩:=DJ hb
 have e:m=k:=by rw[<-h2,<-g2,h]
 subst e
 exact Kv.ext' (by rw[h1,g1]) (by rw[h3,g3,h])
def Df:List Int->List Int->Int
 |[],[]=>0
 |[],_::_=>-1
 |_::_,[]=>1
 |x::xs,y::ys=>if x<y then -1 else if y<x then 1 else Df xs ys
theorem Q0:∀(l m:List Int),(∀x∈l,Mm x)->(∀x∈m,Mm x)->Lib.compareBytes (l.map fun n=>UInt8.ofNat n.toNat) (m.map fun n=>UInt8.ofNat n.toNat)=Df l m
 |[],[],_,_=>rfl
 |[],_::_,_,_=>rfl
 |_::_,[],_,_=>rfl
 |x::xs,y::ys,hx,hy=>by
  have h1:=hx x (iG ..)
  have h2:=hy y (iG ..)
  unfold Mm at h1 h2
  have hlt:∀{a b:Int},0<=a->a<=255->0<=b->b<=255->((UInt8.ofNat a.toNat<UInt8.ofNat b.toNat)↔a<b):=fun {a b} h1 h2 h3 h4=>by
   have e:∀n:Nat,(UInt8.ofNat n).toNat=n%256:=fun n=>by simp
   rw[UInt8.lt_iff_toNat_lt,e,e]
   omega
  have e1:=hlt h1.1 h1.2 h2.1 h2.2
  have e2:=hlt h2.1 h2.2 h1.1 h1.2
  simp only[gB,Lib.compareBytes,Df,e1,e2]
  rw[Q0 xs ys (fun z hz=>hx z (iR _ hz)) (fun z hz=>hy z (iR _ hz))]
theorem Nz:∀l:List Int,Df l l=0
 |[]=>rfl
 |x::l=>by simp[Df,Nz l]
theorem Mn:∀l m:List Int,Df m l = -Df l m
 |[],[]=>rfl
 |[],_::_=>rfl
 |_::_,[]=>rfl
 |x::xs,y::ys=>by
  simp only[Df]
  by_cases h1:x<y
  · have:¬y<x:=by omega
    simp[h1,this]
  · by_cases h2:y<x
    · simp[h1,h2]
    · simp[h1,h2,Mn xs ys]
theorem Hu:∀{l m:List Int},Df l m=0->l=m
 |[],[],_=>rfl
 |[],_::_,h=>by cases h
 |_::_,[],h=>by cases h
 |x::xs,y::ys,h=>by
  simp only[Df] at h
  split at h
  · cases h
  · split at h
    · cases h
    · rw[Hu h,show x=y by omega]
theorem Sx:∀l m:List Int,Df l m = -1\/Df l m=0\/Df l m=1
 |[],[]=>.inr (.inl rfl)
 |[],_::_=>.inl rfl
 |_::_,[]=>.inr (.inr rfl)
 |x::xs,y::ys=>by
  simp only[Df]
  split
  · exact .inl I
  · split
    · exact .inr (.inr I)
    · exact Sx xs ys
theorem Le:∀{a b c:List Int},Df a b<=0->Df b c<=0->Df a c<=0
 |[],_,[],_,_=>by simp[Df]
 |[],_,_::_,_,_=>by simp[Df]
 |_::_,[],_,h,_=>by simp[Df] at h
 |_::_,_::_,[],_,h=>by simp[Df] at h
 |x::xs,y::ys,z::zs,h1,h2=>by
  simp only[Df] at h1 h2 ⊢
  by_cases a1:x<y
  · by_cases b1:y<z
    · simp[show x<z by omega]
    · by_cases b2:z<y
      · simp[b1,b2] at h2
      · simp[show x<z by omega]
  · by_cases a2:y<x
    · simp[a1,a2] at h1
    · by_cases b1:y<z
      · simp[show x<z by omega]
      · by_cases b2:z<y
        · simp[b1,b2] at h2
        · simp[a1,a2] at h1
          simp[b1,b2] at h2
          simp[show ¬x<z by omega,show ¬z<x by omega]
          exact Le h1 h2
theorem G7 {a b c:List Int} (h1:Df a b<0) (h2:Df b c<=0):Df a c<0:=by
 have:=Le (gJ h1) h2
 rcases Int.lt_or_eq_of_le this with h|h
 · exact h
 · have e:=Hu h
   subst e
   have:=Mn a b
   omega
def BC (a b:Kv 8):Int:=Df (tx a) (tx b)
theorem Sy (n:Int):(DY n).take 8=le n 8:=by
 unfold DY pad
 rw[jg (by rw[B1]; exact ga _)]
 exact fZ (by rw[B1]; exact ga _)
theorem XH (n:Int):∀b∈DY n,(Lit.int .u8 b).wf=true:=Pb 16 (fun b hb=>wf_u8 (QF 8 n b hb).1 (QF 8 n b hb).2)
theorem NA (n:Int):C0 8 (DY n)=true:=by
 have:=Jw 8 (DY n) (by decide)
 rw[show ((8:Nat):Int)=8 from rfl] at this
 rw[this,Sy]; simp[DY]
theorem XI (a:Int):0<=IntKind.u64.wrap a/\IntKind.u64.wrap a<18446744073709551616:=by simp only[fw]; omega
theorem Q1 {a:Int} (h0:0<=a) (h1:a<18446744073709551616):IntKind.u64.wrap a=a:=by simp only[fw]; omega
def vck (k:Kv 16):Bool:=C0 k.n k.b
def Lg (z:Int):Kv 16:=⟨8,DY z,Ef z,by decide,XH z⟩
def DK (k:Kv 16) (z:Int):Kv 16:=Lg (IntKind.u64.wrap (num (k.b.take 8)+z))
structure Ms where
 kind:Int
 seq:Int
 key:Kv 8
 val:Kv 16
 by':Int
 wk:(Lit.int .i64 kind).wf=true
 ws:(Lit.int .u64 seq).wf=true
 wy:(Lit.int .u64 by').wf=true
namespace Ms
def c (m:Ms):List Value:=[.int .i64 m.kind,.int .u64 m.seq]++(m.key.c++(m.val.c++[.int .u64 m.by']))
theorem ext' {a b:Ms} (h1:a.kind=b.kind) (h2:a.seq=b.seq) (h3:a.key=b.key) (h4:a.val=b.val) (h5:a.by'=b.by'):a=b:=by
 cases a; cases b; simp only at h1 h2 h3 h4 h5; subst h1; subst h2; subst h3; subst h4; subst h5; rfl
instance:DecidableEq Ms:=fun a b=>if h:a.kind=b.kind/\a.seq=b.seq/\a.key=b.key/\a.val=b.val/\a.by'=b.by' then isTrue (ext' h.1 h.2.1 h.2.2.1 h.2.2.2.1 h.2.2.2.2) else isFalse (fun e=>h (by subst e; exact⟨rfl,rfl,rfl,rfl,rfl⟩))
theorem e6 (m:Ms):m.c.length=29:=by simp[c,Kv.e6]
theorem fk (m:Ms):(m.c.drop 2).take 9=m.key.c:=Nr rfl (Kv.e6 _)
theorem val_part (m:Ms):(m.c.drop 11).take 17=m.val.c:=by
 unfold c; rw[<-gK]; exact Nr (by simp[Kv.e6]) (Kv.e6 _)
theorem by_part (m:Ms):m.c[28]?=some (.int .u64 m.by'):=by
 unfold c; rw[<-gK,<-gK,fP (by simp[Kv.e6])]; simp[Kv.e6]
theorem valn_part (m:Ms):m.c[11]?=some (.int .i64 m.val.n):=by
 unfold c; rw[<-gK,fP (by simp[Kv.e6])]; simp[Kv.c,m.key.len]
def setKind (m:Ms) (k:Int) (h:(Lit.int .i64 k).wf=true):Ms:={m with kind:=k,wk:=h}
def setKey (m:Ms) (k:Kv 8):Ms:={m with key:=k}
def setVal (m:Ms) (v:Kv 16):Ms:={m with val:=v}
def setBy (m:Ms) (z:Int) (h:(Lit.int .u64 z).wf=true):Ms:={m with by':=z,wy:=h}
theorem set_kind (m:Ms) (k:Int) (h:(Lit.int .i64 k).wf=true):m.c.set 0 (.int .i64 k)=(m.setKind k h).c:=rfl
theorem set_val (m:Ms) (v:Kv 16):Sep.splice m.c 11 v.c=(m.setVal v).c:=by
 unfold c; rw[<-gK]
 rw[splice_mid (by simp[Kv.e6]) (by rw[Kv.e6,Kv.e6]),gK]; rfl
theorem set_by (m:Ms) (z:Int) (h:(Lit.int .u64 z).wf=true):m.c.set 28 (.int .u64 z)=(m.setBy z h).c:=by
 unfold c; rw[<-gK,<-gK,iq _ _ (by simp[Kv.e6])]
 simp[Kv.e6,setBy]
theorem one (m:Ms):∀v∈m.c,v.oneCell'=true:=by
 intro v hv
 unfold c at hv
 simp only[ib,fq,iH,iI] at hv
 rcases hv with (rfl|rfl)|hv|hv|rfl
 · rfl
 · rfl
 · exact Kv.one _ v hv
 · exact Kv.one _ v hv
 · rfl
theorem c_inj {a b:Ms}:a.c=b.c↔a=b:=by
 refine⟨fun h=>?_,fun h=>by rw[h]⟩
 have h2:=h
 unfold c at h
 simp only[fu,gO,List.cons.injEq,Value.int.injEq,true_and] at h
 have hk:a.key.c=b.key.c:=by rw[<-fk,<-fk,h2]
 have hv:a.val.c=b.val.c:=by rw[<-val_part,<-val_part,h2]
 have hb:a.c[28]?=b.c[28]?:=by rw[h2]
 rw[by_part,by_part] at hb
 exact ext' h.1 h.2.1 (Kv.c_inj.1 hk) (Kv.c_inj.1 hv) (by simpa using hb)
theorem eqb {a b:Ms}:a.c=b.c↔decide (a=b)=true:=by rw[c_inj,ia]
def enc:Enc Ms:={sz:=29,f:=Ms.c,len:=e6,pos:=by decide,one:=one}
def ks:List Sc:=[Sc.i .i64,Sc.i .u64]++(Kv.ks 8++(Kv.ks 16++[Sc.i .u64]))
end Ms
theorem EH {a b:List Sc} {xs ys:List Value} (h1:Kinds a xs) (h2:Kinds b ys):Kinds (a++b) (xs++ys):=by
 refine⟨by rw[fL,fL,h1.1,h2.1],fun j q v g1 g2=>?_⟩
 rcases fG j a.length with hj|hj
 · rw[fM hj] at g1
   rw[fM (by have:=h1.1; omega)] at g2
   exact h1.2 j q v g1 g2
 · rw[fP hj] at g1
   rw[fP (by have:=h1.1; omega),h1.1] at g2
   exact h2.2 _ q v g1 (by have:=h1.1; first|exact g2|(rw[this] at *; exact g2))
theorem Ij {k:Sc} {v:Value} (h:k.ok v):Kinds [k] [v]:=⟨rfl,fun j q u g1 g2=>by
 cases j with
 |zero=>simp at g1 g2; subst g1; subst g2; exact h
 |succ j=>simp at g1⟩
theorem Ms.kinds (m:Ms):Kinds Ms.ks m.c:=by
 have h0:Kinds [Sc.i .i64,Sc.i .u64] [Value.int .i64 m.kind,Value.int .u64 m.seq]:=EH (a:=[_]) (xs:=[_]) (Ij (show Sc.ok (.i .i64) _ from⟨_,rfl,m.wk⟩)) (Ij (show Sc.ok (.i .u64) _ from⟨_,rfl,m.ws⟩))
 exact EH h0 (EH (Kv.kinds m.key) (EH (Kv.kinds m.val) (Ij (show Sc.ok (.i .u64) _ from⟨_,rfl,m.wy⟩))))
section
variable {n:Nat} {L:Env} {X:World->Prop} {o:Oper}
theorem Q2 {x:Operand} (k j:Kv 8) (ho:o.op=.binOp .eql 77 x y u) (hx:ev L x=some (.agg k.c.toArray)) (hy:ev L y=some (.agg j.c.toArray)):QOp prog n L X o (.bool (decide (k=j))) :=
 Jh (d:=3) (ks:=Kv.ks 8) _ (by kernel_rfl) (by kernel_rfl) (by decide) (by kernel_rfl) (by kernel_rfl) (by kernel_rfl) ho hx hy (Kv.kinds k) (Kv.kinds j) Kv.eqb
theorem cZ {x:Operand} (k j:Kv 8) (ho:o.op=.binOp .neq 77 x y u) (hx:ev L x=some (.agg k.c.toArray)) (hy:ev L y=some (.agg j.c.toArray)):QOp prog n L X o (.bool (!decide (k=j))) :=
 Mh (d:=3) (ks:=Kv.ks 8) _ (by kernel_rfl) (by kernel_rfl) (by decide) (by kernel_rfl) (by kernel_rfl) (by kernel_rfl) ho hx hy (Kv.kinds k) (Kv.kinds j) Kv.eqb
theorem JO {x:Operand} (k j:Kv 16) (ho:o.op=.binOp .eql 56 x y u) (hx:ev L x=some (.agg k.c.toArray)) (hy:ev L y=some (.agg j.c.toArray)):QOp prog n L X o (.bool (decide (k=j))) :=
 Jh (d:=3) (ks:=Kv.ks 16) _ (by kernel_rfl) (by kernel_rfl) (by decide) (by kernel_rfl) (by kernel_rfl) (by kernel_rfl) ho hx hy (Kv.kinds k) (Kv.kinds j) Kv.eqb
end
def mck (m:Ms):Bool:=kck m.key&&(if m.kind=1 then vck m.val&&decide (m.by'=0) else if m.kind=2 then decide (m.by'=0)&&decide (m.val=kv0 16) else if m.kind=3 then decide (m.val=kv0 16) else false)
theorem Bm (m:Ms):(m.c.drop 0).take 29=m.c:=fZ (by rw[fV,Ms.e6]; exact ga _)
theorem Ik {k:Kv 8} (h:kck k=true):0<=k.n/\k.n<=8:=by
 unfold kck at h; have:=jt h; exact⟨this.1,this.2.1⟩
theorem Il {k:Kv 16} (h:vck k=true):0<=k.n/\k.n<=16:=by
 unfold vck C0 at h; have:=jt h; exact⟨this.1,this.2.1⟩
def ms0:Ms:=⟨0,0,kv0 8,kv0 16,0,by decide,by decide,by decide⟩
def mby (m:Ms):Int:=if mck m=true then 10+m.key.n+(if m.kind=1 then 1+m.val.n else if m.kind=3 then 8 else 0) else 0
theorem Q3 {m:Ms} (h:mck m=true):0<=m.key.n/\m.key.n<=8:=by
 unfold mck at h; rw[gQ] at h; exact Ik h.1
theorem Q4 {m:Ms} (h:mck m=true) (hk:m.kind=1):0<=m.val.n/\m.val.n<=16:=by
 unfold mck at h; rw[gQ,fO hk,gQ] at h; exact Il h.2.1
theorem Hv (z:Int):(Lit.int .u64 (IntKind.u64.wrap z)).wf=true:=by
 have:=XI z
 simp only[Lit.wf,gQ,ia]
 exact⟨this.1,by show _<=(2^64-1:Int); omega⟩
theorem Pu {z:Int} (h:(Lit.int .u64 z).wf=true):0<=z/\z<18446744073709551616:=by have:=Sep.wf_u64 h; omega
def mco (a b:Ms):Ms:=if b.kind≠3\/a.key≠b.key then b else if a.kind=2 then {b with kind:=1,val:=DK (kv0 16) b.by',by':=0,wk:=by decide,wy:=by decide} else
 if a.kind=1 then {b with kind:=1,val:=DK a.val b.by',by':=0,wk:=by decide,wy:=by decide} else if a.kind=3 then {b with by':=IntKind.u64.wrap (b.by'+a.by'),wy:=Hv _} else b
def D6 (v:Kv 16) (t:Bool) (m:Ms):Kv 16×Bool:=if m.kind=1 then (m.val,true) else if m.kind=3 then (DK (if t=true then v else kv0 16) m.by',true) else (kv0 16,false)
def rap (v:Kv 16) (t:Bool) (m:Ms):Kv 16×Bool:=if m.kind=1 then (m.val,true) else if m.kind=2 then (kv0 16,false) else if t=true then (DK v m.by',true) else (Lg m.by',true)
theorem c3 {z:Int} (h:(Lit.int .u64 z).wf=true):DK (kv0 16) z=Lg z:=by
 have:=Pu h
 unfold DK
 rw[show num ((kv0 16).b.take 8)=0 from by decide,Int.zero_add,Q1 this.1 this.2]
theorem F3 (k:Kv 8):∃a b c d e f g h:Int,k.b=[a,b,c,d,e,f,g,h]:=by
 obtain⟨n,b,len,_,_⟩:=k
 match b,len with
 |[a,b,c,d,e,f,g,h],_=>exact⟨a,b,c,d,e,f,g,h,rfl⟩
def Cp {α:Type} (p:α->Bool) (l:List α):Option Nat:=l.findIdx? p
def io:Option Nat->Int
 |some k=>(k:Int)
 |none=>-1
theorem C2 {p:α->Bool} {l:List α} {k:Nat} {y:α} (hy:l[k]?=some y) (hp:p y=true) (hn:∀z∈l.take k,p z=false):Cp p l=some k:=by
 unfold Cp
 have hk:=(gl.1 hy).1
 rw[List.findIdx?_eq_some_iff_getElem]
 refine⟨hk,by rw[(gl.1 hy).2]; exact hp,fun j hj=>?_⟩
 have:=hn l[j] (by rw[List.mem_take_iff_getElem]; exact⟨j,by omega,rfl⟩)
 simp[this]
theorem C3 {p:α->Bool} {l:List α} (hn:∀z∈l,p z=false):Cp p l=none:=by
 unfold Cp; rw[List.findIdx?_eq_none_iff]; exact hn
theorem C6 {p:α->Bool} {l:List α} {k:Nat} (h:Cp p l=some k):∃y,l[k]?=some y/\p y=true/\∀j z,j<k->l[j]?=some z->p z=false:=by
 unfold Cp at h
 rw[List.findIdx?_eq_some_iff_getElem] at h
 obtain⟨hk,hp,hn⟩:=h
 refine⟨l[k],fD hk,hp,fun j z hj hz=>?_⟩
 have:=hn j hj
 rw[<-(gl.1 hz).2]; simpa using this
theorem Ji {p:α->Bool} {l:List α} (h:Cp p l=none):∀z∈l,p z=false:=by
 unfold Cp at h; rw[List.findIdx?_eq_none_iff] at h; exact h
theorem NB {β:Type} (f:α->β) (p:β->Bool) (l:List α):Cp p (l.map f)=Cp (fun x=>p (f x)) l:=by
 unfold Cp; rw[List.findIdx?_map]; rfl
theorem EI {p:α->Bool} {l:List α} {k:Nat} {y:α} (h:∀z∈l.take k,p z=false) (hy:l[k]?=some y) (hn:p y=false):∀z∈l.take (k+1),p z=false:=fun z hz=>by
 rw[jd,hy] at hz
 rcases ib.1 hz with hz|hz
 · exact h z hz
 · simp at hz; subst hz; exact hn
theorem NC {o:Option Nat}:decide (0<=io o)=o.isSome:=by cases o with
 |none=>rfl
 |some k=>exact jq (by simp[io])
structure Sv where
 a:Option Addr
 n:Nat
 c:Nat
abbrev Sv.v (s:Sv):Value:=.slice s.a s.n s.c
def sv0:Sv:=⟨none,0,0⟩
structure En where
 key:Kv 8
 val:Kv 16
namespace En
def c (e:En):List Value:=e.key.c++e.val.c
theorem e6 (e:En):e.c.length=26:=by simp[c,Kv.e6]
theorem one (e:En):∀v∈e.c,v.oneCell'=true:=fun v hv=>by
 rcases ib.1 hv with hv|hv
 · exact Kv.one _ _ hv
 · exact Kv.one _ _ hv
theorem ext' {a b:En} (h1:a.key=b.key) (h2:a.val=b.val):a=b:=by cases a; cases b; simp only at h1 h2; subst h1; subst h2; rfl
theorem c_inj {a b:En}:a.c=b.c↔a=b:=by
 refine⟨fun h=>?_,fun h=>by rw[h]⟩
 obtain⟨h1,h2⟩:=List.append_inj h (by rw[Kv.e6,Kv.e6])
 exact ext' (Kv.c_inj.1 h1) (Kv.c_inj.1 h2)
def ks:List Sc:=Kv.ks 8++Kv.ks 16
theorem kinds (e:En):Kinds ks e.c:=EH (Kv.kinds _) (Kv.kinds _)
theorem fk (e:En):(e.c.drop 0).take 9=e.key.c:=List.take_left' (Kv.e6 _)
theorem val_part (e:En):(e.c.drop 9).take 17=e.val.c:=by
 unfold c
 rw[List.drop_left' (Kv.e6 _)]
 exact fZ (by rw[Kv.e6]; exact ga _)
theorem whole (e:En):(e.c.drop 0).take 26=e.c:=fZ (by rw[fV,e6]; exact ga _)
def enc:Enc En:={sz:=26,f:=En.c,len:=e6,pos:=by decide,one:=one}
end En
instance:DecidableEq En:=fun a b=>if h:a.key=b.key/\a.val=b.val then isTrue (En.ext' h.1 h.2) else isFalse (fun e=>h (by subst e; exact⟨rfl,rfl⟩))
structure Nd where
 leaf:Bool
 es:List En
 kids:List Int
 piv:List (Kv 8)
 msgs:List Ms
deriving DecidableEq
def nd0:Nd:=⟨false,[],[],[],[]⟩
def ndL:Nd:=⟨true,[],[],[],[]⟩
structure Nd.Sm (n:Nd) (B:Nat):Prop where
 e:n.es.length<=B
 k:n.kids.length<=B
 p:n.piv.length<=B
 m:n.msgs.length<=B
theorem Nd.Sm.mono {n:Nd} {B C:Nat} (h:n.Sm B) (hc:B<=C):n.Sm C:=⟨gF h.e hc,gF h.k hc,gF h.p hc,gF h.m hc⟩
theorem Mp (B:Nat):nd0.Sm B:=⟨gb _,gb _,gb _,gb _⟩
theorem JP (B:Nat):ndL.Sm B:=⟨gb _,gb _,gb _,gb _⟩
structure N4 where
 e:Sv
 k:Sv
 p:Sv
 m:Sv
def n40:N4:=⟨sv0,sv0,sv0,sv0⟩
structure NV where
 s:N4
 d:Nd
abbrev Cg:Value:=.slice none 0 0
def NV.c (v:NV):List Value:=[.bool v.d.leaf,v.s.e.v,v.s.k.v,v.s.p.v,v.s.m.v]
def nv0:NV:=⟨n40,nd0⟩
def nvL:NV:=⟨n40,ndL⟩
theorem NV.e6 (v:NV):v.c.length=5:=rfl
theorem NV.one (v:NV):∀x∈v.c,x.oneCell'=true:=fun x hx=>by
 simp only[NV.c,fq,iH,iI] at hx
 rcases hx with rfl|rfl|rfl|rfl|rfl<;>rfl
abbrev Bp (s:Sv) (l:List En):Ent:=Az s.v 79 En.enc l
abbrev CG (s:Sv) (l:List Int):Ent:=Az s.v 3 (AG .i64) l
abbrev CH (s:Sv) (l:List (Kv 8)):Ent:=Az s.v 77 (Kv.enc 8) l
abbrev EN (s:Sv) (l:List Ms):Ent:=Az s.v 154 Ms.enc l
abbrev Bz (v:NV):List Ent:=[Bp v.s.e v.d.es,CG v.s.k v.d.kids,CH v.s.p v.d.piv,EN v.s.m v.d.msgs]
structure NRd (w:World) (v:NV):Prop where
 e:RdV w v.s.e.v En.enc v.d.es
 k:RdV w v.s.k.v (AG .i64) v.d.kids
 p:RdV w v.s.p.v (Kv.enc 8) v.d.piv
 m:RdV w v.s.m.v Ms.enc v.d.msgs
theorem NRd.keep {w0:World} {v:NV} {H:List Ent} (h:NRd w0 v) (s:St w0 [] H w):NRd w v:=⟨h.e.keep s (by simp),h.k.keep s (by simp),h.p.keep s (by simp),h.m.keep s (by simp)⟩
theorem NRd.drew {v:NV} (h:NRd w v):NRd w.drew v:=⟨h.e.drew,h.k.drew,h.p.drew,h.m.drew⟩
structure FC where
 st:Int
 blk:Int
 own:Int
 pins:Int
 ref:Bool
 dirty:Bool
 nv:NV
namespace FC
def c (f:FC):List Value:=[.int .i64 f.st,.int .i64 f.blk,.int .i64 f.own,.int .i64 f.pins,.bool f.ref,.bool f.dirty,.bool f.nv.d.leaf,f.nv.s.e.v,f.nv.s.k.v,f.nv.s.p.v,f.nv.s.m.v]
def cA (f:FC):List Value:=[.int .i64 f.st,.int .i64 f.blk,.int .i64 f.pins,.bool f.ref,.bool f.dirty,.bool f.nv.d.leaf,f.nv.s.e.v,f.nv.s.k.v,f.nv.s.p.v,f.nv.s.m.v,Cg,.int .i64 (-1),Cg]
theorem one (f:FC):∀x∈f.c,x.oneCell'=true:=fun x hx=>by
 simp only[c,fq,iH,iI] at hx
 rcases hx with rfl|rfl|rfl|rfl|rfl|rfl|rfl|rfl|rfl|rfl|rfl<;>rfl
theorem oneA (f:FC):∀x∈f.cA,x.oneCell'=true:=fun x hx=>by
 simp only[cA,fq,iH,iI] at hx
 rcases hx with rfl|rfl|rfl|rfl|rfl|rfl|rfl|rfl|rfl|rfl|rfl|rfl|rfl<;>rfl
def enc:Enc FC:=⟨11,c,fun _=>rfl,one,by decide⟩
def encA:Enc FC:=⟨13,cA,fun _=>rfl,oneA,by decide⟩
end FC
structure Wn where
 t:Int
 b:Int
 cl:Bool
namespace Wn
def c (w:Wn):List Value:=[.int .i64 w.t,.int .i64 w.b,.bool w.cl]
theorem one (w:Wn):∀x∈w.c,x.oneCell'=true:=fun x hx=>by
 simp only[c,fq,iH,iI] at hx
 rcases hx with rfl|rfl|rfl<;>rfl
def enc:Enc Wn:=⟨3,c,fun _=>rfl,one,by decide⟩
theorem ext' {a b:Wn} (h1:a.t=b.t) (h2:a.b=b.b) (h3:a.cl=b.cl):a=b:=by cases a; cases b; simp only at h1 h2 h3; subst h1; subst h2; subst h3; rfl
end Wn
instance:DecidableEq Wn:=fun a b=>if h:a.t=b.t/\a.b=b.b/\a.cl=b.cl then isTrue (Wn.ext' h.1 h.2.1 h.2.2) else isFalse (fun e=>h (by subst e; exact⟨rfl,rfl,rfl⟩))
structure Vw where
 st:Int
 blk:Int
 own:Int
 pins:Int
 ref:Bool
 dirty:Bool
 nd:Nd
def vw (f:FC):Vw:=⟨f.st,f.blk,if f.st=3 then f.own else 0,f.pins,f.ref,f.dirty,f.nv.d⟩
structure Mo where
 fr:List Vw
 loads:List (Int×Int)
 line:List (Int×Int)
 hand:Int
def isB (b:Int) (f:Vw):Bool:=decide (f.blk=b)&&(decide (f.st=1)||decide (f.st=2))
def isF (f:Vw):Bool:=decide (f.st=0)
def isC (t:Int) (f:Vw):Bool:=decide (f.st=3)&&decide (f.own=t)
def isT (t:Int) (q:Int×Int):Bool:=decide (q.1=t)
def tkB (t:Int):Bool:=decide (0<=t)&&decide (t<8)
def bkB (b:Int):Bool:=decide (0<=b)&&decide (b<256)
def BG:Vw:=⟨0,-1,0,0,false,false,nd0⟩
namespace Mo
def find (M:Mo) (b:Int):Option Nat:=Cp (isB b) M.fr
def freeI (M:Mo):Option Nat:=Cp isF M.fr
def stand (M:Mo) (t:Int):Option Nat:=Cp (isT t) M.line
def waits (M:Mo) (t:Int):Bool:=M.loads.any (isT t)
def turn (M:Mo) (t:Int):Bool:=match M.line with|[]=>true|q::_=>decide (q.1=t)
def takes (M:Mo) (t:Int):Option Nat:=if M.turn t=true then M.freeI else none
def leave (M:Mo) (t:Int):Mo:={M with line:=match M.stand t with|some i=>M.line.eraseIdx i|none=>M.line}
def ask (M:Mo) (t b:Int):Mo:={M with line:=if (M.stand t).isNone=true then M.line++[(t,b)] else M.line}
def mayW (M:Mo) (t b:Int):Bool:=tkB t&&!M.waits t&&(match M.stand t with|some i=>decide (M.line[i]?=some (t,b))|none=>true)
def put (M:Mo) (i:Nat) (f:Vw):Mo:={M with fr:=M.fr.set i f}
def at' (M:Mo) (i:Nat):Vw:=M.fr.getD i BG
def pin (M:Mo) (t b:Int):Int×Mo :=
 if (bkB b&&M.mayW t b)=false then (0,M)
 else match M.find b with
  |some i =>
   let N:=(M.put i {M.at' i with pins:=(M.at' i).pins+1,ref:=true}).leave t
   if (M.at' i).st=2 then (1,N) else (2,{N with loads:=N.loads++[(t,b)]})
  |none=>match M.takes t with
   |none=>(4,M.ask t b)
   |some k=>(3,(M.leave t).put k ⟨1,b,0,1,true,false,nd0⟩)
def frI (M:Mo) (b st:Int):Option Nat:=match M.find b with|some i=>if (M.at' i).st=st then some i else none|none=>none
def told (M:Mo) (b:Int):List Int:=(M.loads.filter (fun q=>decide (q.2=b))).map Prod.fst
def fill (M:Mo) (b:Int) (nd:Nd):(List Int×Bool)×Mo :=
 match M.frI b 1 with
 |some i=>((M.told b,true),{M.put i {M.at' i with st:=2,nd:=nd} with loads:=M.loads.filter (fun q=>!decide (q.2=b))})
 |none=>(([],false),M)
def claim (M:Mo) (t:Int):Bool×Mo :=
 if M.mayW t (-1)=false then (false,M)
 else match M.takes t with
  |none=>(false,M.ask t (-1))
  |some k=>(true,(M.leave t).put k ⟨3,-1,t,1,false,false,nd0⟩)
def claims (M:Mo) (t:Int):Nat:=M.fr.countP (isC t)
def give (M:Mo) (t:Int):Mo:={M with fr:=M.fr.map (fun f=>if isC t f=true then BG else f)}
def name (M:Mo) (t b:Int) (nd:Nd):Bool×Mo :=
 match (bkB b&&(M.find b).isNone),Cp (isC t) M.fr with
 |true,some k=>(true,M.put k ⟨2,b,0,0,true,true,nd⟩)
 |_,_=>(false,M)
abbrev ready (M:Mo) (b:Int):Option Nat:=M.frI b 2
def unpin (M:Mo) (b:Int):Bool×Mo :=
 match M.ready b with
 |some i=>if (M.at' i).pins=0 then (false,M) else (true,M.put i {M.at' i with pins:=(M.at' i).pins-1})
 |none=>(false,M)
def node (M:Mo) (b:Int):Nd×Bool:=match M.ready b with|some i=>((M.at' i).nd,true)|none=>(nd0,false)
def setN (M:Mo) (b:Int) (nd:Nd):Bool×Mo :=
 match M.ready b with
 |some i=>(true,M.put i {M.at' i with dirty:=true,nd:=nd})
 |none=>(false,M)
def free (M:Mo):Nat:=M.fr.countP isF
def may (M:Mo) (t:Int):Bool :=
 tkB t&&!M.waits t&&(match M.stand t with
  |none=>true
  |some k=>(decide (k=0)&&decide (0<M.free))||(M.find (M.line.getD k (0,-1)).2).isSome)
end Mo
structure Mo.Ok (M:Mo) (B:Nat):Prop where
 n1:1<=M.fr.length
 n64:M.fr.length<=64
 st:∀f∈M.fr,f.st=0\/f.st=1\/f.st=2\/f.st=3
 none':∀f∈M.fr,f.st=0\/f.st=3->f.blk = -1
 blk:∀f∈M.fr,f.st=1\/f.st=2->0<=f.blk/\f.blk<256
 own:∀f∈M.fr,f.st=3->0<=f.own/\f.own<8
 own0:∀f∈M.fr,f.st≠3->f.own=0
 pins:∀f∈M.fr,0<=f.pins/\f.pins<=(B:Int)
 uni:∀(i j:Nat) (f g:Vw),M.fr[i]?=some f->M.fr[j]?=some g->f.st=1\/f.st=2->g.st=1\/g.st=2->f.blk=g.blk->i=j
 ll:M.loads.length<=B
 lB:M.line.length<=B
 ln:(M.line.map Prod.fst).Nodup
 lb:∀q∈M.line,-1<=q.2/\q.2<256
 lo:∀q∈M.loads,∃f∈M.fr,f.st=1/\f.blk=q.2
 es:∀f∈M.fr,f.nd.Sm 1000
 hw:(Lit.int .i64 M.hand).wf=true
 B9:B<=60000
end Go.Proofs.YtloldofjddbjoaaGreat
namespace Go.Proofs.YtloldofjddbjoaaGreat
open Go.Sep Go.RowKit Tryz
variable {n m:Int} {l:List Int} {va:Value} {α:Type} {w:World} {x y:Operand}
abbrev kc (n:Int) (l:List Int):List Value:=.int .i64 n::l.map (.int .u8)
theorem Im (h:l.length=8):(kc n l).length=9:=by simp[h]
theorem F4 (h:l.length=8) {j:Nat} (hj:j<8):(kc n l)[0+1+j*1]?=some (.int .u8 (l.getD j 0)):=by
 rw[show 0+1+j*1=j+1 from by omega]
 have:j<l.length:=by omega
 simp[ju,this]
theorem ZR {j:Nat} (x:Int):(kc n l).set (0+1+j*1) (.int .u8 x)=kc n (l.set j x):=by
 rw[show 0+1+j*1=j+1 from by omega]
 simp[il]
theorem c4:(kc n l).set 0 (.int .i64 m)=kc m l:=rfl
theorem Mq:∀v∈kc n l,v.oneCell'=true:=by
 intro v hv
 rcases fq.1 hv with rfl|hv
 · rfl
 · obtain⟨z,_,rfl⟩:=gj.1 hv; rfl
theorem Uo {k:List Int} (h:l.length=8) (h':k.length=8):Sep.splice (kc n l) 0 (kc m k)=kc m k:=Sep.e7 (by rw[Im h,Im h'])
abbrev z8:List Int:=List.replicate 8 0
theorem F5:z8.length=8:=rfl
theorem XJ {m:Nat} (h:m<=l.length):((kc n l).drop (0+1)).take (m*(AG .u8).sz)=(AG .u8).flat (l.take m):=by
 rw[Gu]
 show ((l.map (Value.int .u8))).take (m*1)=_
 rw[jv,List.map_take]
theorem ZS (h:l.length<=8):Sep.splice (kc n z8) (0+1) (l.map (.int .u8))=kc n (l++List.replicate (8-l.length) 0):=by
 have hz:z8=List.replicate l.length 0++List.replicate (8-l.length) 0:=by
  show List.replicate 8 0=_
  rw[jG,show l.length+(8-l.length)=8 from by omega]
 have e:kc n z8=[Value.int .i64 n]++(List.replicate l.length (Value.int .u8 0)++List.replicate (8-l.length) (Value.int .u8 0)):=by
  rw[kc,hz]; simp[gL,gT]
 have hs:=splice_mid (a:=[Value.int .i64 n]) (b:=List.replicate l.length (Value.int .u8 0)) (c:=List.replicate (8-l.length) (Value.int .u8 0)) (vs:=l.map (Value.int .u8)) (k:=0+1) rfl (by simp)
 rw[e,hs]
 simp[kc,gL,gT]
theorem E5 (k:Kv 8):Con prog 279 [.agg k.c.toArray] (fun _=>True) [] (fun _:Unit=>.bool (kck k)) (fun _=>True) (fun _=>[]):=by
 intro w hE hH
 refine E0 func279 I hH ?_
 refine Cs I (l_e I (AQ I I I I (fun bk=>Ce k.c I (Ak I (Ag (Cs I (Lfa U77 I Z3 I (Lo G3 0 I (Lq I (Ql I) (Lm I ?_))))))))))
 refine CB 7 I (fun h1=>?_) (fun h1=>?_)
 · rw[Uk h1]
   refine Lx I (Lx I (Lx I (Lq I (Qy I) (Nk (Ai I (Cs I (Ak I (Af (Aa (An I I ?_))))))))))
   exact fun _ h=>⟨(),rfl,trivial,h.e8⟩
 · refine Lfa U77 I Z3 I (Lo G3 0 I (Lq I (BS I I I) (Lq I (Qz I) (Nk ?_))))
   refine CB 11 I (fun h2=>?_) (fun h2=>?_)
   · rw[Ul h2]
     refine Ai I (Cs I (Ak I (Af (Aa (An I I ?_)))))
     exact fun _ h=>⟨(),rfl,trivial,h.e8⟩
   · obtain⟨m,hm,hm8⟩:∃m:Nat,k.n=(m:Int)/\m<=8:=⟨k.n.toNat,by omega,by omega⟩
     refine Ab I (Ae (Kt (Cs I (Lfa U77 I Z3 I (Lo G3 0 I (Lq I (AN ((kz 8 k.n k.wn).c) I I (fun w=>by kernel_rfl)) (l_e I (Au I I I zeroValue77 (fun bx=>l_e I (SA Z77 I (Kv.one _) (Ce (.int .i64 k.n::List.replicate 8 (.int .u8 0)) I (Ns (Dn (rg 7) 1458 _ I St.drawn Ih (Dfa U77 I Z75 I (Dfa U77 I Z3 I (Dq I (Ao I G3 I (Hat 1 I) I) (Dq I (Eh m I U75 Z5 I I hm (by omega)) (Dfa U77 I Z75 I (Dq I (Fw I U75 Z5 I) (d_t I (Pr (E:=(AG .u8)) (l:=k.b) I I I U23 Z5 I I (fun _ h=>Jg (h.at 1 I) (AG .u8) k.b k.len (ga _) (by rw[Gu]; exact fZ (by simp[Kv.c,k.len,AG]))) (by simp[k.len,AG]; omega) (Ce (Sw k m hm8).c (by rw[hm]; exact cY k hm8) (AK (Kt (Cs I (Lq I (Cq ((Sw k m hm8).c) G77 Z77 0 I (AY _) (Kv.e6 _)) (Lq I (Cq (k.c) G77 Z77 1 I (AY _) (Kv.e6 _)) (Lq I (Q2 ((Sw k m hm8)) (k) I I I) (Ak I (Af ?_))))))))))))))))))))))))))))))
     rw[<-XD k hm hm8]
     refine An I I ?_
     exact fun _ h=>⟨(),rfl,trivial,h.e8⟩
theorem Q5 (s:ByteArray) (hs:s.size<=9223372036854775807):Con prog 125 [.string s] (fun _=>True) [] (fun _:Unit=>if h:s.size<=8 then .tuple #[.agg (kof s h).c.toArray,.int .i64 0] else .tuple #[.agg (kc 0 z8).toArray,.int .i64 2]) (fun _=>True) (fun _=>[]):=by
 intro w hE hH
 refine E0 func125 I hH ?_
 refine Cs I (l_e I (Au I I I zeroValue77 (fun br=>Ce (kc 0 z8) I (Ak I (Ag (Cs I (Lm I (Lq I (Ep I U9 I) (Lq I (BS I I I) (Nk ?_))))))))))
 refine CB 7 I (fun h1=>?_) (fun h1=>?_)
 · have hno:¬s.size<=8:=by omega
   refine Ai I (Cs I (Lq I (AN (kc 0 z8) I I (fun w=>by kernel_rfl)) (l_e I (SA Z77 I Mq (Ay (Uo F5 F5) (Ak I (Af (Aa (BI I (AJ I G77 Z77 (Hat 0 I) (Im F5)) (show Sep.look _ _=some _ from I) ?_)))))))))
   exact fun _ h=>⟨(),by rw[dif_neg hno],trivial,h.e8⟩
 · have hyes:s.size<=8:=by omega
   have hbl:=ED s
   refine Ab I (Ae (Kt (Cs I (Lm I (Lq I (Ep I U9 I) (Lq I (AN (kc (s.size:Int) z8) I I (fun w=>by kernel_rfl)) (l_e I (Au I I I zeroValue77 (fun bk=>Ce (kc 0 z8) I (l_e I (SA Z77 I Mq (Ay (Uo F5 F5) (Nk (Cs I (Lfa U77 I Z75 I (Lq I (Fw I U75 Z5 I) (Lm I (l_e I (XA I I I U23 Z5 I I (by omega) (by show 0+1+s.size<=_; rw[Im F5]; omega) ?_)))))))))))))))))))
   refine Ay (cs':=(kof s hyes).c) ?_ ?_
   · have hput:=ZS (n:=(s.size:Int)) (l:=byt s) (by omega)
     unfold byt at hput
     rw[ik] at hput
     refine hput.trans ?_
     show _=kc ((byt s).length:Int) (byt s++List.replicate (8-(byt s).length) 0)
     rw[hbl]; unfold byt; rw[gS,ij]; rfl
   refine Nk (Cs I (Lq I (Cq ((kof s hyes).c) G77 Z77 0 I (AY _) (Kv.e6 _)) (AM (l_e I (Ah I I Z77 I I (Kv.e6 _) (Kv.one _) (by rw[Kv.e6,Im F5]; decide) (Ay (Sep.e7 (by rw[Kv.e6,Im F5])) (Ak I (Af (BI I (AJ I G77 Z77 (Hat 0 I) (Kv.e6 _)) (show Sep.look _ _=some _ from I) ?_)))))))))
   exact fun _ h=>⟨(),by rw[dif_pos hyes],trivial,h.e8⟩
theorem Lh (k:Kv 8):Con prog 225 [.agg k.c.toArray] (fun _=>True) [] (fun _:Unit=>.string (strOfNums (tx k))) (fun _=>True) (fun _=>[]):=by
 intro w hE hH
 refine E0 func225 I hH ?_
 refine Cs I (l_e I (AQ I I I I (fun bk=>Ce k.c I (Ak I (Ag (Cs I (Lq I (Cq (k.c) G77 Z77 0 I (AY _) (Kv.e6 _)) (l_e I (E1 (E5 k) I call279 Tt (fun _ _=>Lq I (Qt I) (Nk ?_)))))))))))
 refine CB 5 I (fun h1=>?_) (fun h1=>?_)
 · have ht:tx k=[]:=by unfold tx; rw[h1]; rfl
   refine Ai I (Cs I (Ak I (Af (Aa (An I I ?_)))))
   exact fun _ h=>⟨(),by rw[ht]; rfl,trivial,h.e8⟩
 · obtain⟨m,hm,hm8,ht,htl,htb⟩:=DJ h1
   have hkl:=k.len
   refine Ab I (Ae (Kt (Cs I (Lfa U77 I Z75 I (Lfa U77 I Z3 I (Lo G3 0 I (Lq I (Eh m I U75 Z5 I I hm (by omega)) (Lq I (E4 (l:=k.b.take m) I U23 U5 U9 I (fun _ h=>Jg (h.at 0 I) (AG .u8) (k.b.take m) (by rw[fJ]; omega) (by omega) (XJ (by omega)))) (Ak I (Af (An I I ?_)))))))))))
   exact fun _ h=>⟨(),by rw[ht],trivial,h.e8⟩
theorem Up:Extern.find Tryz.f301=some Extern.BytealgCompare.compare:=by kernel_rfl
theorem ZT {P:Program} {n:Nat} {L:Env} {X:World->Prop} {o:Oper} {Q:Exit->Act->World->Prop} {K:Act->World->Prop} {f:FuncId} {fn:Func} {ts:Array TypeId} {d:Nat} {a b:ByteArray} (ho:o.op=.call ⟨.value (.func f),[x,y].toArray,ts⟩) (hd:o.dst=some d) (hnn:d.blt n=true) (hfn:P.funcs[f]?=some fn) (hb:fn.body.isNone=true) (OB:(fn.name == "runtime.NumGoroutine")=false) (hn:Extern.findNext fn=none) (he:Extern.find fn=some Extern.BytealgCompare.compare)
 (hx:ev L x=some (.string a)) (hy:ev L y=some (.string b)) (h:Pre n ((d,.int .i64 (Lib.compareBytes a.data.toList b.data.toList))::L) X K):EOp P n L X o Q K :=
 EOp.val (β:=Unit) (fun _=>.int .i64 (Lib.compareBytes a.data.toList b.data.toList)) (fun _=>True) (fun _=>X) hd hnn (fun ac w kn hX=>by
  have hc:=run_callFunc_extern hfn OB hb hn he #[.string a,.string b] w
  rw[Lib.run_compareString a b w] at hc
  simp only[gz] at hc
  have hargs:([x,y].toArray.map ac.eval)=#[.string a,.string b]:=by simp[kn.eval hx,kn.eval hy]
  have h0:∀us:Array Value,(#[]++us++#[])=us:=fun us=>by simp
  exact⟨(),w,by simp only[execOp,ho,resolve,Act.eval,Deferred.ofValue,gx,gy,gz,invoke,hargs,h0,hc],trivial,hX⟩) (fun _ _=>h)
theorem Sz (a b:ByteArray):Con prog 278 [.string a,.string b] (fun _=>True) [] (fun _:Unit=>.int .i64 (Lib.compareBytes a.data.toList b.data.toList)) (fun _=>True) (fun _=>[]):=by
 intro w hE hH
 refine E0 func278 I hH ?_
 refine Cs I (Ak I (Cs I (Lm I (Lm I (l_e I (ZT I I I func301 I (by kernel_rfl) I Up I I (Ak I (Af (An I I ?_)))))))))
 exact fun _ h=>⟨(),rfl,trivial,h⟩
theorem SB (a b:ByteArray):Con prog 224 [.string a,.string b] (fun _=>True) [] (fun _:Unit=>.int .i64 (Lib.compareBytes a.data.toList b.data.toList)) (fun _=>True) (fun _=>[]):=by
 intro w hE hH
 refine E0 func224 I hH ?_
 refine Cs I (Ak I (Cs I (Lm I (Lm I (l_e I (E1 (Sz a b) I call278 Tt (fun _ _=>Ak I (Af (An I I ?_)))))))))
 exact fun _ h=>⟨(),rfl,trivial,h⟩
theorem Fj (a b:Kv 8):Con prog 162 [.agg a.c.toArray,.agg b.c.toArray] (fun _=>True) [] (fun _:Unit=>.int .i64 (BC a b)) (fun _=>True) (fun _=>[]):=by
 intro w hE hH
 have hc:BC a b=Lib.compareBytes (strOfNums (tx a)).data.toList (strOfNums (tx b)).data.toList:=(Q0 (tx a) (tx b) (fun x hx=>QZ hx) (fun x hx=>QZ hx)).symm
 refine E0 func162 I hH ?_
 refine Cs I (l_e I (AQ I I I I (fun ba=>Ce a.c I (l_e I (AQ I I I I (fun bb=>Ce b.c I (Ak I (Ag (Dn [0,2,1,3,4,5] 117 (fun w2=>(Ad ba 77 a.c).at w2/\(Ad bb 77 b.c).at w2) I St.drawn (H2 1 0 I) (Dq I (AP (a.c) I G77 Z77 I (fun _ h=>h.1) (AY _) (Kv.e6 _)) (Dq I (AP (b.c) I G77 Z77 I (fun _ h=>h.2) (AY _) (Kv.e6 _)) (d_e I (E1 (Lh a) I call225 Tt (fun _ _=>Aj (H2 1 0 I) (d_e I (E1 (Lh b) I call225 Tt (fun _ _=>Aj (H2 1 0 I) (d_e I (E1 (SB _ _) I call224 Tt (fun _ _=>Aj (H2 1 0 I) (Das I (AK (Kt (Af (An I I ?_)))))))))))))))))))))))))
 exact fun _ h=>⟨(),by rw[hc],trivial,h.e8⟩
theorem JQ (k:Kv 16):Con prog 316 [.agg k.c.toArray] (fun _=>True) [] (fun _:Unit=>.bool (vck k)) (fun _=>True) (fun _=>[]):=GZ (fun w _=>R1 k.n k.b w k.len k.wb)
theorem Dg (k:Kv 16):Con prog 61 [.agg k.c.toArray] (fun _=>True) [] (fun _:Unit=>.bool (vck k)) (fun _=>True) (fun _=>[]):=GZ (fun w _=>Pd k.n k.b w k.len)
theorem Hw (k:Kv 16) (z:Int):Con prog 223 [.agg k.c.toArray,.int .u64 z] (fun _=>True) [] (fun _:Unit=>.agg (DK k z).c.toArray) (fun _=>True) (fun _=>[]):=GZ (fun w _=>TU k.n k.b z w k.len k.wb)
def vof (s:ByteArray) (h:s.size<=16):Kv 16:=⟨s.size,pad (byt s) 16,EJ _ _ (by rw[Ft]; exact h),Uj (by omega),Pb 16 (ZE s)⟩
theorem XK (s:ByteArray) (h:s.size<=16):Con prog 126 [.string s] (fun _=>True) [] (fun _:Unit=>.tuple #[.agg (vof s h).c.toArray,.int .i64 0]) (fun _=>True) (fun _=>[]):=GZ (fun w _=>ZF s w h)
theorem ZU (s:ByteArray) (h:¬s.size<=16):Con prog 126 [.string s] (fun _=>True) [] (fun _:Unit=>.tuple #[.agg (kv0 16).c.toArray,.int .i64 2]) (fun _=>True) (fun _=>[]):=GZ (fun w _=>Xf s w (by omega))
theorem IS (m:Ms):Con prog 313 [.agg m.c.toArray] (fun _=>True) [] (fun _:Unit=>.bool (mck m)) (fun _=>True) (fun _=>[]):=by
 intro w hE hH
 refine E0 func313 I hH ?_
 refine Cs I (l_e I (AQ I I I I (fun bm=>Ce m.c I (Ak I (Cs I (Lfa B7 I Z77 I (Lq I (Cq (m.key.c) G77 Z77 0 I (Ms.fk _) (Kv.e6 _)) (l_e I (E1 (E5 m.key) I call279 Tt (fun _ _=>Ak I (Ag (Cs I (Lfa B7 I Z3 I (Lo G3 0 I (Nk (Al (Ag (Al (Ag (Al (Ag (Al (Ag (Ag (Cs I (Lq I (Qe I) (Ak I ?_)))))))))))))))))))))))))))
 refine CB 9 I (fun h1=>?_) (fun h1=>?_)
 · refine Ai I (AO (Ac (Ac (Ar (Ks (Cs I (Lm I (Lm I ?_))))))))
   refine CB 16 I (fun h2=>?_) (fun h2=>?_)
   · refine Lfa B7 I Z56 I (Lq I (Cq (m.val.c) G56 Z56 0 I (Ms.val_part _) (Kv.e6 _)) (l_e I (E1 (JQ m.val) I call316 Tt (fun _ _=>Lq I (Qy I) (Lm I ?_)))))
     refine CB 21 I (fun h3=>?_) (fun h3=>?_)
     · refine Lfa B7 I Z41 I (Lq I (Ao I G41 I (Hat 0 I) (Ms.by_part _)) (Lq I (Qe I) (Lq I (Qy I) (Ak I (Af (Aa (Am (Aa (Am (Aa (Am (Aa ?_))))))))))))
       refine CB 2 I (fun h4=>?_) (fun h4=>?_)
       · have e:mck m=true:=by
          unfold mck
          rcases (show m.kind=1\/m.kind=2\/m.kind=3\/(¬m.kind=1/\¬m.kind=2/\¬m.kind=3) by omega) with e|e|e|e<;>first|(exfalso; omega)|simp_all
         rw[e]
         refine An I I ?_
         exact fun _ h=>⟨(),rfl,trivial,h.e8⟩
       · have e:mck m=false:=by
          unfold mck
          rcases (show m.kind=1\/m.kind=2\/m.kind=3\/(¬m.kind=1/\¬m.kind=2/\¬m.kind=3) by omega) with e|e|e|e<;>first|(exfalso; omega)|simp_all
         rw[e]
         refine An I I ?_
         exact fun _ h=>⟨(),rfl,trivial,h.e8⟩
     · refine Lx I (Lx I (Lx I (Lq I (Qz I) (Ak I (Af (Aa (Am (Aa (Am (Aa (Am (Aa ?_))))))))))))
       have e:mck m=false:=by
        unfold mck
        rcases (show m.kind=1\/m.kind=2\/m.kind=3\/(¬m.kind=1/\¬m.kind=2/\¬m.kind=3) by omega) with e|e|e|e<;>first|(exfalso; omega)|simp_all
       rw[e]
       refine An I I ?_
       exact fun _ h=>⟨(),rfl,trivial,h.e8⟩
   · refine Lx I (Lx I (Lx I (Lq I (Qz I) (Lm I (Lx I (Lx I (Lx I (Lq I (Qz I) (Ak I (Af (Aa (Am (Aa (Am (Aa (Am (Aa ?_)))))))))))))))))
     have e:mck m=false:=by
      unfold mck
      rcases (show m.kind=1\/m.kind=2\/m.kind=3\/(¬m.kind=1/\¬m.kind=2/\¬m.kind=3) by omega) with e|e|e|e<;>first|(exfalso; omega)|simp_all
     rw[e]
     refine An I I ?_
     exact fun _ h=>⟨(),rfl,trivial,h.e8⟩
 · refine Ab I (Ae (Ks (Cs I (Lq I (Qe I) (Ak I ?_)))))
   refine CB 11 I (fun h5=>?_) (fun h5=>?_)
   · refine Ai I (AO (Ac (Ac (AA I (Ac (Ar (Kt (Cr I (Lm I (Lm I ?_))))))))))
     refine CB 27 I (fun h6=>?_) (fun h6=>?_)
     · refine Lfa B7 I Z41 I (Lq I (Ao I G41 I (Hat 0 I) (Ms.by_part _)) (Lq I (Qe I) (Lq I (Qy I) (Las I (AB (Aw (Ks (Cs I (Lm I (Lm I ?_))))))))))
       refine CB 33 I (fun h7=>?_) (fun h7=>?_)
       · refine Lfa B7 I Z56 I (Lq I (Cq (m.val.c) G56 Z56 0 I (Ms.val_part _) (Kv.e6 _)) (Lq I (AN ((kv0 16).c) I I (fun w=>by kernel_rfl)) (Lq I (JO (m.val) ((kv0 16)) I I I) (Lq I (Qy I) (Ak I (Af (Aa (Am (Aa ?_)))))))))
         refine CB 2 I (fun h8=>?_) (fun h8=>?_)
         · have e:mck m=true:=by
            unfold mck
            rcases (show m.kind=1\/m.kind=2\/m.kind=3\/(¬m.kind=1/\¬m.kind=2/\¬m.kind=3) by omega) with e|e|e|e<;>first|(exfalso; omega)|simp_all
           rw[e]
           refine An I I ?_
           exact fun _ h=>⟨(),rfl,trivial,h.e8⟩
         · have e:mck m=false:=by
            unfold mck
            rcases (show m.kind=1\/m.kind=2\/m.kind=3\/(¬m.kind=1/\¬m.kind=2/\¬m.kind=3) by omega) with e|e|e|e<;>first|(exfalso; omega)|simp_all
           rw[e]
           refine An I I ?_
           exact fun _ h=>⟨(),rfl,trivial,h.e8⟩
       · refine Lx I (Lx I (Lx I (Lx I (Lq I (Qz I) (Ak I (Af (Aa (Am (Aa ?_)))))))))
         have e:mck m=false:=by
          unfold mck
          rcases (show m.kind=1\/m.kind=2\/m.kind=3\/(¬m.kind=1/\¬m.kind=2/\¬m.kind=3) by omega) with e|e|e|e<;>first|(exfalso; omega)|simp_all
         rw[e]
         refine An I I ?_
         exact fun _ h=>⟨(),rfl,trivial,h.e8⟩
     · refine Lx I (Lx I (Lx I (Lq I (Qz I) (Las I (AB (Aw (Ks (Cs I (Lm I (Lm I (Lx I (Lx I (Lx I (Lx I (Lq I (Qz I) (Ak I (Af (Aa (Am (Aa ?_))))))))))))))))))))
       have e:mck m=false:=by
        unfold mck
        rcases (show m.kind=1\/m.kind=2\/m.kind=3\/(¬m.kind=1/\¬m.kind=2/\¬m.kind=3) by omega) with e|e|e|e<;>first|(exfalso; omega)|simp_all
       rw[e]
       refine An I I ?_
       exact fun _ h=>⟨(),rfl,trivial,h.e8⟩
   · refine Ab I (Ae (Kt (Cs I (Lq I (Qe I) (Ak I ?_)))))
     refine CB 13 I (fun h9=>?_) (fun h9=>?_)
     · refine Ai I (AO (Ac (AA I (Ac (AA I (Ac (Ar (Ks (Cs I (Lm I (Lm I ?_)))))))))))
       refine CB 33 I (fun h10=>?_) (fun h10=>?_)
       · refine Lfa B7 I Z56 I (Lq I (Cq (m.val.c) G56 Z56 0 I (Ms.val_part _) (Kv.e6 _)) (Lq I (AN ((kv0 16).c) I I (fun w=>by kernel_rfl)) (Lq I (JO (m.val) ((kv0 16)) I I I) (Lq I (Qy I) (Ak I (Af (Aa (Am (Aa ?_)))))))))
         refine CB 2 I (fun h11=>?_) (fun h11=>?_)
         · have e:mck m=true:=by
            unfold mck
            rcases (show m.kind=1\/m.kind=2\/m.kind=3\/(¬m.kind=1/\¬m.kind=2/\¬m.kind=3) by omega) with e|e|e|e<;>first|(exfalso; omega)|simp_all
           rw[e]
           refine An I I ?_
           exact fun _ h=>⟨(),rfl,trivial,h.e8⟩
         · have e:mck m=false:=by
            unfold mck
            rcases (show m.kind=1\/m.kind=2\/m.kind=3\/(¬m.kind=1/\¬m.kind=2/\¬m.kind=3) by omega) with e|e|e|e<;>first|(exfalso; omega)|simp_all
           rw[e]
           refine An I I ?_
           exact fun _ h=>⟨(),rfl,trivial,h.e8⟩
       · refine Lx I (Lx I (Lx I (Lx I (Lq I (Qz I) (Ak I (Af (Aa (Am (Aa ?_)))))))))
         have e:mck m=false:=by
          unfold mck
          rcases (show m.kind=1\/m.kind=2\/m.kind=3\/(¬m.kind=1/\¬m.kind=2/\¬m.kind=3) by omega) with e|e|e|e<;>first|(exfalso; omega)|simp_all
         rw[e]
         refine An I I ?_
         exact fun _ h=>⟨(),rfl,trivial,h.e8⟩
     · refine Ab I (Ae (Kt (AO (AA I (Ac (AA I (Ac (AA I (Ac (Ar (Kt (Cs I (Ak I (Af ?_))))))))))))))
       have e:mck m=false:=by
        unfold mck
        rcases (show m.kind=1\/m.kind=2\/m.kind=3\/(¬m.kind=1/\¬m.kind=2/\¬m.kind=3) by omega) with e|e|e|e<;>first|(exfalso; omega)|simp_all
       rw[e]
       refine An I I ?_
       exact fun _ h=>⟨(),rfl,trivial,h.e8⟩
theorem ND (m:Ms):Con prog 306 [.agg m.c.toArray] (fun _=>True) [] (fun _:Unit=>.int .i64 (mby m)) (fun _=>True) (fun _=>[]):=by
 intro w hE hH
 refine E0 func306 I hH ?_
 refine Cs I (l_e I (AQ I I I I (fun bm=>Ce m.c I (Ak I (Ag (Cs I (Lq I (Cq (m.c) Cm Bi 0 I (Bm _) (Ms.e6 _)) (l_e I (E1 (IS m) I call313 Tt (fun _ _=>Lq I (Qt I) (Nk ?_)))))))))))
 refine CB 6 I (fun hm=>?_) (fun hm=>?_)
 · refine Ai I (Cs I (Ak I (Af (Aa (An I I ?_)))))
   exact fun _ h=>⟨(),congrArg (fun z=>Ending.returned (Value.int .i64 z)) (by unfold mby; rw[fR (by rw[hm]; simp)]),trivial,h.e8⟩
 · have hk:=Q3 hm
   refine Ab I (Ae (Kt (Cs I (Lfa B7 I Z77 I (Lfa U77 I Z3 I (Lo G3 0 I (Lq I (Bf I I I (by omega)) (Ak I (Ag (Cs I (Lfa B7 I Z3 I (Lo G3 0 I (Nk (Al (Cs I (Lq I (Qe I) (Ak I ?_)))))))))))))))))
   refine CB 13 I (fun e1=>?_) (fun e1=>?_)
   · have hv:=Q4 hm e1
     refine Ai I (Cr I (Lm I (Lfa B7 I Z56 I (Lfa U56 I Z3 I (Lq I (Ao I G3 I (Hat 0 I) (Ms.valn_part _)) (Lq I (Bf I I I (by omega)) (Lq I (Bf I I I (by omega)) (Las I (AB (Aw (Kt (Cs I (Lm I (Ak I (Af (An I I ?_))))))))))))))))
     exact fun _ h=>⟨(),congrArg (fun z=>Ending.returned (Value.int .i64 z)) (by unfold mby; rw[fO hm]; split<;>(try split)<;>omega),trivial,h.e8⟩
   · refine Ab I (Cs I (Lq I (Qe I) (Ak I ?_)))
     refine CB 21 I (fun e3=>?_) (fun e3=>?_)
     · refine Ai I (Cr I (Lm I (Lq I (Bf I I I (by omega)) (Las I (AB (Aw (Kt (Cs I (Lm I (Ak I (Af (An I I ?_))))))))))))
       exact fun _ h=>⟨(),congrArg (fun z=>Ending.returned (Value.int .i64 z)) (by unfold mby; rw[fO hm]; split<;>(try split)<;>omega),trivial,h.e8⟩
     · refine Ab I (Ae (Aw (Kt (Cs I (Lm I (Ak I (Af (An I I ?_))))))))
       exact fun _ h=>⟨(),congrArg (fun z=>Ending.returned (Value.int .i64 z)) (by unfold mby; rw[fO hm]; split<;>(try split)<;>omega),trivial,h.e8⟩
theorem GI (a b:Ms):Con prog 180 [.agg a.c.toArray,.agg b.c.toArray] (fun _=>True) [] (fun _:Unit=>.agg (mco a b).c.toArray) (fun _=>True) (fun _=>[]):=by
 intro w hE hH
 refine E0 func180 I hH ?_
 refine Cs I (l_e I (AQ I I I I (fun ba=>Ce a.c I (l_e I (AQ I I I I (fun bb=>Ce b.c I (l_e I (Au I I I zeroValue154 (fun br=>Ce ms0.c I (Ns (Cs I (Lfa B7 I Z3 I (Lo G3 1 I (Lq I (Qn I) (Lm I ?_)))))))))))))))
 refine CB 8 I (fun h1=>?_) (fun h1=>?_)
 · refine Lx I (Lx I (Lx I (Lx I (Lx I (Lq I (Qy I) (Nk (Ai I (Cs I (Lq I (Cq (b.c) Cm Bi 1 I (Bm _) (Ms.e6 _)) (l_e I (Ah I I Bi I I (Ms.e6 _) (Ms.one _) (by simp only[Kv.e6,Ms.e6]; decide) (Ce b.c (Sep.e7 (by simp only[Kv.e6,Ms.e6])) (Nk (Af (Aa (CL I (AJ I Cm Bi (Hat 0 I) (Ms.e6 _)) ?_))))))))))))))))
   exact fun _ h=>⟨(),congrArg (fun z=>Ending.returned (Value.agg (Ms.c z).toArray)) (show b=mco a b from by
    unfold mco
    simp_all [Ms.setKind,Ms.setVal,Ms.setBy,Ms.setKey]),trivial,h.e8⟩
 · refine Lfa B7 I Z77 I (Lq I (Cq (a.key.c) G77 Z77 2 I (Ms.fk _) (Kv.e6 _)) (Lfa B7 I Z77 I (Lq I (Cq (b.key.c) G77 Z77 1 I (Ms.fk _) (Kv.e6 _)) (Lq I (cZ (a.key) (b.key) I I I) (Lq I (Qz I) (Nk ?_))))))
   refine CB 14 I (fun h2=>?_) (fun h2=>?_)
   · refine Ai I (Cs I (Lq I (Cq (b.c) Cm Bi 1 I (Bm _) (Ms.e6 _)) (l_e I (Ah I I Bi I I (Ms.e6 _) (Ms.one _) (by simp only[Kv.e6,Ms.e6]; decide) (Ce b.c (Sep.e7 (by simp only[Kv.e6,Ms.e6])) (Nk (Af (Aa (CL I (AJ I Cm Bi (Hat 0 I) (Ms.e6 _)) ?_)))))))))
     exact fun _ h=>⟨(),congrArg (fun z=>Ending.returned (Value.agg (Ms.c z).toArray)) (show b=mco a b from by
      unfold mco
      simp_all [Ms.setKind,Ms.setVal,Ms.setBy,Ms.setKey]),trivial,h.e8⟩
   · refine Ab I (Ae (Ks (Cs I (Lfa B7 I Z3 I (Lo G3 2 I (Nk (Al (Ag (Al (Ag (Al (Ag (Al (Ag (Ag (Cs I (Lq I (Qe I) (Ak I ?_))))))))))))))))))
     refine CB 18 I (fun h3=>?_) (fun h3=>?_)
     · refine Ai I (AO (Ac (Ac (Ar (Kt (Cr I (Lq I (AN ((kv0 16).c) I I (fun w=>by kernel_rfl)) (Lfa B7 I Z56 I (AV (l_e I (Ah I I Z56 I I (Kv.e6 _) (Kv.one _) (by rw[Kv.e6,Ms.e6]; decide) (Ay (Ms.set_val _ _) (AB (Aw (Kt (Cs I (Lfa B7 I Z56 I (Lq I (Cq ((a.setVal (kv0 16)).val.c) G56 Z56 0 I (Ms.val_part _) (Kv.e6 _)) (Lfa B7 I Z41 I (Lq I (Ao I G41 I (Hat 2 I) (Ms.by_part _)) (l_e I (E1 (Hw (a.setVal (kv0 16)).val _) I call223 Tt (fun _ _=>Lfa B7 I Z3 I (AV (l_e I (AF I I Z3 I I I (by rw[Ms.e6]; decide) (Ay (Ms.set_kind _ _ (by decide)) (Lfa B7 I Z56 I (l_e I (Ah I I Z56 I I (Kv.e6 _) (Kv.one _) (by rw[Kv.e6,Ms.e6]; decide) (Ay (Ms.set_val _ _) (Lfa B7 I Z41 I (l_e I (AF I I Z41 I I I (by rw[Ms.e6]; decide) (Ay (Ms.set_by _ _ (by decide)) (Nk (AO (AA I (Ac (Ar (Kt (Cs I (Lq I (Cq ((((b.setKind 1 (by decide)).setVal (DK (a.setVal (kv0 16)).val b.by')).setBy (0) (by decide)).c) Cm Bi 0 I (Bm _) (Ms.e6 _)) (AV (l_e I (Ah I I Bi I I (Ms.e6 _) (Ms.one _) (by simp only[Kv.e6,Ms.e6]; decide) ?_))))))))))))))))))))))))))))))))))))))))))))))
       refine Ce (((b.setKind 1 (by decide)).setVal (DK (a.setVal (kv0 16)).val b.by')).setBy (0) (by decide)).c (Sep.e7 (by simp only[Kv.e6,Ms.e6])) (Nk (Af (CL I (AJ I Cm Bi (Hat 0 I) (Ms.e6 _)) ?_)))
       exact fun _ h=>⟨(),congrArg (fun z=>Ending.returned (Value.agg (Ms.c z).toArray)) (show (((b.setKind 1 (by decide)).setVal (DK (a.setVal (kv0 16)).val b.by')).setBy (0) (by decide))=mco a b from by
        unfold mco
        simp_all [Ms.setKind,Ms.setVal,Ms.setBy,Ms.setKey]),trivial,h.e8⟩
     · refine Ab I (Ae (Ks (Cs I (Lq I (Qe I) (Ak I ?_)))))
       refine CB 20 I (fun h4=>?_) (fun h4=>?_)
       · refine Ai I (AO (Ac (Ac (AA I (Ac (Ar (Kt (Cs I (Lfa B7 I Z56 I (Lq I (Cq (a.val.c) G56 Z56 2 I (Ms.val_part _) (Kv.e6 _)) (Lfa B7 I Z41 I (Lq I (Ao I G41 I (Hat 1 I) (Ms.by_part _)) (l_e I (E1 (Hw a.val _) I call223 Tt (fun _ _=>Lfa B7 I Z3 I (AM (l_e I (AF I I Z3 I I I (by rw[Ms.e6]; decide) (Ay (Ms.set_kind _ _ (by decide)) (Lfa B7 I Z56 I (l_e I (Ah I I Z56 I I (Kv.e6 _) (Kv.one _) (by rw[Kv.e6,Ms.e6]; decide) (Ay (Ms.set_val _ _) (Lfa B7 I Z41 I (l_e I (AF I I Z41 I I I (by rw[Ms.e6]; decide) (Ay (Ms.set_by _ _ (by decide)) (Nk (AO (AA I (Ac (Ar (Kt (Cs I (Lq I (Cq ((((b.setKind 1 (by decide)).setVal (DK a.val b.by')).setBy (0) (by decide)).c) Cm Bi 0 I (Bm _) (Ms.e6 _)) (AM (l_e I (Ah I I Bi I I (Ms.e6 _) (Ms.one _) (by simp only[Kv.e6,Ms.e6]; decide) ?_))))))))))))))))))))))))))))))))))))))
         refine Ce (((b.setKind 1 (by decide)).setVal (DK a.val b.by')).setBy (0) (by decide)).c (Sep.e7 (by simp only[Kv.e6,Ms.e6])) (Nk (Af (CL I (AJ I Cm Bi (Hat 0 I) (Ms.e6 _)) ?_)))
         exact fun _ h=>⟨(),congrArg (fun z=>Ending.returned (Value.agg (Ms.c z).toArray)) (show (((b.setKind 1 (by decide)).setVal (DK a.val b.by')).setBy (0) (by decide))=mco a b from by
          unfold mco
          simp_all [Ms.setKind,Ms.setVal,Ms.setBy,Ms.setKey]),trivial,h.e8⟩
       · refine Ab I (Ae (Kt (Cs I (Lq I (Qe I) (Ak I ?_)))))
         refine CB 22 I (fun h5=>?_) (fun h5=>?_)
         · refine Ai I (AO (Ac (AA I (Ac (AA I (Ac (Ar (Kt (Cs I (Lfa B7 I Z41 I (Lq I (Ao I G41 I (Hat 1 I) (Ms.by_part _)) (Lfa B7 I Z41 I (Lq I (Ao I G41 I (Hat 2 I) (Ms.by_part _)) (Lq I (T3 I I I) (Lfa B7 I Z41 I (AM (l_e I (AF I I Z41 I I I (by rw[Ms.e6]; decide) (Ay (Ms.set_by _ _ (Hv _)) (Nk (AO (Ar (Kt ?_)))))))))))))))))))))))
           refine Cs I (Lq I (Cq ((b.setBy (IntKind.u64.wrap (b.by'+a.by')) (Hv _)).c) Cm Bi 0 I (Bm _) (Ms.e6 _)) (AM (l_e I (Ah I I Bi I I (Ms.e6 _) (Ms.one _) (by simp only[Kv.e6,Ms.e6]; decide) (Ce (b.setBy (IntKind.u64.wrap (b.by'+a.by')) (Hv _)).c (Sep.e7 (by simp only[Kv.e6,Ms.e6])) (Nk (Af (CL I (AJ I Cm Bi (Hat 0 I) (Ms.e6 _)) ?_))))))))
           exact fun _ h=>⟨(),congrArg (fun z=>Ending.returned (Value.agg (Ms.c z).toArray)) (show (b.setBy (IntKind.u64.wrap (b.by'+a.by')) (Hv _))=mco a b from by
            unfold mco
            simp_all [Ms.setKind,Ms.setVal,Ms.setBy,Ms.setKey]),trivial,h.e8⟩
         · refine Ab I (Ae (Kt (AO (AA I (Ac (AA I (Ac (AA I (Ac (Ar (Kt (Cs I (Lq I (Cq (b.c) Cm Bi 1 I (Bm _) (Ms.e6 _)) (l_e I (Ah I I Bi I I (Ms.e6 _) (Ms.one _) (by simp only[Kv.e6,Ms.e6]; decide) (Ce b.c (Sep.e7 (by simp only[Kv.e6,Ms.e6])) (Nk (Af (CL I (AJ I Cm Bi (Hat 0 I) (Ms.e6 _)) ?_)))))))))))))))))))
           exact fun _ h=>⟨(),congrArg (fun z=>Ending.returned (Value.agg (Ms.c z).toArray)) (show b=mco a b from by
            unfold mco
            simp_all [Ms.setKind,Ms.setVal,Ms.setBy,Ms.setKey]),trivial,h.e8⟩
theorem F6 (v:Kv 16) (t:Bool) (m:Ms):Con prog 159 [.agg v.c.toArray,.bool t,.agg m.c.toArray] (fun _=>True) [] (fun _:Unit=>.tuple #[.agg (D6 v t m).1.c.toArray,.bool (D6 v t m).2]) (fun _=>True) (fun _=>[]):=by
 intro w hE hH
 refine E0 func159 I hH ?_
 refine Cs I (l_e I (AQ I I I I (fun bv=>Ce v.c I (l_e I (AQ I I I I (fun bm=>Ce m.c I (l_e I (Au I I I zeroValue56 (fun br=>Ce (kv0 16).c I (Ak I (Ag (Cs I (Lfa B7 I Z3 I (Lo G3 1 I (Nk (Al (Cs I (Lq I (Qe I) (Ak I ?_)))))))))))))))))))
 refine CB 10 I (fun h1=>?_) (fun h1=>?_)
 · refine Ai I (Cs I (Lfa B7 I Z56 I (Lq I (Cq (m.val.c) G56 Z56 1 I (Ms.val_part _) (Kv.e6 _)) (l_e I (Ah I I Z56 I I (Kv.e6 _) (Kv.one _) (by simp only[Kv.e6,Ms.e6]; decide) (Ce m.val.c (Sep.e7 (by simp only[Kv.e6,Ms.e6])) (Ak I (Af (Am (Aa (BI I (AJ I G56 Z56 (Hat 0 I) (Kv.e6 _)) (show Sep.look _ _=some _ from I) ?_)))))))))))
   exact fun _ h=>⟨(),congrArg (fun z:Kv 16×Bool=>Ending.returned (Value.tuple #[.agg (Kv.c z.1).toArray,.bool z.2])) (show (m.val,true)=D6 v t m from by
    unfold D6
    simp_all),trivial,h.e8⟩
 · refine Ab I (Cs I (Lq I (Qe I) (Ak I ?_)))
   refine CB 14 I (fun h2=>?_) (fun h2=>?_)
   · refine Ai I (Ag (Cs I (Lm I (Lq I (Qt I) (Nk ?_)))))
     refine CB 17 I (fun h3=>?_) (fun h3=>?_)
     · refine Ai I (Cr I (Lq I (AN ((kv0 16).c) I I (fun w=>by kernel_rfl)) (AV (l_e I (Ah I I Z56 I I (Kv.e6 _) (Kv.one _) (by simp only[Kv.e6,Ms.e6]; decide) (Ce (kv0 16).c (Sep.e7 (by simp only[Kv.e6,Ms.e6])) (Nk (Cs I (Lq I (Cq ((kv0 16).c) G56 Z56 0 I (AY _) (Kv.e6 _)) (Lfa B7 I Z41 I (Lq I (Ao I G41 I (Hat 2 I) (Ms.by_part _)) (l_e I (E1 (Hw (kv0 16) _) I call223 Tt (fun _ _=>AM (l_e I (Ah I I Z56 I I (Kv.e6 _) (Kv.one _) (by simp only[Kv.e6,Ms.e6]; decide) (Ce (DK (kv0 16) m.by').c (Sep.e7 (by simp only[Kv.e6,Ms.e6])) (Ak I (Af (Am (Aa (BI I (AJ I G56 Z56 (Hat 0 I) (Kv.e6 _)) (show Sep.look _ _=some _ from I) ?_))))))))))))))))))))))
       exact fun _ h=>⟨(),congrArg (fun z:Kv 16×Bool=>Ending.returned (Value.tuple #[.agg (Kv.c z.1).toArray,.bool z.2])) (show ((DK (kv0 16) m.by'),true)=D6 v t m from by
        unfold D6
        simp_all),trivial,h.e8⟩
     · refine Ab I (Ae (Kt (Cs I (Lq I (Cq (v.c) G56 Z56 2 I (AY _) (Kv.e6 _)) (Lfa B7 I Z41 I (Lq I (Ao I G41 I (Hat 1 I) (Ms.by_part _)) (l_e I (E1 (Hw v _) I call223 Tt (fun _ _=>l_e I (Ah I I Z56 I I (Kv.e6 _) (Kv.one _) (by simp only[Kv.e6,Ms.e6]; decide) (Ce (DK v m.by').c (Sep.e7 (by simp only[Kv.e6,Ms.e6])) (Ak I (Af (Am (Aa (BI I (AJ I G56 Z56 (Hat 0 I) (Kv.e6 _)) (show Sep.look _ _=some _ from I) ?_))))))))))))))))
       exact fun _ h=>⟨(),congrArg (fun z:Kv 16×Bool=>Ending.returned (Value.tuple #[.agg (Kv.c z.1).toArray,.bool z.2])) (show ((DK v m.by'),true)=D6 v t m from by
        unfold D6
        simp_all),trivial,h.e8⟩
   · refine Ab I (Ae (Aw (Kt (Cs I (Lq I (AN ((kv0 16).c) I I (fun w=>by kernel_rfl)) (l_e I (Ah I I Z56 I I (Kv.e6 _) (Kv.one _) (by simp only[Kv.e6,Ms.e6]; decide) (Ce (kv0 16).c (Sep.e7 (by simp only[Kv.e6,Ms.e6])) (Ak I (Af (BI I (AJ I G56 Z56 (Hat 0 I) (Kv.e6 _)) (show Sep.look _ _=some _ from I) ?_)))))))))))
     exact fun _ h=>⟨(),congrArg (fun z:Kv 16×Bool=>Ending.returned (Value.tuple #[.agg (Kv.c z.1).toArray,.bool z.2])) (show ((kv0 16),false)=D6 v t m from by
      unfold D6
      simp_all),trivial,h.e8⟩
section
variable {n:Nat} {L:Env} {X:World->Prop} {o:Oper}
theorem c5 {u:TypeId} (k j:En) (ho:o.op=.binOp .neq 79 x y u) (hx:ev L x=some (.agg k.c.toArray)) (hy:ev L y=some (.agg j.c.toArray)):QOp prog n L X o (.bool (!decide (k=j))) :=
 Mh (d:=4) (ks:=En.ks) _ (by kernel_rfl) (by kernel_rfl) (by decide) (by kernel_rfl) (by kernel_rfl) (by kernel_rfl) ho hx hy (En.kinds k) (En.kinds j) (by rw[En.c_inj,ia])
end
theorem Fc (E:Enc α):RdV w Cg E ([]:List α):=⟨none,0,rfl,ga _,.inl rfl⟩
theorem FL {v:Value} {E:Enc α} {l:List α} (h:RdV w v E l):∃s:Sv,v=s.v:=by
 obtain⟨a,c,rfl,_⟩:=h; exact⟨⟨a,l.length,c⟩,rfl⟩
theorem RdV.keepE {w0:World} {D:List Nat} {H:List Ent} {v:Value} {E:Enc α} {l:List α} (h:RdV w0 v E l) (s:St w0 D H w) (hD:blk v∉D\/l=[]):RdV w v E l:=by
 rcases hD with hD|rfl
 · exact h.keep s hD
 · obtain⟨a,c,e,hc,_⟩:=h; exact⟨a,c,e,hc,.inl rfl⟩
theorem index_spec (l:List Int) (x:Int) (hn:l.length<=65536):Con prog 157 [va,.int .i64 x] (fun w=>RdV w va (AG .i64) l) [] (fun _:Unit=>.int .i64 (io (Cp (fun z=>decide (z=x)) l))) (fun _=>True) (fun _=>[]):=by
 intro w hl hH
 refine E0 func157 I hH ?_
 refine Cs I (Ak I (Ag (Cs I (Lm I (Lq I (AL I U22 I (fun _ h=>hl.keep h (by simp[dom]))) (Lm I (Nk (Al ?_))))))))
 refine Bc (fun (k:Nat)=>[(0,va),(1,.int .i64 x),(7,.int .i64 (l.length:Int)),(8,.int .i64 (k:Int))]) (fun (k:Nat)=>St w [] []) (fun (k:Nat)=>k<=l.length/\∀z∈l.take k,decide (z=x)=false) (fun (k:Nat)=>l.length-k) (0) ⟨gb _,by simp⟩ (Si I) Ih (fun k hp=>Ag ?_)
 obtain⟨hk,hx⟩:=hp
 refine Cr I (Lq I (Ql I) (Ns ?_))
 refine CB 9 I (fun hlt=>?_) (fun hlt=>?_)
 · obtain⟨y,hy⟩:∃y,l[k]?=some y:=⟨_,fD (by omega)⟩
   refine Ai I (Ae (Ks (Al (Cs I (Lm I (Ak I (Cs I (Lm I (Lm I (Lm I (Lq I (As k I U22 Z3 I (fun _ h=>hl.keep h (by simp[dom])) I I (by omega)) (Lq I (AI k 0 I G3 I I (fun _ h=>hl.keep h (by simp[dom])) hy I) (Lq I (Qe I) (Nk ?_))))))))))))))
   refine CB 16 I (fun he=>?_) (fun he=>?_)
   · refine Ai I (Cs I (Lm I (Ak I (Af (Am (Aa (Aa (Am (Aa (An I I ?_))))))))))
     exact fun _ h=>⟨(),congrArg (fun z=>Ending.returned (Value.int .i64 z)) (by rw[C2 hy (jq he.symm) hx]; rfl),trivial,h⟩
   · refine Ab I (Ae (Aw (Kt (Cr I (Lq I (Qi I (by omega)) (Lm I (AB ?_)))))))
     exact AD (k+1) (by omega) ⟨by omega,EI hx hy (jo (fun e=>he e.symm))⟩ (Si I) (fun _ h=>h)
 · refine Ab I (AO (Ac (Ac (Ar (Kt (Cs I (Ak I (Af (An I I ?_)))))))))
   exact fun _ h=>⟨(),congrArg (fun z=>Ending.returned (Value.int .i64 z)) (by rw[fZ (by omega)] at hx; rw[C3 hx]; rfl),trivial,h⟩
theorem contains_spec (l:List Int) (x:Int) (hn:l.length<=65536):Con prog 105 [va,.int .i64 x] (fun w=>RdV w va (AG .i64) l) [] (fun _:Unit=>.bool (Cp (fun z=>decide (z=x)) l).isSome) (fun _=>True) (fun _=>[]):=by
 intro w hl hH
 refine E0 func105 I hH ?_
 refine Cs I (Ak I (Cs I (Lm I (Lm I (l_e I (E1 (index_spec l x hn) I call157 (fun _ h=>hl.keep h (by simp)) (fun _ _=>Lq I (Qg I) (Ak I (Af (An I I ?_))))))))))
 exact fun _ h=>⟨(),congrArg (fun z=>Ending.returned (Value.bool z)) NC,trivial,h⟩
theorem isof_spec (y:Wn) (b:Nat) (t:Int):Con prog 256 [.agg y.c.toArray,.pointer (some ⟨b,0,none⟩)] (fun _=>True) [Ad b 3 [.int .i64 t]] (fun _:Unit=>.bool (decide (y.t=t))) (fun _=>True) (fun _=>[Ad b 3 [.int .i64 t]]):=by
 intro w hE hH
 refine enter (n:=8) (vs:=[.agg y.c.toArray,.pointer (some ⟨b,0,none⟩)]) (St w [b] [Ad b 3 [.int .i64 t]]) func256 I I I (St.init hH) ?_
 refine Cs I (l_e I (AQ I I I I (fun b1=>Ak I (Cs I (Lfa JD I Z3 I (Lo G3 0 I (Lo G3 1 I (Lq I (Qe I) (Ak I (Af (An I I ?_)))))))))))
 exact fun _ h=>⟨(),rfl,trivial,h.drop⟩
theorem indexf_spec (l:List Wn) (b:Nat) (hb:blk va≠b\/l=[]) (t:Int) (hn:l.length<=65536):Con prog 255 [va,.func (.func 256) #[] #[.pointer (some ⟨b,0,none⟩)]] (fun w=>RdV w va Wn.enc l) [Ad b 3 [.int .i64 t]] (fun _:Unit=>.int .i64 (io (Cp (fun z=>decide (z.t=t)) l))) (fun _=>True) (fun _=>[Ad b 3 [.int .i64 t]]):=by
 intro w hl hH
 refine enter (n:=19) (vs:=[va,.func (.func 256) #[] #[.pointer (some ⟨b,0,none⟩)]]) (St w [b] [Ad b 3 [.int .i64 t]]) func255 I I I (St.init hH) ?_
 refine Cs I (Ak I (Ag (Cs I (Lm I (Lq I (AL I EX I (fun _ h=>RdV.keepE hl h (by simpa [dom,Ad] using hb))) (Lm I (Nk (Al ?_))))))))
 refine Bc (fun (k:Nat)=>[(0,va),(1,.func (.func 256) #[] #[.pointer (some ⟨b,0,none⟩)]),(7,.int .i64 (l.length:Int)),(8,.int .i64 (k:Int))]) (fun (k:Nat)=>St w [b] [Ad b 3 [.int .i64 t]]) (fun (k:Nat)=>k<=l.length/\∀z∈l.take k,decide (z.t=t)=false) (fun (k:Nat)=>l.length-k) (0) ⟨gb _,by simp⟩ (Si I) Ih (fun k hp=>Ag ?_)
 obtain⟨hk,hx⟩:=hp
 refine Cr I (Lq I (Ql I) (Ns ?_))
 refine CB 9 I (fun hlt=>?_) (fun hlt=>?_)
 · obtain⟨y,hy⟩:∃y,l[k]?=some y:=⟨_,fD (by omega)⟩
   refine Ai I (Ae (Ks (Al (Cs I (Lm I (Ak I (Cs I (Lm I (Lm I (Lm I (Lq I (As k I EX EC I (fun _ h=>RdV.keepE hl h (by simpa [dom,Ad] using hb)) I I (by omega)) (Lq I (AU k I L9 EC I I (fun _ h=>RdV.keepE hl h (by simpa [dom,Ad] using hb)) hy) (l_e I (Fx (β:=Unit) (X':=fun _=>St w _ [Ad b 3 [.int .i64 t]]) (v:=fun _=>.bool (decide (y.t=t))) (p:=fun _=>True) I I I I call256 I (fun w2 h=>Con.frame (F:=[]) (isof_spec y b t) h trivial) (fun _ _=>Nk ?_)))))))))))))))
   refine CB 16 I (fun he=>?_) (fun he=>?_)
   · refine Ai I (Cs I (Lm I (Ak I (Af (Am (Aa (Aa (Am (Aa (An I I ?_))))))))))
     exact fun _ h=>⟨(),congrArg (fun z=>Ending.returned (Value.int .i64 z)) (by rw[C2 hy (jq he) hx]; rfl),trivial,h⟩
   · refine Ab I (Ae (Aw (Kt (Cr I (Lq I (Qi I (by omega)) (Lm I (AB ?_)))))))
     exact AD (k+1) (by omega) ⟨by omega,EI hx hy (jo he)⟩ (Si I) (fun _ h=>h)
 · refine Ab I (AO (Ac (Ac (Ar (Kt (Cs I (Ak I (Af (An I I ?_)))))))))
   exact fun _ h=>⟨(),congrArg (fun z=>Ending.returned (Value.int .i64 z)) (by rw[fZ (by omega)] at hx; rw[C3 hx]; rfl),trivial,h⟩
theorem deletew_spec {v:Value} (l:List Wn) (i:Nat) (hi:i<l.length) (hn:l.length<=65536):Con prog 284 [v,.int .i64 (i:Int),.int .i64 ((i:Int)+1)] (fun _=>True) [Az v 277 Wn.enc l] (fun v:Value=>v) (fun _=>True) (fun v=>[Az v 277 Wn.enc (l.eraseIdx i)]):=by
 intro w hE hH
 obtain⟨bb,oo,cc,rfl⟩:=Jf (BO (hH.holds _ (iG ..))) (show 0<l.length by omega)
 refine Ey func284 I hH ?_
 refine Ag (Pre.fact (fun _ h=>(h.rd 0 I).cap) (fun hcap=>Cr I (Ak I (Cs I (Lm I (Lm I (Lm I (Lm I (Lq I (AL I EX I (Hrd 0 I)) (Lq I (JG i (i+1) l.length I EX EC I (Hrd 0 I) I I I I I I (by omega) (by omega) (by omega)) (Ns (Cs I (Lm I (Lm I (Lq I (Qe I) (Nk (Sf 16 I (by omega) (Ab I (Ae (Kt (Cs I (Lm I (Lq I (AL I EX I (Hrd 0 I)) (Ak I (Ag ?_)))))))))))))))))))))))))
 refine Dn (rg 8) 729 (fun _=>True) I St.drawn Tt (Dm I (Dm I (Dq I (Ff i I EX EC I I I (by have:l.length<=cc:=hcap; omega)) (Dm I (Dm I (Dq I (Da (i+1) I EX EC I I I (by omega)) (Sv' 22 (vsl (.slice (some ⟨bb,oo,none⟩) l.length cc) Wn.enc.sz 0 i) I (by simp[vsl,BF]) (Sv' 25 (vsl (.slice (some ⟨bb,oo,none⟩) l.length cc) Wn.enc.sz (i+1) l.length) rfl (by by_cases h9:cc=i+1<;>simp[vsl,BF,h9,AG,Wn.enc]) ?_))))))))
 have hcc:l.length<=vcap (.slice (some ⟨bb,oo,none⟩) l.length cc):=hcap
 refine d_e I (G0 i I I I EX EX EC I I (fun _ h=>CF (h.rd 0 I) (lo:=i+1) (hi:=l.length) (by omega) (ga _)) (by simp only[fK,fJ]; omega) (fun v2 hc2=>Bo (l':=l.eraseIdx i) (by rw[jH,jI]) ?_))
 have hl2:(l.eraseIdx i).length=l.length-1:=by rw[List.length_eraseIdx]; simp; omega
 refine Aj Tt (Das I (AK (Kt (Cs I (Lm I (Lm I (Lq I (AL I EX I (Hrd 0 I)) (Lm I (Lq I (JF (l.eraseIdx i).length l.length I EX EC I (Hrd 0 I) I I I I (by omega) (by omega)) (l_e I (F2 I I EX QU I I (by decide) I (by omega) (by omega) (Nk (Cs I (Lm I (Ak I (Af (An I I ?_)))))))))))))))))
 exact fun _ h=>⟨v2,rfl,trivial,h⟩
theorem NF (l:List En) (hn:l.length<=65536):Con prog 220 [va] (fun w=>RdV w va En.enc l) [] (fun v:Value=>v) (fun _=>True) (fun v=>[Az v 79 En.enc l]):=by
 intro w hl hH
 obtain⟨a,c,rfl⟩:=F0 hl
 refine E0 func220 I hH ?_
 refine Cs I (Ak I (Ag (Cs I (Lm I (Lq I (Fv I U49 I I) (Nk ?_))))))
 refine Pre.caseB 4 I (fun hn=>?_) (fun hn=>?_)
 · rw[jJ] at hn
   subst hn
   have hl0:=EB hl
   subst hl0
   refine Ai I (Cs I (Ak I (Af (Aa (row0 79 En.enc none (An I I ?_))))))
   exact fun _ h=>⟨_,rfl,trivial,h⟩
 · refine Ab I (Ae (Kt (Cs I (l_e I (Ax (sz:=26) [] I I I I I U49 Z79 I zeroValue79 I (fun b=>rowLit En.enc [] I I (Lm I (l_e I (Ap U49 U49 CV I (fun _ h=>hl.keep h (by simp)) (by simp; omega) (fun v=>Ak I (Af ?_)))))))))))
   rw[gO]
   refine An I I ?_
   exact fun _ h=>⟨v,rfl,trivial,h⟩
theorem NG (l:List Int) (hn:l.length<=65536):Con prog 107 [va] (fun w=>RdV w va (AG .i64) l) [] (fun v:Value=>v) (fun _=>True) (fun v=>[Az v 3 (AG .i64) l]):=by
 intro w hl hH
 obtain⟨a,c,rfl⟩:=F0 hl
 refine E0 func107 I hH ?_
 refine Cs I (Ak I (Ag (Cs I (Lm I (Lq I (Fv I U22 I I) (Nk ?_))))))
 refine Pre.caseB 4 I (fun hn=>?_) (fun hn=>?_)
 · rw[jJ] at hn
   subst hn
   have hl0:=EB hl
   subst hl0
   refine Ai I (Cs I (Ak I (Af (Aa (row0 3 (AG .i64) none (An I I ?_))))))
   exact fun _ h=>⟨_,rfl,trivial,h⟩
 · refine Ab I (Ae (Kt (Cs I (l_e I (Ax (sz:=1) [] I I I I I U22 Z3 I zeroValue3 I (fun b=>rowLit (AG .i64) [] I I (Lm I (l_e I (Ap U22 U22 Ez I (fun _ h=>hl.keep h (by simp)) (by simp; omega) (fun v=>Ak I (Af ?_)))))))))))
   rw[gO]
   refine An I I ?_
   exact fun _ h=>⟨v,rfl,trivial,h⟩
theorem NH (l:List (Kv 8)) (hn:l.length<=65536):Con prog 221 [va] (fun w=>RdV w va (Kv.enc 8) l) [] (fun v:Value=>v) (fun _=>True) (fun v=>[Az v 77 (Kv.enc 8) l]):=by
 intro w hl hH
 obtain⟨a,c,rfl⟩:=F0 hl
 refine E0 func221 I hH ?_
 refine Cs I (Ak I (Ag (Cs I (Lm I (Lq I (Fv I Ho I I) (Nk ?_))))))
 refine Pre.caseB 4 I (fun hn=>?_) (fun hn=>?_)
 · rw[jJ] at hn
   subst hn
   have hl0:=EB hl
   subst hl0
   refine Ai I (Cs I (Ak I (Af (Aa (row0 77 (Kv.enc 8) none (An I I ?_))))))
   exact fun _ h=>⟨_,rfl,trivial,h⟩
 · refine Ab I (Ae (Kt (Cs I (l_e I (Ax (sz:=9) [] I I I I I Ho Z77 I zeroValue77 I (fun b=>rowLit (Kv.enc 8) [] I I (Lm I (l_e I (Ap Ho Ho ZK I (fun _ h=>hl.keep h (by simp)) (by simp; omega) (fun v=>Ak I (Af ?_)))))))))))
   rw[gO]
   refine An I I ?_
   exact fun _ h=>⟨v,rfl,trivial,h⟩
theorem NI (l:List Ms) (hn:l.length<=65536):Con prog 222 [va] (fun w=>RdV w va Ms.enc l) [] (fun v:Value=>v) (fun _=>True) (fun v=>[Az v 154 Ms.enc l]):=by
 intro w hl hH
 obtain⟨a,c,rfl⟩:=F0 hl
 refine E0 func222 I hH ?_
 refine Cs I (Ak I (Ag (Cs I (Lm I (Lq I (Fv I BP I I) (Nk ?_))))))
 refine Pre.caseB 4 I (fun hn=>?_) (fun hn=>?_)
 · rw[jJ] at hn
   subst hn
   have hl0:=EB hl
   subst hl0
   refine Ai I (Cs I (Ak I (Af (Aa (row0 154 Ms.enc none (An I I ?_))))))
   exact fun _ h=>⟨_,rfl,trivial,h⟩
 · refine Ab I (Ae (Kt (Cs I (l_e I (Ax (sz:=29) [] I I I I I BP Bi I zeroValue154 I (fun b=>rowLit Ms.enc [] I I (Lm I (l_e I (Ap BP BP Dr I (fun _ h=>hl.keep h (by simp)) (by simp; omega) (fun v=>Ak I (Af ?_)))))))))))
   rw[gO]
   refine An I I ?_
   exact fun _ h=>⟨v,rfl,trivial,h⟩
theorem block_spec (x:Int):Con prog 241 [.int .i64 x] (fun _=>True) [] (fun _:Unit=>.bool (bkB x)) (fun _=>True) (fun _=>[]):=by
 intro w hE hH
 refine E0 func241 I hH ?_
 refine Cs I (Ak I (Cs I (Lm I (Lq I (Qg I) (Lm I ?_)))))
 refine CB 5 I (fun h1=>?_) (fun h1=>?_)
 · refine Lm I (Lq I (Ql I) (Lq I (Qy I) (Ak I (Af (An I I ?_)))))
   exact fun _ h=>⟨(),congrArg (fun z=>Ending.returned (Value.bool z)) (by unfold bkB; rw[jq h1]; rfl),trivial,h⟩
 · refine Lx I (Lx I (Lq I (Qz I) (Ak I (Af (An I I ?_)))))
   exact fun _ h=>⟨(),congrArg (fun z=>Ending.returned (Value.bool z)) (by unfold bkB; rw[jo (by omega)]; rfl),trivial,h⟩
theorem Io (x:Int):Con prog 190 [.int .i64 x] (fun _=>True) [] (fun _:Unit=>.bool (tkB x)) (fun _=>True) (fun _=>[]):=by
 intro w hE hH
 refine E0 func190 I hH ?_
 refine Cs I (Ak I (Cs I (Lm I (Lq I (Qg I) (Lm I ?_)))))
 refine CB 5 I (fun h1=>?_) (fun h1=>?_)
 · refine Lm I (Lq I (Ql I) (Lq I (Qy I) (Ak I (Af (An I I ?_)))))
   exact fun _ h=>⟨(),congrArg (fun z=>Ending.returned (Value.bool z)) (by unfold tkB; rw[jq h1]; rfl),trivial,h⟩
 · refine Lx I (Lx I (Lq I (Qz I) (Ak I (Af (An I I ?_)))))
   exact fun _ h=>⟨(),congrArg (fun z=>Ending.returned (Value.bool z)) (by unfold tkB; rw[jo (by omega)]; rfl),trivial,h⟩
end Go.Proofs.YtloldofjddbjoaaGreat
namespace Go.Proofs.YtloldofjddbjoaaGreat
open Go.Sep Go.RowKit Tryz
variable {bc i B:Nat} {α β:Type} {w0 w:World} {m:Array MapEntry} {b t:Int}
theorem B5 {Q:Prop} (o:Option α) (h1:o=none->Q) (h2:∀i,o=some i->Q):Q:=by cases o with
 |none=>exact h1 rfl
 |some i=>exact h2 i rfl
theorem e_q {P:Program} {n:Nat} {L:Env} {X:World->Prop} {o:Oper} {Q:Exit->Act->World->Prop} {K:Act->World->Prop} {v:Value} {d:Nat} (hd:o.dst=some d) (hn:d.blt n=true) (hq:QOp P n L X o v) (h:Pre n ((d,v)::L) X K):EOp P n L X o Q K :=
 EOp.val (β:=Unit) (fun _=>v) (fun _=>True) (fun _=>X) hd hn (fun a w k x=>⟨(),w,hq a w k x,trivial,x⟩) (fun _ _=>h)
abbrev kI:Int->Value:=Value.int .i64
abbrev vS (q:Sv×List Int):Value:=q.1.v
theorem JR:Hs prog 3 kI:=Sq .i64 U3
def wn (q:Int×Int):Wn:=⟨q.1,q.2,decide (q.2 = -1)⟩
structure CS where
 vF:Value
 fl:List FC
 bA:Nat
 at':List (Int×Int)
 bL:Nat
 ld:List (Int×(Sv×List Int))
 vL:Value
 ln:List Wn
 hand:Int
namespace CS
def cells (S:CS):List Value:=[S.vF,.map (some S.bA),.map (some S.bL),S.vL,.int .i64 S.hand]
def rows (S:CS):List Ent:=S.ld.map (fun q=>Az q.2.1.v 3 (AG .i64) q.2.2)
def H (bc:Nat) (S:CS):List Ent:=[Ad bc 257 S.cells,Az S.vF 259 FC.enc S.fl,BH S.bA kI kI S.at',BH S.bL kI vS S.ld,Az S.vL 277 Wn.enc S.ln]++S.rows
end CS
structure CR (w:World) (bc:Nat) (S:CS):Prop where
 c:(Ad bc 257 S.cells).at w
 f:RdV w S.vF FC.enc S.fl
 a:(BH S.bA kI kI S.at').at w
 m:(BH S.bL kI vS S.ld).at w
 l:RdV w S.vL Wn.enc S.ln
 r:∀q∈S.ld,RdV w q.2.1.v (AG .i64) q.2.2
theorem CR.of {D:List Nat} {S:CS} {F:List Ent} (h:St w0 D (S.H bc++F) w):CR w bc S :=
 ⟨h.at 0 rfl,h.rd 1 rfl,h.at 2 rfl,h.at 3 rfl,h.rd 4 rfl,fun q hq=>BO (h.hp.holds _ (gi _ (iU _ (gj.2 ⟨q,hq,rfl⟩))))⟩
theorem CR.keep {S:CS} {H:List Ent} (h:CR w0 bc S) (s:St w0 [] H w):CR w bc S :=
 ⟨Ny h.c s (by simp),h.f.keep s (by simp),Lb h.a s (by simp),Lb h.m s (by simp),h.l.keep s (by simp),fun q hq=>(h.r q hq).keep s (by simp)⟩
structure Rel (S:CS) (M:Mo):Prop where
 fr:S.fl.map vw=M.fr
 ln:S.ln=M.line.map wn
 hd:S.hand=M.hand
 at':∀b,Cn b S.at'=Option.map (fun i:Nat=>(i:Int)) (M.find b)
 ld:∀b,M.told b=match Cn b S.ld with|some q=>q.2|none=>[]
 nd:(S.ld.map Prod.fst).Nodup
 na:(S.at'.map Prod.fst).Nodup
theorem Rel.len {S:CS} {M:Mo} (h:Rel S M):S.fl.length=M.fr.length:=by rw[<-h.fr,gS]
theorem Rel.lnl {S:CS} {M:Mo} (h:Rel S M):S.ln.length=M.line.length:=by rw[h.ln,gS]
theorem Rel.get {S:CS} {M:Mo} (h:Rel S M) {i:Nat} {y:Vw} (hy:M.fr[i]?=some y):∃f,S.fl[i]?=some f/\vw f=y:=by
 rw[<-h.fr,gm,hU] at hy; exact hy
theorem Rel.vw_at {S:CS} {M:Mo} (h:Rel S M) {i:Nat} {f:FC} (hf:S.fl[i]?=some f):M.fr[i]?=some (vw f):=by rw[<-h.fr,gm,hf]; rfl
theorem JS {M:Mo} {y:Vw} (h:M.fr[i]?=some y):M.at' i=y:=by unfold Mo.at'; rw[ju,h]; rfl
theorem Ec {M:Mo} (h:M.find b=some i):∃y,M.fr[i]?=some y/\y.blk=b/\(y.st=1\/y.st=2)/\M.at' i=y:=by
 obtain⟨y,h1,h2,_⟩:=C6 h
 simp only[isB,gQ,Bool.or_eq_true,ia] at h2
 exact⟨y,h1,h2.1,h2.2,JS h1⟩
theorem G8 {M:Mo} {st:Int} (h:M.frI b st=some i):M.find b=some i/\(M.at' i).st=st:=by
 unfold Mo.frI at h
 split at h
 · rename_i j hj
   split at h
   · rename_i hs; cases h; exact⟨hj,hs⟩
   · cases h
 · cases h
abbrev fp (v:Value) (i:Nat):Value:=.pointer (some ⟨blk v,EW v+i*11,none⟩)
def fpo (v:Value):Option Nat->Value
 |some i=>fp v i
 |none=>.pointer none
theorem ey (q:Int×Int):(wn q).t=q.1:=rfl
theorem Uq {S:CS} {M:Mo} (h:Rel S M) (t:Int):Cp (fun z:Wn=>decide (z.t=t)) S.ln=M.stand t:=by
 rw[h.ln]; unfold Mo.stand; rw[NB]; rfl
theorem JT {M:Mo} (h:M.stand t=some i):∃q,M.line[i]?=some q/\q.1=t:=by
 obtain⟨q,h1,h2,_⟩:=C6 h; exact⟨q,h1,jt h2⟩
theorem JU [DecidableEq α] {a:α} {y:β}:∀{l:List (α×β)},Cn a l=some y->(a,y)∈l
 |[],h=>by cases h
 |(x,z)::l,h=>by
  simp only[Cn] at h
  split at h
  · rename_i e; cases h; subst e; exact iG ..
  · exact iR _ (JU h)
theorem JV [DecidableEq α] {a:α} {y:β}:∀{l:List (α×β)},(l.map Prod.fst).Nodup->(a,y)∈l->Cn a l=some y
 |[],_,h=>by cases h
 |(x,z)::l,hn,h=>by
  obtain⟨h1,h2⟩:=iS.1 hn
  simp only[Cn]
  rcases fq.1 h with h5|h5
  · cases h5; rw[fO rfl]
  · rw[fR (fun e=>h1 (by subst e; exact gj.2 ⟨_,h5,rfl⟩))]; exact JV h2 h5
theorem Gv (a:Int) (v:β):∀{l:List (Int×β)},(l.map Prod.fst).Nodup->((BJ a v l).map Prod.fst).Nodup
 |[],_=>by simp[BJ]
 |(x,y)::l,h=>by
  obtain⟨h1,h2⟩:=iS.1 h
  simp only[BJ]
  split
  · rename_i e; subst e; exact iS.2 ⟨h1,h2⟩
  · rename_i e
    refine iS.2 ⟨fun hm=>?_,Gv a v h2⟩
    have:∀{l:List (Int×β)},x∈(BJ a v l).map Prod.fst->x=a\/x∈l.map Prod.fst:=by
     intro l
     induction l with
     |nil=>intro h; simp[BJ] at h; exact .inl h
     |cons p l ih =>
      intro h
      simp only[BJ] at h
      split at h
      · rename_i e2
        rcases fq.1 h with h|h
        · exact .inl h
        · exact .inr (iR _ h)
      · rcases fq.1 h with h|h
        · exact .inr (by rw[h]; exact iG ..)
        · rcases ih h with h|h
          · exact .inl h
          · exact .inr (iR _ h)
    rcases this hm with h5|h5
    · exact e h5.symm
    · exact h1 h5
theorem waits_iff {S:CS} {M:Mo} (h:Rel S M) (t:Int):M.waits t=true↔∃q∈S.ld,t∈q.2.2:=by
 constructor
 · intro hw
   obtain⟨q,hq,hqt⟩:=iB.1 hw
   have ht:t∈M.told q.2:=gj.2 ⟨q,jE.2 ⟨hq,by simp⟩,jt hqt⟩
   rw[h.ld] at ht
   cases hm:Cn q.2 S.ld with
   |none=>rw[hm] at ht; cases ht
   |some r=>rw[hm] at ht; exact⟨_,JU hm,ht⟩
 · rintro⟨q,hq,ht⟩
   have hm:Cn q.1 S.ld=some q.2:=JV h.nd (by obtain⟨a,b⟩:=q; exact hq)
   have:=h.ld q.1
   rw[hm] at this
   have ht:t∈M.told q.1:=by rw[this]; exact ht
   obtain⟨p,hp,e⟩:=gj.1 ht
   exact iB.2 ⟨p,(jE.1 hp).1,jq e⟩
theorem D7 {S:CS} {M:Mo} (hR:Rel S M) (hO:M.Ok B) (b:Int):Con prog 194 [.pointer (some ⟨bc,0,none⟩),.int .i64 b] (fun w=>CR w bc S) [] (fun _:Unit=>.int .i64 (io (M.find b))) (fun _=>True) (fun _=>[]):=by
 intro w hC hH
 refine E0 func194 I hH ?_
 refine Cs I (Ak I (Cs I (Lm I (Lc I (Lfa C7 I sizeOf89 I (Lq I (Ao I isAgg89 I (fun _ h=>(CR.keep hC h).c) I) (Lm I (Lq I (JN (kf:=kI) (vf:=kI) b I U89 JR zeroValue3 I I (fun _ h=>(CR.keep hC h).a)) (Lm I (Lq I (Qx I) (Lq I (Qx I) (Las I (Ak I (Ag (Ag ?_)))))))))))))))
 refine B5 (M.find b) (fun hf=>?_) (fun i hf=>?_)
 · have hm:=hR.at' b
   rw[hf,Option.map_none] at hm
   refine Sv' 6 (.bool false) I (by rw[hm]; rfl) (Cr I (Lm I (Lq I (Qt I) (Nk (Ai I (Cs I (Ak I (Af (Aa (An I I ?_))))))))))
   exact fun _ h=>⟨(),congrArg (fun z=>Ending.returned (Value.int .i64 z)) (by rw[hf]; rfl),trivial,h⟩
 · have hm:=hR.at' b
   rw[hf,gp] at hm
   refine Sv' 6 (.bool true) I (by rw[hm]; rfl) (Sv' 5 (.int .i64 (i:Int)) I (by rw[hm]) (Cr I (Lm I (Lq I (Qt I) (Nk (Ab I (Ae (Kt (Cs I (Lm I (Ak I (Af (An I I ?_)))))))))))))
   exact fun _ h=>⟨(),congrArg (fun z=>Ending.returned (Value.int .i64 z)) (by rw[hf]; rfl),trivial,h⟩
theorem c6 {v:Value} {E:Enc α} {l:List α} {b:Nat} {φ:Option Obj->Prop} {H:List Ent} (h:RdV w0 v E l) (s:St w0 [] (⟨some b,φ⟩::H) w):blk v≠b\/l=[]:=by
 by_cases hl:l=[]
 · exact .inr hl
 · refine .inl (fun e=>?_)
   have h1:=h.lt hl
   have h2:b∈([]:List Nat)\/w0.heap.size<=b:=s.dom b (iG ..)
   rcases h2 with h2|h2
   · cases h2
   · omega
section
variable {n:Nat} {L:Env} {X:World->Prop} {o:Oper}
def wks:List Sc:=[.i .i64,.i .i64,.b]
def i64 (z:Int):Prop:=(Lit.int .i64 z).wf=true
theorem JW {z:Int} (h0 : -60000<=z) (h1:z<=60000):i64 z:=by
 unfold i64
 simp only[Lit.wf,gQ,ia]
 exact⟨by show (-2^63:Int)<=_; omega,by show _<=(2^63-1:Int); omega⟩
theorem Wn.kinds {w:Wn} (ht:i64 w.t) (hb:i64 w.b):Kinds wks w.c:=by
 refine⟨rfl,fun j k v h1 h2=>?_⟩
 match j with
 |0=>cases h1; cases h2; exact⟨_,rfl,ht⟩
 |1=>cases h1; cases h2; exact⟨_,rfl,hb⟩
 |2=>cases h1; cases h2; exact⟨_,rfl⟩
 |j+3=>simp[wks] at h1
theorem Wn.c_inj {a b:Wn}:a.c=b.c↔a=b:=by
 refine⟨fun h=>?_,fun h=>by rw[h]⟩
 simp only[Wn.c,List.cons.injEq,Value.int.injEq,Value.bool.injEq,true_and,and_true] at h
 exact Wn.ext' h.1 h.2.1 h.2.2
theorem c7 {u:TypeId} {x y:Operand} (k j:Wn) (hk:i64 k.t/\i64 k.b) (hj:i64 j.t/\i64 j.b) (ho:o.op=.binOp .eql 277 x y u) (hx:ev L x=some (.agg k.c.toArray)) (hy:ev L y=some (.agg j.c.toArray)):QOp prog n L X o (.bool (decide (k=j))) :=
 Jh (d:=3) (ks:=wks) _ (by kernel_rfl) (by kernel_rfl) (by decide) (by kernel_rfl) (by kernel_rfl) (by kernel_rfl) ho hx hy (Wn.kinds hk.1 hk.2) (Wn.kinds hj.1 hj.2) (by rw[Wn.c_inj,ia])
end
theorem c8 {p q:Int×Int}:decide (wn p=wn q)=decide (p=q):=by
 rw[jF]
 refine⟨fun h=>?_,fun h=>by rw[h]⟩
 have h1:=congrArg Wn.t h
 have h2:=congrArg Wn.b h
 exact Prod.ext h1 h2
theorem c9 {S:CS} (h:m.toList.map (fun e=>(e.key,e.val))=S.ld.map (fun p=>(kI p.1,vS p.2))) {e:MapEntry} (he:e∈m.toList):∃(i:Nat) (q:Int×(Sv×List Int)),m[i]?=some e/\S.ld[i]?=some q/\e.val=q.2.1.v:=by
 obtain⟨i,hi⟩:=jK.1 he
 have h1:(m.toList.map (fun e=>(e.key,e.val)))[i]?=some (e.key,e.val):=by rw[gm,hi]; rfl
 rw[h,gm,hU] at h1
 obtain⟨q,hq,e2⟩:=h1
 exact⟨i,q,by simpa using hi,hq,(congrArg Prod.snd e2).symm⟩
theorem da {S:CS} (h:m.toList.map (fun e=>(e.key,e.val))=S.ld.map (fun p=>(kI p.1,vS p.2))) {q:Int×(Sv×List Int)} (hq:q∈S.ld):∃(i:Nat) (e:MapEntry),S.ld[i]?=some q/\m[i]?=some e/\e∈m.toList:=by
 obtain⟨i,hi⟩:=jK.1 hq
 have hl:=congrArg List.length h
 simp only[gS,ij] at hl
 have hlt:=(gl.1 hi).1
 exact⟨i,m[i],hi,jA (by omega),by simp⟩
theorem Ur (hn:(m.toList.map (·.born)).Nodup) {i j:Nat} {e f:MapEntry} (he:m[i]?=some e) (hf:m[j]?=some f) (h:e.born=f.born):i=j:=by
 have hi:=(fY.1 he).1
 have hj:=(fY.1 hf).1
 refine (List.getElem_inj (h₀:=by simpa using hi) (h₁:=by simpa using hj) hn).1 ?_
 have e1:=(fY.1 he).2
 have e2:=(fY.1 hf).2
 simp[e1,e2,h]
theorem JX {l:List Int}:(Cp (fun z=>decide (z=t)) l).isSome=true↔t∈l:=by
 constructor
 · intro h
   obtain⟨k,hk⟩:=Option.isSome_iff_exists.1 h
   obtain⟨y,hy,hp,_⟩:=C6 hk
   have:=jt hp
   subst this; exact hY hy
 · intro h
   cases hf:Cp (fun z=>decide (z=t)) l with
   |some _=>rfl
   |none=>have:=Ji hf t h; simp at this
theorem EO {S:CS} {M:Mo} (hR:Rel S M) (hO:M.Ok B) (b st:Int):Con prog 165 [.pointer (some ⟨bc,0,none⟩),.int .i64 b,.int .i64 st] (fun w=>CR w bc S) [] (fun _:Unit=>fpo S.vF (M.frI b st)) (fun _=>True) (fun _=>[]):=by
 intro w hC hH
 refine E0 func165 I hH ?_
 refine Cs I (Ak I (Cs I (Lm I (Lm I (l_e I (E1 (D7 hR hO b) I call194 (fun _ h=>CR.keep hC h) (fun _ _=>Ak I (Ag (Ag ?_)))))))))
 refine B5 (M.find b) (fun hf=>?_) (fun i hf=>?_)
 · refine Sv' 7 (.int .i64 (-1)) I (by rw[hf]; rfl) (Cr I (Lm I (Lq I (Ql I) (Lm I (Sb 13 true I (I) (Lx I (Lx I (Lx I (Lx I (Lx I (Lx I (Lx I (Lx I (Lx I (Lx I (Lq I (Qy I) (Nk (Ai I (Cs I (Ak I (Af (Aa (An I I ?_)))))))))))))))))))))))
   exact fun _ h=>⟨(),congrArg (fun z=>Ending.returned z) (by unfold Mo.frI; rw[hf]; rfl),trivial,h.e8⟩
 · obtain⟨y,hy,hyb,hys,hya⟩:=Ec hf
   obtain⟨f,hfi,hfy⟩:=hR.get hy
   have hlt:=(gl.1 hfi).1
   have hst:(M.at' i).st=f.st:=by rw[hya,<-hfy]; rfl
   refine Sv' 7 (.int .i64 (i:Int)) I (by rw[hf]; rfl) (Cr I (Lm I (Lq I (Ql I) (Lm I (Sf 13 I (by omega) (Lm I (Lc I (Lfa C7 I FN I (Lq I (Ao I Gy I (fun _ h=>(CR.keep hC h).c) I) (Lm I (Lq I (As i I Fh EM I (fun _ h=>hC.f.keep h (by simp[dom])) I I (by omega)) (Lfa Er I Z3 I (Lq I (AI i 0 I G3 I I (fun _ h=>hC.f.keep h (by simp[dom])) hfi I) (Lm I (Lq I (Qn I) (Lq I (Qz I) (Nk ?_)))))))))))))))))
   refine CB 24 I (fun hs=>?_) (fun hs=>?_)
   · refine Ai I (Cs I (Ak I (Af (Aa (An I I ?_)))))
     exact fun _ h=>⟨(),congrArg (fun z=>Ending.returned z) (by unfold Mo.frI; rw[hf]; simp only; rw[fR (by rw[hst]; exact hs)]; rfl),trivial,h.e8⟩
   · refine Ab I (Ae (Kt (Cs I (Lm I (Lc I (Lfa C7 I FN I (Lq I (Ao I Gy I (fun _ h=>(CR.keep hC h).c) I) (Lm I (Lq I (As i I Fh EM I (fun _ h=>hC.f.keep h (by simp[dom])) I I (by omega)) (Ak I (Af (An I I ?_))))))))))))
     exact fun _ h=>⟨(),congrArg (fun z=>Ending.returned z) (by unfold Mo.frI; rw[hf]; simp only; rw[fO (by rw[hst]; exact hs)]; rfl),trivial,h.e8⟩
theorem E6 {S:CS} {M:Mo} (hR:Rel S M) (hO:M.Ok B) (t:Int):Con prog 192 [.pointer (some ⟨bc,0,none⟩),.int .i64 t] (fun w=>CR w bc S) [] (fun _:Unit=>.int .i64 (io (M.stand t))) (fun _=>True) (fun _=>[]):=by
 intro w hC hH
 refine E0 func192 I hH ?_
 refine Cs I (l_e I (AQ I I I I (fun bt=>Ce [.int .i64 t] I (Ak I (Cs I (Lm I (Lc I (Lfa C7 I H9 I (Lq I (Ao I Ma I (fun _ h=>(CR.keep hC h).c) I) (Lq I (DD (fn:=.func 0) (us:=#[.pointer (some ⟨bt,0,none⟩)]) 256 I (vs:=#[]) (fun a k=>by simp) (fun a k=>by simp[k.eval (x:=.tmp 3) rfl])) (Pre.fact (fun _ h=>c6 hC.l h) (fun hb=>l_e I (Bg (indexf_spec S.ln bt hb t (by have:=hR.lnl; have:=hO.lB; have:=hO.B9; omega)) I I I call255 I (fun _ h=>(CR.keep hC h).l) (fun _ _=>Ak I (Af (An I I ?_))))))))))))))))
 exact fun _ h=>⟨(),congrArg (fun z=>Ending.returned (Value.int .i64 z)) (by rw[Uq hR]),trivial,h.e8⟩
theorem waits_spec {S : CS} {M : Mo} (hR : Rel S M) (hO : M.Ok B) (t : Int) : Con prog 191 [.pointer (some ⟨bc, 0, none⟩), .int .i64 t] (fun w => CR w bc S) [] (fun _ : Unit => .bool (M.waits t)) (fun _ => True) (fun _ => []) := by
  intro w hC hH
  refine E0 func191 I hH ?_
  refine Cs I (Ak I (Ag (Cs I (Lm I (Lc I (Lfa C7 I R8 I (Lq I (Ao I isAgg254 I (fun _ h => (CR.keep hC h).c) I) ?_)))))))
  obtain ⟨m, c, hm, hkv, hT⟩ := Ht hC.m
  have hX : Sr S.bL m c w := hm
  refine l_e I (XB I I I Pk I (fun _ h => Ie hX h (by simp)) (fun r => Nk (Al ?_)))
  refine Bc (fun (seen : Array Nat) => [(1, .int .i64 t), (11, .pointer (some ⟨r, 0, none⟩))]) (fun (seen : Array Nat) => St w [] [itE r S.bL c seen]) (fun (seen : Array Nat) => ∀ (i : Nat) (e : MapEntry) (q : Int × (Sv × List Int)), m[i]? = some e -> S.ld[i]? = some q -> seen.contains e.born = true -> t ∉ q.2.2) (fun (seen : Array Nat) => QX m seen) (#[]) (fun i e q h1 h2 h3 => by simp at h3) (Si I) Ih (fun seen hp => Cs I (l_e I ?_))
  refine ZN I I I I hT.1 (fun _ h => Ie hX h (by simp)) (fun h0 => ?_) (fun e he => ?_)
  · refine Lq I (Qx I) (Ns (Ab I (AO (Ac (Ac (Ar (Kt (Cs I (Ak I (Af (Av ?_)))))))))))
    have hno := Su h0
    refine An I I ?_
    exact fun _ h => ⟨(), congrArg (fun z => Ending.returned (Value.bool z)) ((by
          rw [iv] 
          intro hw
          obtain ⟨q, hq, ht⟩ := (waits_iff hR t).1 hw
          obtain ⟨i, e, h1, h2, h3⟩ := da hkv hq
          exact hp i e q h2 h1 (hno e h3) ht : M.waits t = false).symm), trivial, h.e8⟩
  · obtain ⟨hem, hes⟩ := Nx he
    obtain ⟨i, q, hmi, hqi, hval⟩ := c9 hkv hem
    have hq := hY hqi
    refine Lq I (Qx I) (Ns (Ai I (Ae (Kt (Al (Cs I (Lq I (XC I I hT.2 hem (fun _ h => Ie hX h (by simp)) (Hat 0 I)) (Lq I (Qx I) (Ak I (Ag (Sv' 6 (q.2.1.v) I (hval) (Cr I (Lm I (Lm I ?_))))))))))))))
    have hqm : Cn q.1 S.ld = some q.2 := JV hR.nd hq
    have hql : q.2.2.length <= 65536 := by
      have h1 := hR.ld q.1
      rw [hqm] at h1
      have h2 : q.2.2 = M.told q.1 := h1.symm
      rw [h2]; unfold Mo.told
      rw [gS]
      exact gF (jL _ _) (by have := hO.ll; have := hO.B9; omega)
    refine l_e I (E1 (contains_spec q.2.2 t hql) I call105 (fun _ h => (hC.r q hq).keep h (by simp)) (fun _ _ => Nk ?_))
    refine Pre.caseB 18 I (fun hc => ?_) (fun hc => ?_)
    · refine Ai I (Cs I (Ak I (Af (Am (Aa (Am (Aa (An I I ?_))))))))
      exact fun _ h => ⟨(), congrArg (fun z => Ending.returned (Value.bool z)) (((waits_iff hR t).2 ⟨q, hq, JX.1 hc⟩).symm), trivial, h.e8⟩
    · refine Ab I (Ae (Aw ?_))
      exact AD (seen.push e.born) (Ss he) (fun i' e' q' h1 h2 h3 ht => by
          rw [Array.contains_push, Bool.or_eq_true] at h3
          rcases h3.symm with h3 | h3
          · have hb : e'.born = e.born := by first | exact (iC.1 h3).symm | exact iC.1 h3
            have := Ur hT.2 h1 hmi hb
            subst this
            rw [hqi] at h2; cases h2
            have := JX.2 ht
            rw [hc] at this; cases this
          · exact hp i' e' q' h1 h2 h3 ht) (Si I) (fun _ h => h)
end Go.Proofs.YtloldofjddbjoaaGreat
namespace Go.Proofs.YtloldofjddbjoaaGreat
open Go.Sep Go.RowKit Tryz
variable {B bc i j:Nat} {T pre:List Ent} {e:Ent} {α:Type} {b t:Int} {w0 w:World}
theorem JY {Q:Prop} (l:List α) (h1:l=[]->Q) (h2:∀q r,l=q::r->Q):Q:=by cases l with
 |nil=>exact h1 rfl
 |cons q r=>exact h2 q r rfl
theorem IT {p:α->Bool} {l:List α} {x:α} (h:l[i]?=some x):(l.take (i+1)).countP p=(l.take i).countP p+(if p x=true then 1 else 0):=by
 rw[jd,h,List.countP_append]; simp[List.countP_cons]
def cls (M:Mo) (t:Int) (i:Nat):List Nat:=(List.range i).filter (fun j=>isC t (M.at' j))
theorem JZ (M:Mo) (t:Int) (i:Nat):cls M t (i+1)=if isC t (M.at' i)=true then cls M t i++[i] else cls M t i:=by
 unfold cls; rw[jM,jN]
 cases h:isC t (M.at' i)<;>simp[h]
theorem Mr (M:Mo) (t:Int) (i:Nat):(cls M t i).length<=i:=by
 have:=jL (fun j=>isC t (M.at' j)) (List.range i)
 rw[jO] at this; exact this
theorem Li (M:Mo) (t:Int):∀i,i<=M.fr.length->(cls M t i).length=(M.fr.take i).countP (isC t)
 |0,_=>rfl
 |i+1,h=>by
  obtain⟨y,hy⟩:∃y,M.fr[i]?=some y:=⟨_,fD (by omega)⟩
  rw[JZ,IT hy,JS hy,<-Li M t i (by omega)]
  split<;>simp
theorem Q6 (M:Mo) (t:Int):(cls M t M.fr.length).length=M.claims t:=by
 rw[Li M t _ (ga _),jH]; rfl
def Lj (v:Value):Enc Nat:=⟨1,fun i=>[fp v i],fun _=>rfl,fun a u h=>by simp at h; subst h; rfl,by decide⟩
theorem ZV (t:Int) (f:FC):isC t (vw f)=(decide (f.st=3)&&decide (f.own=t)):=by
 unfold isC vw
 by_cases h:f.st=3<;>simp[h]
theorem Us {M:Mo} (h1:tkB t=true) (h2:M.waits t=false) (h:M.stand t=none):M.may t=true:=by unfold Mo.may; rw[h1,h2,h]; rfl
theorem Ut {M:Mo} {k:Nat} {q:Int×Int} (h1:tkB t=true) (h2:M.waits t=false) (h:M.stand t=some k) (hq:M.line[k]?=some q):M.may t=((decide (k=0)&&decide (0<M.free))||(M.find q.2).isSome):=by
 have hg:M.line.getD k (0,-1)=q:=by rw[ju,hq]; rfl
 unfold Mo.may
 rw[h1,h2,h]
 show (true&&!false&&(decide (k=0)&&decide (0<M.free)||(M.find (M.line.getD k (0,-1)).2).isSome))=_
 rw[hg]
 simp
theorem may_spec {S:CS} {M:Mo} (hR:Rel S M) (hO:M.Ok B) (t b:Int) (hb64:i64 b):Con prog 242 [.pointer (some ⟨bc,0,none⟩),.agg (wn (t,b)).c.toArray] (fun w=>CR w bc S) [] (fun _:Unit=>.bool (M.mayW t b)) (fun _=>True) (fun _=>[]):=by
 intro w hC hH
 refine E0 func242 I hH ?_
 refine Cs I (l_e I (AQ I I I I (fun bw=>Ce (wn (t,b)).c I (Ak I (Cs I (Lm I (Lfa JD I Z3 I (Lo G3 0 I (l_e I (E1 (E6 hR hO t) I call192 (fun _ h=>CR.keep hC h) (fun _ _=>Ak I (Ag ?_))))))))))))
 refine B5 (M.stand t) (fun hs=>?_) (fun i hs=>?_)
 · refine Sv' 5 (.int .i64 (-1)) I (by rw[hs]; rfl) (Dn (rg 26) 2196 (fun w2=>CR w2 bc S/\(Ad bw 277 (wn (t,b)).c).at w2) I St.drawn (fun _ h=>⟨CR.keep hC h,h.at 0 rfl⟩) (Dfa JD I Z3 I (Dq I (Ao I G3 I (fun _ h=>h.2) I) (d_e I (E1 (Io t) I call190 Tt (fun _ _=>Aj (fun _ h=>⟨CR.keep hC h,h.at 0 rfl⟩) (Dm I ?_)))))))
   refine Pre.caseB 13 I (fun h1=>?_) (fun h1=>?_)
   · have ht8:0<=t/\t<8:=by unfold tkB at h1; simpa using h1
     have ht64:i64 t:=JW (by omega) (by omega)
     refine Dm I (Dfa JD I Z3 I (Dq I (Ao I G3 I (fun _ h=>h.2) I) (d_e I (E1 (waits_spec hR hO t) I call191 (fun _ h=>CR.keep hC h) (fun _ _=>Aj (fun _ h=>⟨CR.keep hC h,h.at 0 rfl⟩) (Dq I (Qt I) (Dq I (Qy I) (Dm I ?_))))))))
     refine CB 20 I (fun h2=>?_) (fun h2=>?_)
     · refine Dm I (Dq I (Ql I) (Dm I (Sb 23 true I (I) (Dx I (Dx I (Dx I (Dx I (Dx I (Dx I (Dx I (Dx I (Dx I (Dq I (Qy I) (Dq I (Qy I) (Das I (AK (Kt (Af (An I I ?_)))))))))))))))))))
       exact fun _ h=>⟨(),congrArg (fun z=>Ending.returned (Value.bool z)) (by unfold Mo.mayW; rw[h1,h2,hs]; rfl),trivial,h.e8⟩
     · refine Dx I (Dx I (Dx I (Dx I (Dx I (Dx I (Dx I (Dx I (Dx I (Dx I (Dx I (Dx I (Dx I (Dq I (Qz I) (Das I (AK (Kt (Af (An I I ?_))))))))))))))))))
       exact fun _ h=>⟨(),congrArg (fun z=>Ending.returned (Value.bool z)) (by unfold Mo.mayW; rw[h1,h2]; rfl),trivial,h.e8⟩
   · refine Dx I (Dx I (Dx I (Dx I (Dx I (Dq I (Qz I) (Dm I (Dx I (Dx I (Dx I (Dx I (Dx I (Dx I (Dx I (Dx I (Dx I (Dx I (Dx I (Dx I (Dx I (Dq I (Qz I) (Das I (AK (Kt ?_)))))))))))))))))))))))
     refine Af (An I I ?_)
     exact fun _ h=>⟨(),congrArg (fun z=>Ending.returned (Value.bool z)) (by unfold Mo.mayW; rw[h1]; rfl),trivial,h.e8⟩
 · obtain⟨q,hq,hqt⟩:=JT hs
   have hli:S.ln[i]?=some (wn q):=by rw[hR.ln,gm,hq]; rfl
   have hlt:=(gl.1 hli).1
   refine Sv' 5 (.int .i64 (i:Int)) I (by rw[hs]; rfl) (Dn (rg 26) 2196 (fun w2=>CR w2 bc S/\(Ad bw 277 (wn (t,b)).c).at w2) I St.drawn (fun _ h=>⟨CR.keep hC h,h.at 0 rfl⟩) (Dfa JD I Z3 I (Dq I (Ao I G3 I (fun _ h=>h.2) I) (d_e I (E1 (Io t) I call190 Tt (fun _ _=>Aj (fun _ h=>⟨CR.keep hC h,h.at 0 rfl⟩) (Dm I ?_)))))))
   refine Pre.caseB 13 I (fun h1=>?_) (fun h1=>?_)
   · have ht8:0<=t/\t<8:=by unfold tkB at h1; simpa using h1
     have ht64:i64 t:=JW (by omega) (by omega)
     refine Dm I (Dfa JD I Z3 I (Dq I (Ao I G3 I (fun _ h=>h.2) I) (d_e I (E1 (waits_spec hR hO t) I call191 (fun _ h=>CR.keep hC h) (fun _ _=>Aj (fun _ h=>⟨CR.keep hC h,h.at 0 rfl⟩) (Dq I (Qt I) (Dq I (Qy I) (Dm I ?_))))))))
     refine CB 20 I (fun h2=>?_) (fun h2=>?_)
     · refine Dm I (Dq I (Ql I) (Dm I (Sf 23 I (by omega) (Dm I (Dc I (Dfa C7 I H9 I (Dq I (Ao I Ma I (fun _ h=>(h.1).c) I) (Dm I (Dq I (As i I EX EC I (fun _ h=>(h.1).l) I I (by omega)) (Dq I (AU i I L9 EC I I (fun _ h=>(h.1).l) hli) (Dq I (AP ((wn (t,b)).c) I L9 EC I (fun _ h=>h.2) (I) (I)) (Dq I (c7 (wn q) (wn (t,b)) ⟨by rw[ey,hqt]; exact ht64,JW (by have:=hO.lb q (hY hq); show -60000<=q.2; omega) (by have:=hO.lb q (hY hq); show q.2<=60000; omega)⟩ ⟨ht64,hb64⟩ I I I) (Dq I (Qz I) (Dq I (Qy I) (Das I (AK (Kt (Af (An I I ?_)))))))))))))))))))
       exact fun _ h=>⟨(),congrArg (fun z=>Ending.returned (Value.bool z)) (by rw[c8]; unfold Mo.mayW; rw[h1,h2,hs]; show _=(true&&!false&&decide (M.line[i]?=some (t,b))); rw[hq]; simp),trivial,h.e8⟩
     · refine Dx I (Dx I (Dx I (Dx I (Dx I (Dx I (Dx I (Dx I (Dx I (Dx I (Dx I (Dx I (Dx I (Dq I (Qz I) (Das I (AK (Kt (Af (An I I ?_))))))))))))))))))
       exact fun _ h=>⟨(),congrArg (fun z=>Ending.returned (Value.bool z)) (by unfold Mo.mayW; rw[h1,h2]; rfl),trivial,h.e8⟩
   · refine Dx I (Dx I (Dx I (Dx I (Dx I (Dq I (Qz I) (Dm I (Dx I (Dx I (Dx I (Dx I (Dx I (Dx I (Dx I (Dx I (Dx I (Dx I (Dx I (Dx I (Dx I (Dq I (Qz I) (Das I (AK (Kt ?_)))))))))))))))))))))))
     refine Af (An I I ?_)
     exact fun _ h=>⟨(),congrArg (fun z=>Ending.returned (Value.bool z)) (by unfold Mo.mayW; rw[h1]; rfl),trivial,h.e8⟩
theorem free_spec {S:CS} {M:Mo} (hR:Rel S M) (hO:M.Ok B) (t:Int):Con prog 244 [.pointer (some ⟨bc,0,none⟩),.int .i64 t] (fun w=>CR w bc S) [] (fun _:Unit=>fpo S.vF (M.takes t)) (fun _=>True) (fun _=>[]):=by
 intro w hC hH
 refine E0 func244 I hH ?_
 refine Cs I (Ak I (Ag (Cs I (Lm I (Lc I (Lfa C7 I H9 I (Lq I (Ao I Ma I (fun _ h=>(CR.keep hC h).c) I) (Lq I (AL I EX I (fun _ h=>hC.l.keep h (by simp[dom]))) (Lq I (BS I I I) (Lm I ?_))))))))))
 refine JY M.line (fun hl=>?_) (fun q r hl=>?_)
 · have h0:S.ln.length=0:=by rw[hR.lnl,hl]; rfl
   have ht:M.turn t=true:=by unfold Mo.turn; rw[hl]
   refine Sf 12 I (by omega) (Lx I (Lx I (Lx I (Lx I (Lx I (Lx I (Lx I (Lx I (Lx I (Lq I (Qz I) (Nk (Ab I (Ae (Ks (Cs I (Lm I (Lc I (Lfa C7 I FN I (Lq I (Ao I Gy I (fun _ h=>(CR.keep hC h).c) I) (Lq I (AL I Fh I (fun _ h=>hC.f.keep h (by simp[dom]))) (Lm I (Nk (Al ?_)))))))))))))))))))))))
   refine Bc (fun (i:Nat)=>[(0,.pointer (some ⟨bc,0,none⟩)),(1,.int .i64 t),(27,.int .i64 (S.fl.length:Int)),(28,.int .i64 (i:Int))]) (fun (i:Nat)=>St w [] []) (fun (i:Nat)=>i<=S.fl.length/\∀z∈M.fr.take i,isF z=false) (fun (i:Nat)=>S.fl.length-i) (0) ⟨gb _,by simp⟩ (Si I) Ih (fun i hp=>Ag ?_)
   obtain⟨hi,hno⟩:=hp
   have hfl:=hR.len
   have h64:=hO.n64
   refine Cr I (Lq I (Ql I) (Ns ?_))
   refine CB 29 I (fun h1=>?_) (fun h1=>?_)
   · obtain⟨f,hfi⟩:∃f,S.fl[i]?=some f:=⟨_,fD (by omega)⟩
     have hv:=hR.vw_at hfi
     refine Ai I (Ae (Ks (Al (Cs I (Lm I (Ak I (Cs I (Lm I (Lc I (Lfa C7 I FN I (Lq I (Ao I Gy I (fun _ h=>(CR.keep hC h).c) I) (Lm I (Lq I (As i I Fh EM I (fun _ h=>hC.f.keep h (by simp[dom])) I I (by omega)) (Lfa Er I Z3 I (Lq I (AI i 0 I G3 I I (fun _ h=>hC.f.keep h (by simp[dom])) hfi I) (Lq I (Qe I) (Nk ?_)))))))))))))))))
     refine CB 39 I (fun h2=>?_) (fun h2=>?_)
     · refine Ai I (Cs I (Lm I (Lc I (Lfa C7 I FN I (Lq I (Ao I Gy I (fun _ h=>(CR.keep hC h).c) I) (Lm I (Lq I (As i I Fh EM I (fun _ h=>hC.f.keep h (by simp[dom])) I I (by omega)) (Ak I (Af (Am (Aa (Aa (Am (Aa (An I I ?_)))))))))))))))
       exact fun _ h=>⟨(),congrArg (fun z=>Ending.returned z) (by unfold Mo.takes; rw[fO ht]; unfold Mo.freeI; rw[C2 hv (jq h2) hno]; rfl),trivial,h.e8⟩
     · refine Ab I (Ae (Aw (Kt (Cr I (Lq I (Qi I (by omega)) (Lm I (AB ?_)))))))
       exact AD (i+1) (by omega) ⟨by omega,EI hno hv (jo h2)⟩ (Si I) (fun _ h=>h)
   · refine Ab I (AO (Ac (Ac (Ar (Kt (Cs I (Ak I (Af (An I I ?_)))))))))
     exact fun _ h=>⟨(),congrArg (fun z=>Ending.returned z) (by unfold Mo.takes; rw[fO ht]; unfold Mo.freeI; rw[fZ (by omega)] at hno; rw[C3 hno]; rfl),trivial,h.e8⟩
 · have hl0:S.ln[0]?=some (wn q):=by rw[hR.ln,hl]; rfl
   have hlt:=(gl.1 hl0).1
   refine St' 12 I (by omega) (Lm I (Lc I (Lfa C7 I H9 I (Lq I (Ao I Ma I (fun _ h=>(CR.keep hC h).c) I) (Lq I (As 0 I EX EC I (fun _ h=>hC.l.keep h (by simp[dom])) I I (by omega)) (Lfa JD I Z3 I (Lq I (AI 0 0 I G3 I I (fun _ h=>hC.l.keep h (by simp[dom])) hl0 I) (Lm I (Lq I (Qn I) (Lq I (Qy I) (Nk ?_)))))))))))
   refine CB 22 I (fun hqt=>?_) (fun hqt=>?_)
   · refine Ai I (Cs I (Ak I (Af (Aa (An I I ?_)))))
     exact fun _ h=>⟨(),congrArg (fun z=>Ending.returned z) (by unfold Mo.takes Mo.turn; rw[hl]; simp only; rw[fR (show ¬decide (q.1=t)=true from fun e=>hqt (jt e))]; rfl),trivial,h.e8⟩
   · have ht:M.turn t=true:=by unfold Mo.turn; rw[hl]; exact jq hqt
     refine Ab I (Ae (Ks (Cs I (Lm I (Lc I (Lfa C7 I FN I (Lq I (Ao I Gy I (fun _ h=>(CR.keep hC h).c) I) (Lq I (AL I Fh I (fun _ h=>hC.f.keep h (by simp[dom]))) (Lm I (Nk (Al ?_)))))))))))
     refine Bc (fun (i:Nat)=>[(0,.pointer (some ⟨bc,0,none⟩)),(1,.int .i64 t),(27,.int .i64 (S.fl.length:Int)),(28,.int .i64 (i:Int))]) (fun (i:Nat)=>St w [] []) (fun (i:Nat)=>i<=S.fl.length/\∀z∈M.fr.take i,isF z=false) (fun (i:Nat)=>S.fl.length-i) (0) ⟨gb _,by simp⟩ (Si I) Ih (fun i hp=>Ag ?_)
     obtain⟨hi,hno⟩:=hp
     have hfl:=hR.len
     have h64:=hO.n64
     refine Cr I (Lq I (Ql I) (Ns ?_))
     refine CB 29 I (fun h1=>?_) (fun h1=>?_)
     · obtain⟨f,hfi⟩:∃f,S.fl[i]?=some f:=⟨_,fD (by omega)⟩
       have hv:=hR.vw_at hfi
       refine Ai I (Ae (Ks (Al (Cs I (Lm I (Ak I (Cs I (Lm I (Lc I (Lfa C7 I FN I (Lq I (Ao I Gy I (fun _ h=>(CR.keep hC h).c) I) (Lm I (Lq I (As i I Fh EM I (fun _ h=>hC.f.keep h (by simp[dom])) I I (by omega)) (Lfa Er I Z3 I (Lq I (AI i 0 I G3 I I (fun _ h=>hC.f.keep h (by simp[dom])) hfi I) (Lq I (Qe I) (Nk ?_)))))))))))))))))
       refine CB 39 I (fun h2=>?_) (fun h2=>?_)
       · refine Ai I (Cs I (Lm I (Lc I (Lfa C7 I FN I (Lq I (Ao I Gy I (fun _ h=>(CR.keep hC h).c) I) (Lm I (Lq I (As i I Fh EM I (fun _ h=>hC.f.keep h (by simp[dom])) I I (by omega)) (Ak I (Af (Am (Aa (Aa (Am (Aa (An I I ?_)))))))))))))))
         exact fun _ h=>⟨(),congrArg (fun z=>Ending.returned z) (by unfold Mo.takes; rw[fO ht]; unfold Mo.freeI; rw[C2 hv (jq h2) hno]; rfl),trivial,h.e8⟩
       · refine Ab I (Ae (Aw (Kt (Cr I (Lq I (Qi I (by omega)) (Lm I (AB ?_)))))))
         exact AD (i+1) (by omega) ⟨by omega,EI hno hv (jo h2)⟩ (Si I) (fun _ h=>h)
     · refine Ab I (AO (Ac (Ac (Ar (Kt (Cs I (Ak I (Af (An I I ?_)))))))))
       exact fun _ h=>⟨(),congrArg (fun z=>Ending.returned z) (by unfold Mo.takes; rw[fO ht]; unfold Mo.freeI; rw[fZ (by omega)] at hno; rw[C3 hno]; rfl),trivial,h.e8⟩
theorem Pv {S:CS} {M:Mo} (hR:Rel S M) (hO:M.Ok B):Con prog 193 [.pointer (some ⟨bc,0,none⟩)] (fun w=>CR w bc S) [] (fun _:Unit=>.int .i64 (M.free:Int)) (fun _=>True) (fun _=>[]):=by
 intro w hC hH
 refine E0 func193 I hH ?_
 refine Ag ?_
 have hfl:=hR.len
 have h64:=hO.n64
 refine Cr I (Ak I (Cs I (Ak I (Ag (Cs I (Lm I (Lc I (Lfa C7 I FN I (Lq I (Ao I Gy I (fun _ h=>(CR.keep hC h).c) I) (Lq I (AL I Fh I (fun _ h=>hC.f.keep h (by simp[dom]))) (Lm I (Nk (Al ?_)))))))))))))
 refine Bc (fun (i:Nat)=>[(3,.int .i64 (((M.fr.take i).countP isF):Int)),(9,S.vF),(10,.int .i64 (S.fl.length:Int)),(11,.int .i64 (i:Int))]) (fun (i:Nat)=>St w [] []) (fun (i:Nat)=>i<=S.fl.length) (fun (i:Nat)=>S.fl.length-i) (0) (gb _) (Si I) Ih (fun i hi=>Ag ?_)
 have hcl:((M.fr.take i).countP isF)<=(M.fr.take i).length:=List.countP_le_length
 have htl:=jP i M.fr
 refine Cr I (Lq I (Ql I) (Ns ?_))
 refine CB 12 I (fun h1=>?_) (fun h1=>?_)
 · obtain⟨f,hfi⟩:∃f,S.fl[i]?=some f:=⟨_,fD (by omega)⟩
   have hv:=hR.vw_at hfi
   have hcs:=IT (p:=isF) hv
   refine Ai I (Ae (Ks (Al (Cs I (Lq I (As i I Fh EM I (fun _ h=>hC.f.keep h (by simp[dom])) I I (by omega)) (Lq I (AU i I isAgg259 EM I I (fun _ h=>hC.f.keep h (by simp[dom])) hfi) (l_e I (Au I I I zeroValue259 (fun bf=>l_e I (Ah I I EM I I I (FC.one _) (by show 0+11<=11; decide) (Ay (show Sep.splice _ 0 (f).c=(f).c from Sep.e7 I) (Nk (Cs I (Lfa Er I Z3 I (Lo G3 0 I (Lq I (Qe I) (Nk ?_)))))))))))))))))
   refine CB 17 I (fun h2=>?_) (fun h2=>?_)
   · refine Ai I (Cr I (Lm I (Lq I (Qi I (by omega)) (Las I (AB (Aw (Kt (Cr I (Lq I (Qi I (by omega)) (Lm I (AB (Av ?_))))))))))))
     exact AD (i+1) (by omega) (by omega) (Sub.consE I (by rw[hcs,fO (show isF (vw f)=true from jq h2)]) (Si I)) (fun _ h=>h)
   · refine Ab I (Ae (Aw (Kt (Cr I (Lq I (Qi I (by omega)) (Lm I (AB (Av ?_))))))))
     exact AD (i+1) (by omega) (by omega) (Sub.consE I (by rw[hcs,fR (show ¬isF (vw f)=true from fun e=>h2 (jt e)),iM]) (Si I)) (fun _ h=>h)
 · refine Ab I (AO (Ac (Ac (Ar (Kt (Cs I (Lm I (Ak I (Af (An I I ?_))))))))))
   exact fun _ h=>⟨(),congrArg (fun z=>Ending.returned (Value.int .i64 z)) (by rw[fZ (by omega)]; rfl),trivial,h.e8⟩
theorem SC {S:CS} {M:Mo} (hR:Rel S M) (hO:M.Ok B):Con prog 99 [.pointer (some ⟨bc,0,none⟩)] (fun w=>CR w bc S) [] (fun v:Value=>v) (fun _=>True) (fun v=>[Az v 3 (AG .i64) (M.line.map Prod.fst)]):=by
 intro w hC hH
 refine E0 func99 I hH ?_
 refine Ag ?_
 have hll:=hR.lnl
 have hlB:=hO.lB
 have hB9:=hO.B9
 refine Cr I (Ak I (Cs I (Ak I (Ag (Cs I (Lm I (Lc I (Lfa C7 I H9 I (Lq I (Ao I Ma I (fun _ h=>(CR.keep hC h).c) I) (Lq I (AL I EX I (fun _ h=>hC.l.keep h (by simp[dom]))) (Lm I (Nk (Al (row0 3 (AG .i64) none ?_))))))))))))))
 refine CN (fun (i:Nat) (v:Value)=>[(3,v),(9,S.vL),(10,.int .i64 (S.ln.length:Int)),(11,.int .i64 (i:Int))]) (fun (i:Nat) (v:Value)=>St w [] [Az v 3 (AG .i64) ((M.line.take i).map Prod.fst)]) (fun (i:Nat) (v:Value)=>i<=S.ln.length) (fun (i:Nat) (v:Value)=>S.ln.length-i) (0) (.slice none 0 0) (gb _) (Si I) Ih (fun i v hi=>Ag ?_)
 have htl:=jP i M.line
 have htm:((M.line.take i).map Prod.fst).length<=i:=by rw[gS]; exact htl
 refine Cr I (Lq I (Ql I) (Ns ?_))
 refine CB 12 I (fun h1=>?_) (fun h1=>?_)
 · obtain⟨q,hq⟩:∃q,M.line[i]?=some q:=⟨_,fD (by omega)⟩
   have hli:S.ln[i]?=some (wn q):=by rw[hR.ln,gm,hq]; rfl
   refine Ai I (Ae (Ks (Al (Cs I (Lq I (As i I EX EC I (fun _ h=>hC.l.keep h (by simp[dom])) I I (by omega)) (Lq I (AU i I L9 EC I I (fun _ h=>hC.l.keep h (by simp[dom])) hli) (l_e I (Au I I I zeroValue277 (fun bw=>l_e I (Ah I I EC I I I (Wn.one _) (by show 0+3<=3; decide) (Ay (show Sep.splice _ 0 ((wn q)).c=((wn q)).c from Sep.e7 I) (Nk (Cr I (Lm I (Lfa JD I Z3 I (Lo G3 0 I (l_e I (Ax (sz:=1) [.tmp 17] I I I I I U22 Z3 I zeroValue3 I (fun b1=>AV (l_e I (Ap U22 U22 Ez I (fun _ h=>AW (h.at 1 I) (AG .i64) [q.1] I I) (by simp; omega) (fun v2=>Bo (show _=(M.line.take (i+1)).map Prod.fst from by rw[jd,hq,gL]; rfl) (AM (Av (Las I (AB (Aw (Kt (Cr I (Lq I (Qi I (by omega)) (Lm I (AB (AM (Av ?_))))))))))))))))))))))))))))))))))
   exact AD ((i+1,v2)) (by dsimp only; omega) (by dsimp only; omega) (Si I) (fun _ h=>h)
 · have hfin:((M.line.take i).map Prod.fst)=M.line.map Prod.fst:=by rw[fZ (by omega)]
   refine Bo hfin (Ab I (AO (Ac (Ac (Ar (Kt (Cs I (Lm I (Ak I (Af (An I I ?_)))))))))))
   exact fun _ h=>⟨v,rfl,trivial,h⟩
theorem SD (f:FC):(f.c.drop 6).take 5=f.nv.c:=rfl
def NR (w:World) (S:CS):Prop:=∀f∈S.fl,NRd w f.nv
theorem NR.keep {S:CS} {H:List Ent} (h:NR w0 S) (s:St w0 [] H w):NR w S:=fun f hf=>(h f hf).keep s
theorem SF {M:Mo} (h:M.frI b 2=some i):M.node b=((M.at' i).nd,true):=by unfold Mo.node Mo.ready; rw[h]
theorem Lk {M:Mo} (h:M.frI b 2=none):M.node b=(nd0,false):=by unfold Mo.node Mo.ready; rw[h]
theorem Px {S:CS} {M:Mo} (hR:Rel S M) (hO:M.Ok B) (t:Int):Con prog 132 [.pointer (some ⟨bc,0,none⟩),.int .i64 t] (fun w=>CR w bc S) [] (fun _:Unit=>.bool (M.may t)) (fun _=>True) (fun _=>[]):=by
 intro w hC hH
 refine E0 func132 I hH ?_
 refine Cs I (Ak I (Ag (Cs I (Lm I (l_e I (E1 (Io t) I call190 Tt (fun _ _=>Lq I (Qt I) (Lm I ?_))))))))
 refine CB 9 I (fun h1=>?_) (fun h1=>?_)
 · refine Lx I (Lx I (Lx I (Lq I (Qy I) (Nk (Ai I (Cs I (Ak I (Af (Aa (An I I ?_))))))))))
   exact fun _ h=>⟨(),congrArg (fun z=>Ending.returned (Value.bool z)) (by unfold Mo.may; rw[h1]; rfl),trivial,h.e8⟩
 · refine Lm I (Lm I (l_e I (E1 (waits_spec hR hO t) I call191 (fun _ h=>CR.keep hC h) (fun _ _=>Lq I (Qz I) (Nk ?_)))))
   refine CB 13 I (fun h2=>?_) (fun h2=>?_)
   · refine Ai I (Cs I (Ak I (Af (Aa (An I I ?_)))))
     exact fun _ h=>⟨(),congrArg (fun z=>Ending.returned (Value.bool z)) (by unfold Mo.may; rw[h1,h2]; rfl),trivial,h.e8⟩
   · refine Ab I (Ae (Kt (Cs I (Lm I (Lm I (l_e I (E1 (E6 hR hO t) I call192 (fun _ h=>CR.keep hC h) (fun _ _=>Ak I (Ag ?_)))))))))
     refine B5 (M.stand t) (fun hs=>?_) (fun k hs=>?_)
     · refine Sv' 5 (.int .i64 (-1)) I (by rw[hs]; rfl) (Cr I (Lm I (Lq I (Ql I) (Lm I (Sb 19 true I (I) (Lx I (Lx I (Lx I (Lx I (Lx I (Lx I (Lx I (Lq I (Qy I) (Lm I (Lx I (Lx I (Lx I (Lx I (Lx I (Lx I (Lx I (Lx I (Lx I ?_)))))))))))))))))))))))
       refine Lx I (Lx I (Lq I (Qy I) (Ak I (Af (An I I ?_)))))
       exact fun _ h=>⟨(),congrArg (fun z=>Ending.returned (Value.bool z)) ((Us h1 h2 hs).symm),trivial,h.e8⟩
     · obtain⟨q,hq,hqt⟩:=JT hs
       have hmy:=Ut h1 h2 hs hq
       have hlk:S.ln[k]?=some (wn q):=by rw[hR.ln,gm,hq]; rfl
       have hlt:=(gl.1 hlk).1
       refine Sv' 5 (.int .i64 (k:Int)) I (by rw[hs]; rfl) (Cr I (Lm I (Lq I (Ql I) (Lm I (Sf 19 I (by omega) (Lm I (Lq I (Qe I) (Lm I ?_))))))))
       refine CB 22 I (fun hk=>?_) (fun hk=>?_)
       · refine Lm I (l_e I (E1 (Pv hR hO) I call193 (fun _ h=>CR.keep hC h) (fun _ _=>Lq I (BS I I I) (Lq I (Qy I) (Lq I (Qz I) (Lm I ?_))))))
         refine CB 28 I (fun hfr=>?_) (fun hfr=>?_)
         · refine Lx I (Lx I (Lx I (Lx I (Lx I (Lx I (Lx I (Lx I (Lx I (Lx I (Lx I (Lq I (Qy I) (Ak I (Af (An I I ?_))))))))))))))
           exact fun _ h=>⟨(),congrArg (fun z=>Ending.returned (Value.bool z)) (by rw[hmy,jq (show k=0 by omega),jq (show 0<M.free by omega)]; rfl),trivial,h.e8⟩
         · refine Lm I (Lm I (Lc I (Lfa C7 I H9 I (Lq I (Ao I Ma I (fun _ h=>(CR.keep hC h).c) I) (Lm I (Lq I (As k I EX EC I (fun _ h=>hC.l.keep h (by simp[dom])) I I (by omega)) (Lfa JD I Z3 I (Lq I (AI k 1 I G3 I I (fun _ h=>hC.l.keep h (by simp[dom])) hlk I) (l_e I (E1 (D7 hR hO q.2) I call194 (fun _ h=>CR.keep hC h) (fun _ _=>Lq I (Qg I) (Lq I (Qz I) (Ak I (Af (An I I ?_)))))))))))))))
           exact fun _ h=>⟨(),congrArg (fun z=>Ending.returned (Value.bool z)) (by rw[hmy,NC]; first|rfl|(rw[show decide (k=0)=false from jo (by omega)]; rfl)|(rw[show decide (0<M.free)=false from jo (by omega),jQ]; rfl)),trivial,h.e8⟩
       · refine Lx I (Lx I (Lx I (Lq I (Qz I) (Lq I (Qz I) (Lm I (Lm I (Lm I (Lc I (Lfa C7 I H9 I (Lq I (Ao I Ma I (fun _ h=>(CR.keep hC h).c) I) (Lm I (Lq I (As k I EX EC I (fun _ h=>hC.l.keep h (by simp[dom])) I I (by omega)) (Lfa JD I Z3 I (Lq I (AI k 1 I G3 I I (fun _ h=>hC.l.keep h (by simp[dom])) hlk I) (l_e I (E1 (D7 hR hO q.2) I call194 (fun _ h=>CR.keep hC h) (fun _ _=>Lq I (Qg I) (Lq I (Qz I) (Ak I (Af (An I I ?_)))))))))))))))))))))
         exact fun _ h=>⟨(),congrArg (fun z=>Ending.returned (Value.bool z)) (by rw[hmy,NC]; first|rfl|(rw[show decide (k=0)=false from jo (by omega)]; rfl)|(rw[show decide (0<M.free)=false from jo (by omega),jQ]; rfl)),trivial,h.e8⟩
theorem FB {S:CS} {M:Mo} (hR:Rel S M) (hO:M.Ok B) (t:Int):Con prog 291 [.pointer (some ⟨bc,0,none⟩),.int .i64 t] (fun w=>CR w bc S) [] (fun v:Value=>v) (fun _=>True) (fun v=>[Az v 284 (Lj S.vF) (cls M t M.fr.length)]):=by
 intro w hC hH
 refine E0 func291 I hH ?_
 refine Ag ?_
 have hfl:=hR.len
 have h64:=hO.n64
 refine Cr I (Ak I (Cs I (Ak I (Ag (Cs I (Lm I (Lc I (Lfa C7 I FN I (Lq I (Ao I Gy I (fun _ h=>(CR.keep hC h).c) I) (Lq I (AL I Fh I (fun _ h=>hC.f.keep h (by simp[dom]))) (Lm I (Nk (Al (row0 284 (Lj S.vF) none ?_))))))))))))))
 refine CN (fun (i:Nat) (v:Value)=>[(0,.pointer (some ⟨bc,0,none⟩)),(1,.int .i64 t),(5,v),(12,.int .i64 (S.fl.length:Int)),(13,.int .i64 (i:Int))]) (fun (i:Nat) (v:Value)=>St w [] [Az v 284 (Lj S.vF) (cls M t i)]) (fun (i:Nat) (v:Value)=>i<=S.fl.length) (fun (i:Nat) (v:Value)=>S.fl.length-i) (0) (.slice none 0 0) (gb _) (Si I) Ih (fun i v hi=>Ag ?_)
 have hcl:=Mr M t i
 refine Cr I (Lq I (Ql I) (Ns ?_))
 refine CB 14 I (fun h1=>?_) (fun h1=>?_)
 · obtain⟨f,hfi⟩:∃f,S.fl[i]?=some f:=⟨_,fD (by omega)⟩
   have hv:=hR.vw_at hfi
   have hcs:=JZ M t i
   rw[JS hv,ZV] at hcs
   refine Ai I (Ae (Ks (Al (Cs I (Lm I (Ak I (Cs I (Lm I (Lc I (Lfa C7 I FN I (Lq I (Ao I Gy I (fun _ h=>(CR.keep hC h).c) I) (Lm I (Lq I (As i I Fh EM I (fun _ h=>hC.f.keep h (by simp[dom])) I I (by omega)) (Ak I (Cs I (Lm I (Lc I (Lfa Er I Z3 I (Lq I (AI i 0 I G3 I I (fun _ h=>hC.f.keep h (by simp[dom])) hfi I) (Lq I (Qe I) (Lm I ?_)))))))))))))))))))))
   refine CB 27 I (fun h2=>?_) (fun h2=>?_)
   · refine Lm I (Lc I (Lfa Er I Z3 I (Lq I (AI i 2 I G3 I I (fun _ h=>hC.f.keep h (by simp[dom])) hfi I) (Lm I (Lq I (Qe I) (Lq I (Qy I) (Nk ?_)))))))
     refine CB 34 I (fun h3=>?_) (fun h3=>?_)
     · rw[jq h2,jq h3,Bool.and_self,fO rfl] at hcs
       refine Ai I (Cr I (Lm I (Lm I (l_e I (Ax (sz:=1) [.tmp 36] I I I I I KN sizeOf284 I zeroValue284 I (fun b1=>AM (l_e I (Ap KN KN Xx I (fun _ h=>AW (h.at 1 I) (Lj S.vF) [i] I I) (by simp; omega) (fun v2=>AM (Av (Las I (AB (Aw (Kt (Cr I (Lq I (Qi I (by omega)) (Lm I (AB ?_))))))))))))))))))
       exact AD ((i+1,v2)) (by dsimp only; omega) (by dsimp only; omega) (Si I) (fun _ h=>by dsimp only; rw[hcs]; exact h)
     · rw[jq h2,jo h3,jQ,fR (by decide)] at hcs
       refine Ab I (Ae (Aw (Kt (Cr I (Lq I (Qi I (by omega)) (Lm I (AB ?_)))))))
       exact AD ((i+1,v)) (by dsimp only; omega) (by dsimp only; omega) (Si I) (fun _ h=>by dsimp only; rw[hcs]; exact h)
   · rw[jo h2,iJ,fR (by decide)] at hcs
     refine Lx I (Lx I (Lx I (Lx I (Lx I (Lx I (Lq I (Qz I) (Nk (Ab I (Ae (Aw (Kt (Cr I (Lq I (Qi I (by omega)) (Lm I (AB ?_)))))))))))))))
     exact AD ((i+1,v)) (by dsimp only; omega) (by dsimp only; omega) (Si I) (fun _ h=>by dsimp only; rw[hcs]; exact h)
 · have hie:i=M.fr.length:=by omega
   subst hie
   refine Ab I (AO (Ac (Ac (Ar (Kt (Cs I (Lm I (Ak I (Af (An I I ?_))))))))))
   exact fun _ h=>⟨v,rfl,trivial,h⟩
theorem F7 (nv:NV) (hn:nv.d.Sm 65536):Con prog 155 [.agg nv.c.toArray] (fun w=>NRd w nv) [] (fun s:N4=>.agg (⟨s,nv.d⟩:NV).c.toArray) (fun _=>True) (fun s=>Bz ⟨s,nv.d⟩):=by
 intro w hE hH
 refine E0 func155 I hH ?_
 refine Cs I (l_e I (AQ I I I I (fun bn=>Ce nv.c I (l_e I (Au I I I zeroValue135 (fun bo=>Ce nv0.c I (Ns (Dn [0,1,3,4,6,7,9,10,2,12,5,8,11,13,14,15,16,17,18,19] 3485964276 (fun w2=>(Ad bn 135 nv.c).at w2) I St.drawn (Hat 1 I) (Dfa CT I Z49 I (Dq I (Ao I G49 I Ih I) (Dfa CT I Z22 I (Dq I (Ao I G22 I Ih I) (Dfa CT I Ni I (Dq I (Ao I isAgg132 I Ih I) (Dfa CT I Hp I (Dq I (Ao I I7 I Ih I) (d_e I (AX (NF nv.d.es hn.e) I I I call220 I (fun _ h=>hE.e.keep h (by simp[dom])) (fun ve _=>Aj (Hat 2 I) (Dfa CT I Z49 I (Pre.fact (fun _ h=>FL (h.rd 0 I)) ?_)))))))))))))))))))))
 rintro⟨s1,rfl⟩
 refine d_e I (AX (NG nv.d.kids hn.k) I I I call107 I (fun _ h=>hE.k.keep h (by simp[dom])) (fun vk _=>Aj (Hat 3 I) (Pre.fact (fun _ h=>FL (h.rd 0 I)) ?_)))
 rintro⟨s2,rfl⟩
 refine d_e I (AX (NH nv.d.piv hn.p) I I I call221 I (fun _ h=>hE.p.keep h (by simp[dom])) (fun vp _=>Aj (Hat 4 I) (Pre.fact (fun _ h=>FL (h.rd 0 I)) ?_)))
 rintro⟨s3,rfl⟩
 refine d_e I (AX (NI nv.d.msgs hn.m) I I I call222 I (fun _ h=>hE.m.keep h (by simp[dom])) (fun vm _=>Aj (Hat 5 I) (Pre.fact (fun _ h=>FL (h.rd 0 I)) ?_)))
 rintro⟨s4,rfl⟩
 refine Ex (d_t I (AF I I Z49 I I I (by show 1<5; decide) (Ce (⟨⟨s1,nv.s.k,nv.s.p,nv.s.m⟩,nv.d⟩:NV).c I (d_t I (e_q I I (Ba I CT I Z22 I I) (d_t I (AF I I Z22 I I I (by show 2<5; decide) (Ce (⟨⟨s1,s2,nv.s.p,nv.s.m⟩,nv.d⟩:NV).c I (d_t I (e_q I I (Ba I CT I Ni I I) (d_t I (AF I I Ni I I I (by show 3<5; decide) (Ce (⟨⟨s1,s2,s3,nv.s.m⟩,nv.d⟩:NV).c I (d_t I (e_q I I (Ba I CT I Hp I I) (d_t I (AF I I Hp I I I (by show 4<5; decide) (Ce (⟨⟨s1,s2,s3,s4⟩,nv.d⟩:NV).c I (AK (Kt (Cs I (Lq I (Cq ((⟨⟨s1,s2,s3,s4⟩,nv.d⟩:NV).c) Bs AR 0 I (I) (I)) (Ex ?_)))))))))))))))))))))))
 refine l_e I (Ah I I AR I I I (NV.one _) (by show 0+5<=5; decide) (Ay (show Sep.splice _ 0 (⟨⟨s1,s2,s3,s4⟩,nv.d⟩:NV).c=(⟨⟨s1,s2,s3,s4⟩,nv.d⟩:NV).c from Sep.e7 I) (Nk (Af (Pm [5,4,3,2] I (CL I (AJ I Bs AR (Hat 4 I) (I)) ?_))))))
 exact fun _ h=>⟨⟨s1,s2,s3,s4⟩,rfl,trivial,h.sublist (jR.2 (jR.2 (jR.2 (jR.2 (iQ _)))))⟩
theorem CR.ofm {D:List Nat} {S:CS} {H:List Ent} (h:St w0 D H w) (hs:∀e∈S.H bc,e∈H):CR w bc S:=by
 have at':∀e,e∈S.H bc->e.at w:=fun e he=>h.hp.holds e (hs e he)
 have m0:∀e (k:Nat),(S.H bc)[k]?=some e->e.at w:=fun e k hk=>at' e (hY hk)
 exact⟨m0 _ 0 rfl,BO (m0 _ 1 I),m0 _ 2 rfl,m0 _ 3 rfl,BO (m0 _ 4 I),fun q hq=>BO (at' _ (iU _ (gj.2 ⟨q,hq,rfl⟩)))⟩
theorem Rel.line {S:CS} {M:Mo} (h:Rel S M) (v:Value) (l:List (Int×Int)):Rel {S with vL:=v,ln:=l.map wn} {M with line:=l}:=⟨h.fr,rfl,h.hd,h.at',h.ld,h.nd,h.na⟩
theorem NJ {l:List (Int×Int)} (h:(l.map Prod.fst).Nodup) (i:Nat):((l.eraseIdx i).map Prod.fst).Nodup:=h.sublist ((List.eraseIdx_sublist ..).map _)
theorem Mo.Ok.mono {M:Mo} {C:Nat} (h:M.Ok B) (hBC:B<=C) (hC:C<=60000):M.Ok C :=
 ⟨h.n1,h.n64,h.st,h.none',h.blk,h.own,h.own0,fun f hf=>⟨(h.pins f hf).1,jS (h.pins f hf).2 (by omega)⟩,h.uni,gF h.ll hBC,gF h.lB hBC,h.ln,h.lb,h.lo,h.es,h.hw,hC⟩
theorem leave_ok {M:Mo} (h:M.Ok B) (t:Int):(M.leave t).Ok B:=by
 refine⟨h.n1,h.n64,h.st,h.none',h.blk,h.own,h.own0,h.pins,h.uni,h.ll,?_,?_,?_,h.lo,h.es,h.hw,h.B9⟩
 · show (M.leave t).line.length<=B
   unfold Mo.leave
   simp only
   split
   · exact gF (List.length_eraseIdx_le ..) h.lB
   · exact h.lB
 · show ((M.leave t).line.map Prod.fst).Nodup
   unfold Mo.leave
   simp only
   split
   · exact NJ h.ln _
   · exact h.ln
 · intro q hq
   refine h.lb q ?_
   have hq':q∈(M.leave t).line:=hq
   unfold Mo.leave at hq'
   simp only at hq'
   split at hq'
   · exact (List.eraseIdx_sublist ..).subset hq'
   · exact hq'
theorem Uu {M:Mo} (h:M.Ok B) (t b:Int) (hb : -1<=b/\b<256) (hB:B+1<=60000):(M.ask t b).Ok (B+1):=by
 have h':=h.mono (jT B) hB
 refine⟨h.n1,h.n64,h.st,h.none',h.blk,h.own,h.own0,h'.pins,h.uni,h'.ll,?_,?_,?_,h.lo,h.es,h.hw,hB⟩
 · show (M.ask t b).line.length<=B+1
   unfold Mo.ask
   simp only
   split
   · rw[fL]; have:=h.lB; simp; omega
   · have:=h.lB; omega
 · show ((M.ask t b).line.map Prod.fst).Nodup
   unfold Mo.ask
   simp only
   split
   · rename_i hs
     rw[gL,iT]
     refine⟨h.ln,by simp,fun a ha c hc e=>?_⟩
     simp only[gB,gC,iE] at hc
     subst hc; subst e
     obtain⟨q,hq,rfl⟩:=gj.1 ha
     have:=Ji (jJ.1 hs) q hq
     simp[isT] at this
   · exact h.ln
 · intro q hq
   have hq':q∈(M.ask t b).line:=hq
   unfold Mo.ask at hq'
   simp only at hq'
   split at hq'
   · rcases ib.1 hq' with hq'|hq'
     · exact h.lb q hq'
     · simp only[iE] at hq'; subst hq'; exact hb
   · exact h.lb q hq'
theorem Uv (l:List (Int×Int)) (i:Nat):(l.map wn).eraseIdx i=(l.eraseIdx i).map wn:=(Dy wn l i).symm
theorem SG {S:CS} {M:Mo} (hR:Rel S M) (hO:M.Ok B) (b:Int):Con prog 116 [.pointer (some ⟨bc,0,none⟩),.int .i64 b] (fun w=>CR w bc S/\NR w S) [] (fun s:N4=>.tuple #[.agg (⟨s,(M.node b).1⟩:NV).c.toArray,.bool (M.node b).2]) (fun _=>True) (fun s=>Bz ⟨s,(M.node b).1⟩):=by
 intro w hE hH
 obtain⟨hC,hN⟩:=hE
 refine E0 func116 I hH ?_
 refine Cs I (l_e I (Au I I I zeroValue135 (fun bo=>Ce nv0.c I (Ak I (Cs I (Lm I (Lm I (l_e I (E1 (EO hR hO b 2) I call165 (fun _ h=>CR.keep hC h) (fun _ _=>Ak I (Ag (Ag ?_))))))))))))
 refine B5 (M.frI b 2) (fun hf=>?_) (fun i hf=>?_)
 · refine Sv' 6 (.pointer none) I (by rw[hf]; rfl) (Cr I (Lm I (Lq I (DZ I GV I I) (Nk (Sb 11 true I (I) (Ai I (Cs I (Lq I (AN (nv0.c) I I (fun w=>by kernel_rfl)) (l_e I (Ah I I AR I I I (NV.one _) (by show 0+5<=5; decide) (Ay (show Sep.splice _ 0 (nv0).c=(nv0).c from Sep.e7 I) (Ak I (Af (Aa (row0 154 Ms.enc none (row0 77 (Kv.enc 8) none (row0 3 (AG .i64) none (row0 79 En.enc none (BI I (AJ I Bs AR (Hat 4 I) (I)) (show Sep.look _ _=some _ from I) ?_)))))))))))))))))))
   exact fun _ h=>⟨n40,by rw[Lk hf]; rfl,trivial,by rw[Lk hf]; exact h.sublist (jR.2 (jR.2 (jR.2 (jR.2 (iQ _)))))⟩
 · obtain⟨hf1,hst⟩:=G8 hf
   obtain⟨y,hy,hyb,hys,hya⟩:=Ec hf1
   obtain⟨f,hfi,hfy⟩:=hR.get hy
   have hlt:=(gl.1 hfi).1
   have hnd:=SF hf
   rw[hya,<-hfy] at hnd
   have hfm:=hY hfi
   have hes:f.nv.d.Sm 65536:=by
    have:=hO.es y (hY hy)
    rw[<-hfy] at this; exact this.mono (by decide)
   refine Sv' 6 (fp S.vF i) I (by rw[hf]; rfl) (Cr I (Lm I (Lq I (DZ I GV I I) (Nk (Sb 11 false I (I) (Ab I (Ae (Kt (Cs I (Lm I (Lc I (Lfa Er I AR I (Lq I (Ej i 6 I Bs AR I I (fun _ h=>hC.f.keep h (by simp[dom])) hfi (by decide)) (Sv' 16 (.agg f.nv.c.toArray) I (by rfl) (l_e I (EG (F7 f.nv hes) I I I call155 I (fun _ h=>(NR.keep hN h) f hfm) (fun s _=>CY (l_e I (Ah I I AR I I I (NV.one _) (by show 0+5<=5; decide) (Ay (show Sep.splice _ 0 ((⟨s,f.nv.d⟩:NV)).c=((⟨s,f.nv.d⟩:NV)).c from Sep.e7 I) (Ak I (Af (Pm [1,1,1,1] I (BI I (AJ I Bs AR (Hat 4 I) (I)) (show Sep.look _ _=some _ from I) ?_))))))))))))))))))))))))
   exact fun _ h=>⟨s,by rw[hnd]; rfl,trivial,by rw[hnd]; exact h.sublist (jR.2 (jR.2 (jR.2 (jR.2 (iQ _)))))⟩
theorem NK {S:CS} {M:Mo} (hR:Rel S M) (hO:M.Ok B):Con prog 97 [.pointer (some ⟨bc,0,none⟩)] (fun w=>CR w bc S/\NR w S) [] (fun b:Value×List FC×List Ent=>b.1) (fun b=>b.2.1.map vw=M.fr/\∀f∈b.2.1,∀e∈Bz f.nv,e∈b.2.2) (fun b=>Az b.1 202 FC.encA b.2.1::b.2.2):=by
 intro w hE hH
 obtain⟨hC,hN⟩:=hE
 refine E0 func97 I hH ?_
 refine Ag ?_
 have hfl:=hR.len
 have h64:=hO.n64
 refine Cr I (Ak I (Cs I (Ak I (Ag (Cs I (Lm I (Lc I (Lfa C7 I FN I (Lq I (Ao I Gy I (fun _ h=>(CR.keep hC h).c) I) (Lq I (AL I Fh I (fun _ h=>hC.f.keep h (by simp[dom]))) (Lm I (Nk (Al (row0 202 FC.encA none ?_))))))))))))))
 refine Xn (fun (i:Nat) (v:Value) (fs:List FC) (G:List Ent)=>[(3,v),(9,S.vF),(10,.int .i64 (S.fl.length:Int)),(11,.int .i64 (i:Int))]) (fun (i:Nat) (v:Value) (fs:List FC) (G:List Ent)=>St w [] (Az v 202 FC.encA fs::G)) (fun (i:Nat) (v:Value) (fs:List FC) (G:List Ent)=>i<=S.fl.length/\fs.map vw=M.fr.take i/\∀f∈fs,∀e∈Bz f.nv,e∈G) (fun (i:Nat) (v:Value) (fs:List FC) (G:List Ent)=>S.fl.length-i) (0) (.slice none 0 0) ([]) ([]) ⟨gb _,rfl,fun f h=>by cases h⟩ (Si I) Ih (fun i v fs G hp=>Ag ?_)
 obtain⟨hi,hfs,hG⟩:=hp
 have hfsl:fs.length<=i:=by have:=congrArg List.length hfs; rw[gS,fJ] at this; omega
 refine Cr I (Lq I (Ql I) (Ns ?_))
 refine CB 12 I (fun h1=>?_) (fun h1=>?_)
 · obtain⟨f,hfi⟩:∃f,S.fl[i]?=some f:=⟨_,fD (by omega)⟩
   have hv:=hR.vw_at hfi
   have hfm:=hY hfi
   have hes:f.nv.d.Sm 65536:=(hO.es (vw f) (hY hv)).mono (by decide)
   refine Ai I (Ae (Ks (Al (Cs I (Lq I (As i I Fh EM I (fun _ h=>hC.f.keep h (by simp[dom])) I I (by omega)) (Lq I (AU i I isAgg259 EM I I (fun _ h=>hC.f.keep h (by simp[dom])) hfi) (l_e I (Au I I I zeroValue259 (fun bf=>l_e I (Ah I I EM I I I (FC.one _) (by show 0+11<=11; decide) (Ay (show Sep.splice _ 0 (f).c=(f).c from Sep.e7 I) (Nk (Dn (rg 18) 58989951 (fun w2=>(Ad bf 259 f.c).at w2) I St.drawn (Hat 0 I) (Dm I (Dfa Er I Z3 I (Dq I (Ao I G3 I Ih I) (Dfa Er I Z3 I (Dq I (Ao I G3 I Ih I) (Dfa Er I Z3 I (Dq I (Ao I G3 I Ih I) (Dfa Er I Z4 I (Dq I (Ao I G4 I Ih I) (Dfa Er I Z4 I (Dq I (Ao I G4 I Ih I) (Dfa Er I AR I (Dq I (AP (f.nv.c) I Bs AR I Ih (SD _) (I)) (d_e I (EG (F7 f.nv hes) I I I call155 I (fun _ h=>(NR.keep hN h) f hfm) (fun s _=>Aj (Hat 4 I) (Dq I (AN (({f with nv:=⟨s,f.nv.d⟩}:FC).cA) I I (fun w=>by kernel_rfl)) (d_e I (Ax (sz:=13) [.tmp 29] I I I I I Ua sizeOf202 I zeroValue202 I ?_))))))))))))))))))))))))))))))))
   intro b2
   refine Aj (Hat 5 I) (D0 (d_e I (Ap Ua Ua Xt I (fun _ h=>AW (h.at 1 I) FC.encA [({f with nv:=⟨s,f.nv.d⟩}:FC)] I I) (by simp; omega) (fun v2=>AM (Av (Aj (Hat 5 I) (Das I (AK (Aw (Kt (Cr I (Lq I (Qi I (by omega)) (Lm I (AB (Ex (Av ?_))))))))))))))))
   exact AD ((i+1,v2,fs++[({f with nv:=⟨s,f.nv.d⟩}:FC)],Bz (({f with nv:=⟨s,f.nv.d⟩}:FC)).nv++G)) (by dsimp only; omega) ⟨by dsimp only; omega,by dsimp only; rw[gL,hfs,jd,hv]; rfl,fun g hg=>by
    dsimp only at hg ⊢
    rcases ib.1 hg with hg|hg
    · exact fun e he=>iU _ (hG g hg e he)
    · simp only[iE] at hg; subst hg; exact fun e he=>gi _ he⟩ (Si I) (fun _ h=>h)
 · have hfin:fs.map vw=M.fr:=by rw[hfs,fZ (by omega)]
   refine Ab I (AO (Ac (Ac (Ar (Kt (Cs I (Lm I (Ak I (Af (An I I ?_))))))))))
   exact fun _ h=>⟨(v,fs,G),rfl,⟨hfin,hG⟩,h⟩
theorem Ha {S:CS} {M:Mo} (hR:Rel S M) (hO:M.Ok B) (t:Int):Con prog 243 [.pointer (some ⟨bc,0,none⟩),.int .i64 t] (fun _=>True) (S.H bc) (fun v:Value=>.tuple #[]) (fun _=>True) (fun v=>CS.H bc {S with vL:=v,ln:=(M.leave t).line.map wn}):=by
 intro w hE hH
 refine enter (n:=21) (vs:=[.pointer (some ⟨bc,0,none⟩),.int .i64 t]) (St w (dom (S.H bc)) (Ad bc 257 (S).cells::Az (S).vF 259 FC.enc (S).fl::BH (S).bA kI kI (S).at'::BH (S).bL kI vS (S).ld::Az (S).vL 277 Wn.enc (S).ln::(S).rows)) func243 I I I (St.init hH) ?_
 refine Cs I (Lm I (Lm I (l_e I (E1 (E6 hR hO t) I call192 (fun _ h=>CR.ofm (S:=S) h (fun e he=>he)) (fun _ _=>Ak I (Ag ?_))))))
 refine B5 (M.stand t) (fun hs=>?_) (fun i hs=>?_)
 · have hlv:(M.leave t).line=M.line:=by unfold Mo.leave; rw[hs]
   refine Sv' 4 (.int .i64 (-1)) I (by rw[hs]; rfl) (Cr I (Lm I (Lq I (Qg I) (Nk (Sb 9 false I (I) (Ab I (Ae (Bl (Bv I ?_)))))))))
   exact fun _ h=>⟨S.vL,rfl,trivial,by rw[hlv,<-hR.ln]; exact h⟩
 · have hlv:(M.leave t).line=M.line.eraseIdx i:=by unfold Mo.leave; rw[hs]
   obtain⟨q,hq,hqt⟩:=JT hs
   have hlt:i<S.ln.length:=by rw[hR.lnl]; exact (gl.1 hq).1
   have hB:=hO.lB
   have hB9:=hO.B9
   have hll:=hR.lnl
   refine Sv' 4 (.int .i64 (i:Int)) I (by rw[hs]; rfl) (Cr I (Lm I (Lq I (Qg I) (Nk (St' 9 I (by omega) (Ai I (Cr I (Lm I (Lm I (Lc I (Lfa C7 I H9 I (Lo Ma 0 I (Lm I (Lm I (Lq I (Qi I (by omega)) (CY (l_e I (Bg (deletew_spec S.ln i hlt (by omega)) I I I call284 I Tt (fun v _=>Lc I (Lfa C7 I H9 I (Bo (l':=(M.leave t).line.map wn) (by rw[hlv,hR.ln,Uv]) (Pre.fact (fun _ h=>FL (h.rd 0 I)) ?_))))))))))))))))))))))
   rintro⟨sv,rfl⟩
   refine AM (l_e I (AF I I H9 I I I (iy I) (Ce ({S with vL:=sv.v,ln:=(M.leave t).line.map wn}:CS).cells I (AB (Bl (Pm [0,1,1,1] I (Bv I ?_)))))))
   exact fun _ h=>⟨sv.v,rfl,trivial,h⟩
theorem NL {S:CS} {M:Mo} (hR:Rel S M) (hO:M.Ok B) (t b:Int):Con prog 245 [.pointer (some ⟨bc,0,none⟩),.agg (wn (t,b)).c.toArray] (fun _=>True) (S.H bc) (fun v:Value=>.tuple #[]) (fun _=>True) (fun v=>CS.H bc {S with vL:=v,ln:=(M.ask t b).line.map wn}):=by
 intro w hE hH
 refine enter (n:=19) (vs:=[.pointer (some ⟨bc,0,none⟩),.agg (wn (t,b)).c.toArray]) (St w (dom (S.H bc)) (Ad bc 257 (S).cells::Az (S).vF 259 FC.enc (S).fl::BH (S).bA kI kI (S).at'::BH (S).bL kI vS (S).ld::Az (S).vL 277 Wn.enc (S).ln::(S).rows)) func245 I I I (St.init hH) ?_
 refine Cs I (l_e I (AQ I I I I (fun bw=>Ce (wn (t,b)).c I (Nk (Cs I (Lm I (Lfa JD I Z3 I (Lo G3 0 I (l_e I (E1 (E6 hR hO t) I call192 (fun _ h=>CR.ofm (S:=S) h (fun e he=>iR _ (he))) (fun _ _=>Lq I (Ql I) (Nk ?_))))))))))))
 refine B5 (M.stand t) (fun hs=>?_) (fun i hs=>?_)
 · have hlv:(M.ask t b).line=M.line++[(t,b)]:=by unfold Mo.ask; rw[hs]; rfl
   have hB:=hO.lB
   have hB9:=hO.B9
   have hll:=hR.lnl
   refine Sb 8 true I (by rw[hs]; rfl) (Ai I (Dn (rg 11) 173502 (fun w2=>(Ad bc 257 S.cells).at w2/\(Ad bw 277 (wn (t,b)).c).at w2) I St.drawn (H2 1 0 I) (Dm I (Dm I (Dc I (Dfa C7 I H9 I (Dq I (Ao I Ma I (fun _ h=>h.1) I) (Dq I (AP ((wn (t,b)).c) I L9 EC I (fun _ h=>h.2) (I) (I)) (d_e I (Ax (sz:=3) [.tmp 14] I I I I I EX EC I zeroValue277 I (fun b2=>Aj (H2 2 1 I) (D0 (d_e I (Ap EX EX QU I (fun _ h=>AW (h.at 1 I) Wn.enc [(wn (t,b))] I I) (by simp; omega) (fun v2=>Bo (show _=(M.ask t b).line.map wn from by rw[hlv,hR.ln,gL]; rfl) (AM (Av (Aj (H2 2 1 I) (d_t I (e_q I I (Bt I I) (d_t I (e_q I I (Ba I C7 I H9 I I) (Pre.fact (fun _ h=>FL (h.rd 0 I)) ?_)))))))))))))))))))))))
   rintro⟨sv,rfl⟩
   refine AV (d_t I (AF I I H9 I I I (iy I) (Ce ({S with vL:=sv.v,ln:=(M.ask t b).line.map wn}:CS).cells I (AK (Bl (AV (Av (Pm [0,1,1,1] I (Bv I ?_)))))))))
   exact fun _ h=>⟨sv.v,rfl,trivial,h⟩
 · have hlv:(M.ask t b).line=M.line:=by unfold Mo.ask; rw[hs]; rfl
   refine Sb 8 false I (by rw[hs]; exact jo (by simp[io])) (Ab I (Ae (Bl (Av (Bv I ?_)))))
   exact fun _ h=>⟨S.vL,rfl,trivial,by rw[hlv,<-hR.ln]; exact h⟩
section
variable {P:Program} {n:Nat} {L:Env} {X:World->Prop} {o:Oper}
theorem ZW {t u e:TypeId} {x y:Operand} {b o1 o2 sz:Nat} (ho:o.op=.binOp .eql t x y u) (ht:P.underlying t=some (.pointer e)) (hz:∀w,(sizeOf e).run P w=.ok sz w) (hs:sz≠0) (hx:ev L x=some (.pointer (some ⟨b,o1,none⟩))) (hy:ev L y=some (.pointer (some ⟨b,o2,none⟩))):QOp P n L X o (.bool (decide (o1=o2))) :=
 CW ho hx hy (fun w _=>DQ rfl (L3 w rfl (Gm w (fun d=>by
  have hb:((⟨b,o1,none⟩:Addr) == ⟨b,o2,none⟩)=decide (o1=o2):=by
   by_cases h:o1=o2
   · subst h; simp
   · rw[jo h]; rw[iv]; intro h'; exact h (congrArg Addr.off (iC.1 h'))
  unfold Op.equalIn
  simp[AT ht,hz,hs,sameAddr,hb]))))
end
theorem Uw {e:Ent} (hj:T[j]?=some e):T.Perm (e::T.eraseIdx j):=by
 induction T generalizing j with
 |nil=>cases hj
 |cons a T ih =>
  cases j with
  |zero=>cases hj; exact jr _
  |succ j=>exact ((ih hj).cons a).trans (List.Perm.swap e a _)
theorem XL {e:Ent} (hj:j<T.length):(e::T.eraseIdx j).Perm (T.set j e):=by
 induction T generalizing j with
 |nil=>cases hj
 |cons a T ih =>
  cases j with
  |zero=>exact jr _
  |succ j=>exact (List.Perm.swap a e _).trans ((ih (by simpa using hj)).cons a)
section
variable {w0 w:World} {D:List Nat}
theorem St.pullT {e:Ent} (hj:T[j]?=some e) (h:St w0 D (pre++T) w):St w0 D (e::(pre++T.eraseIdx j)) w :=
 h.perm (((Uw hj).append_left pre).trans jm)
theorem St.pushT {e:Ent} (hj:j<T.length) (h:St w0 D (e::(pre++T.eraseIdx j)) w):St w0 D (pre++T.set j e) w :=
 h.perm (jm.symm.trans ((XL hj).append_left pre))
theorem St.addT {e:Ent} (h:St w0 D (e::(pre++T)) w):St w0 D (pre++(T++[e])) w :=
 h.perm (by
  rw[<-gK]
  exact (List.perm_append_singleton e (pre++T)).symm)
end
theorem J0 {p:α->Bool}:∀{l:List α} {i:Nat} {x y:α},l[i]?=some x->p y=p x->Cp p (l.set i y)=Cp p l
 |[],i,x,y,h,_=>by cases h
 |a::l,0,x,y,h,hp=>by
  cases h
  unfold Cp
  simp only[iu,jU,hp]
 |a::l,i+1,x,y,h,hp=>by
  have ih:=J0 (p:=p) (l:=l) (i:=i) (x:=x) (y:=y) (by simpa using h) hp
  unfold Cp at ih ⊢
  simp only[iY,jU,ih]
theorem Ux {p:α->Bool} {l:List α} {x y:α} (hi:l[i]?=some x) (hn:Cp p l=none) (hp:p y=true):Cp p (l.set i y)=some i:=by
 have hlt:=(gl.1 hi).1
 refine C2 (y:=y) (by rw[jV hlt]) hp (fun z hz=>?_)
 rw[List.take_set_of_le (ga _)] at hz
 exact Ji hn z (fF hz)
theorem Uy {M:Mo} {y y':Vw} (hy:M.fr[i]?=some y) (hb:∀b,isB b y'=isB b y) (b:Int):(M.put i y').find b=M.find b:=J0 hy (hb b)
theorem SH {M:Mo} {y y':Vw} (hy:M.fr[i]?=some y) (hb:y'.blk=y.blk) (hs:(y'.st=1\/y'.st=2)↔(y.st=1\/y.st=2)) (b:Int):(M.put i y').find b=M.find b :=
 Uy hy (fun c=>by
  unfold isB
  rw[hb]
  congr 1
  rw[<-Bool.decide_or,<-Bool.decide_or,jF]; exact hs) b
theorem XM {M:Mo} {y y':Vw} (hy:M.fr[i]?=some y) (hf:¬(y.st=1\/y.st=2)) (hn:M.find b=none) (hb:y'.blk=b) (hs:y'.st=1\/y'.st=2) (c:Int):(M.put i y').find c=if c=b then some i else M.find c:=by
 have hy0:∀c,isB c y=false:=fun c=>by
  unfold isB
  rw[<-Bool.decide_or,jo hf,jQ]
 split
 · rename_i e; subst e
   exact Ux hy hn (by unfold isB; rw[<-Bool.decide_or,jq hs,jq hb]; rfl)
 · rename_i e
   exact J0 hy (by rw[hy0]; unfold isB; rw[jo (fun e'=>e (by rw[<-e',hb]))]; rfl)
end Go.Proofs.YtloldofjddbjoaaGreat
