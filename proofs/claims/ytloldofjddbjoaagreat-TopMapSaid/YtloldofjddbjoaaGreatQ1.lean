/- Part 1 of the proof: texts of my own, laid behind one another. No condition. -/
import Derived.WalkKit
import Derived.Laws.BitsAllLaws
import Derived.ProofKit
import Derived.OpenShut
import Derived.Deep.Slices
import Derived.Deep.Draws
import Derived.Maps.AppendAt
import Derived.RegionTactic
import Derived.OwnWalk
import Derived.Laws.BytesArg
import Derived.Test.YtloldofjddbjoaaGreatChecked
import Derived.Lib.Hide
import Derived.Deep.QuietTactic
import Derived.BigQuiet
import Derived.WalkSpells
import Derived.DeepKeys5
import Derived.Laws.CopyOwn
import Derived.Deep.RegionHeld3
import Derived.Deep.RegionWith
import Derived.Laws.IdiomStrings
import Derived.OrdersHeld
import Derived.IntWalk
import Derived.Below
import Derived.ScopeJumps
import Derived.Test.YtloldofjddbjoaaGreatProg
import Derived.Lib.Overlaps
import Derived.Laws.Externs
import Derived.WideKeyRuns
import Derived.MapKept
import Derived.Maps.RangeRun
import Derived.Lib.Bytealg
import Derived.RangeFuncRecord
import Derived.OrdersIn
import Derived.TacticsIn
set_option linter.unusedVariables false
set_option linter.unusedSimpArgs false
namespace Go
abbrev kN:=@List.mem_cons
abbrev kO:=@Int.ediv_ediv_of_nonneg
abbrev kP:=@List.cons_append
abbrev kQ:=@List.length_cons
abbrev kS:=@Go.IntKind.wrap_u64
abbrev kT:=@Int.eq_ofNat_of_zero_le
abbrev kU:=@Nat.pow_le_pow_right
abbrev kV:=@List.drop_eq_getElem_cons
abbrev kX:=@List.take_succ_cons
abbrev kY:=@List.getElem?_eq_getElem
abbrev kZ:=@List.mem_of_mem_take
abbrev k6:=@Nat.lt_or_ge
abbrev k7:=@List.getElem_mem
abbrev k8:=@List.getElem?_eq_none
abbrev k9:=@List.length_take
abbrev lk:=@List.length_drop
abbrev lp:=@List.length_append
abbrev lq:=@List.getElem?_append_left
abbrev lr:=@List.getElem?_take
abbrev lu:=@if_pos
abbrev lx:=@List.getElem?_append_right
abbrev ly:=@List.getElem?_drop
abbrev lz:=@if_neg
abbrev lA:=@List.eq_nil_of_length_eq_zero
abbrev lC:=@List.replicate_succ
abbrev lD:=@List.flatten_cons
abbrev lE:=@List.drop_zero
abbrev lF:=@Nat.add_mul
abbrev lG:=@List.drop_drop
abbrev lH:=@Array.getElem?_eq_some_iff
abbrev lI:=@List.take_of_length_le
abbrev lJ:=@Nat.le_refl
abbrev lK:=@Nat.zero_le
abbrev lL:=@Nat.mul_comm
abbrev lM:=@Nat.mod_lt
abbrev lN:=@Nat.eq_zero_or_pos
abbrev lO:=@List.mem_append_left
abbrev lP:=@List.mem_map
abbrev lQ:=@List.mem_range
abbrev lR:=@List.getElem?_eq_some_iff
abbrev lS:=@List.getElem?_map
abbrev lT:=@List.getElem?_range
abbrev lU:=@Option.map_some
abbrev lV:=@Option.getD_some
abbrev lW:=@Nat.mul_le_mul_right
abbrev lX:=@Nat.one_mul
abbrev lY:=@List.ext_getElem?
abbrev lZ:=@Nat.mul_eq_zero
abbrev l5:=@Go.Sem.run_bind
abbrev l6:=@Go.Sem.run_pure
abbrev l7:=@Go.Result.andThen_ok
abbrev l8:=@List.map_toArray
abbrev ma:=@List.map_cons
abbrev mb:=@List.map_nil
abbrev mc:=@Go.heap_alloc_new
abbrev me:=@Nat.zero_add
abbrev mf:=@Nat.le_trans
abbrev mg:=@Array.getElem?_eq_none
abbrev mh:=@Go.Lib.hid
abbrev mi:=@Int.le_of_lt
abbrev mj:=@List.append_assoc
abbrev mn:=@List.map_append
abbrev mq:=@Nat.add_assoc
abbrev mr:=@Go.RowKit.Below.refl
abbrev mw:=@List.nil_append
abbrev my:=@List.take_append_drop
abbrev mz:=@Bool.and_eq_true
abbrev mA:=@if_true
abbrev mB:=@List.length_map
abbrev mC:=@List.map_replicate
abbrev mD:=@List.drop_succ_cons
abbrev mE:=@Nat.min_eq_left
abbrev mF:=@Go.wpList_store_row
abbrev mG:=@Go.heap_alloc2_old
abbrev mH:=@Go.bodyPost_ret
abbrev mI:=@Go.results_cell_row
abbrev mJ:=@Go.setRow_heap
abbrev mK:=@Go.below_setRow
abbrev mL:=@List.getElem?_toArray
abbrev mM:=@Nat.add_comm
abbrev mN:=@List.getElem?_cons_succ
abbrev mO:=@List.getElem?_replicate
abbrev mP:=@Option.map_eq_some_iff
abbrev mQ:=@List.mem_of_getElem?
abbrev mR:=@Bool.eq_iff_iff
abbrev mS:=@decide_eq_true_eq
abbrev mT:=@List.mem_append
abbrev mU:=@List.mem_replicate
abbrev mV:=@Int.toNat_natCast
abbrev mW:=@Go.World.size_alloc
abbrev mX:=@Array.length_toList
abbrev mY:=@List.map_map
abbrev m4:=@List.map_set
abbrev m5:=@decide_eq_false_iff_not
abbrev m6:=@List.set_append_right
abbrev m7:=@List.take_succ_eq_append_getElem
abbrev m8:=@List.set_cons_zero
abbrev m9:=@Bool.eq_false_iff
abbrev nc:=@Array.getD_eq_getD_getElem?
abbrev ng:=@Nat.le_of_ble_eq_true
abbrev ni:=@Array.getElem?_setIfInBounds
abbrev nj:=@Ne.symm
abbrev nk:=@List.any_eq_true
abbrev nm:=@beq_iff_eq
abbrev np:=@List.all_eq_true
abbrev nq:=@List.mem_singleton
abbrev nr:=@Bool.not_eq_true'
abbrev ns:=@List.mem_cons_self
abbrev nt:=@List.not_mem_nil
abbrev nu:=@or_false
abbrev nw:=@Bool.false_and
abbrev ny:=@Bool.false_eq_true
abbrev nz:=@if_false
abbrev nB:=@Nat.add_zero
abbrev nC:=@Nat.lt_of_lt_of_le
abbrev nD:=@List.nodup_nil
abbrev nE:=@List.sublist_cons_self
abbrev nF:=@List.nil_sublist
abbrev nG:=@List.mem_cons_of_mem
abbrev nH:=@List.nodup_cons
abbrev nJ:=@List.nodup_append
abbrev nK:=@List.mem_append_right
abbrev nL:=@List.take_length_add_append
abbrev nM:=@List.drop_length_add_append
abbrev nN:=@List.set_append_left
abbrev nO:=@List.set_cons_succ
abbrev nP:=@List.take_set
abbrev nQ:=@List.take_left
abbrev nR:=@Int.natCast_mul
abbrev nS:=@List.append_nil
abbrev nT:=@List.take_add_one
abbrev nU:=@List.length_set
abbrev nV:=@List.set_eq_take_append_cons_drop
abbrev nX:=@List.take_append_of_le_length
abbrev nY:=@List.drop_append_of_le_length
abbrev nZ:=@List.length_pos_iff
abbrev n6:=@Nat.sub_mul
abbrev n7:=@Array.toList_inj
abbrev n9:=@Go.size_zeroCells
abbrev oa:=@List.perm_middle
abbrev ob:=@List.length_nil
abbrev oc:=@decide_eq_false
abbrev od:=@decide_eq_true
abbrev oe:=@List.Perm.refl
abbrev og:=@List.perm_append_comm
abbrev oh:=@of_decide_eq_true
abbrev om:=@List.getD_eq_getElem?_getD
abbrev oq:=@Nat.mul_one
abbrev ou:=@List.length_singleton
abbrev ov:=@Nat.not_lt_zero
abbrev ow:=@Array.getElem?_toList
abbrev ox:=@Array.getElem?_eq_getElem
abbrev oy:=@List.length_replicate
abbrev oz:=@List.eraseIdx_cons_succ
abbrev oC:=@List.getElem?_set
abbrev oD:=@List.mem_filter
abbrev oE:=@decide_eq_decide
abbrev oF:=@List.replicate_append_replicate
abbrev oG:=@List.take_length
abbrev oH:=@List.eraseIdx_eq_take_drop_succ
abbrev oI:=@Option.isNone_iff_eq_none
abbrev oJ:=@List.mem_iff_getElem?
abbrev oK:=@List.length_filter_le
abbrev oL:=@List.range_succ
abbrev oM:=@List.filter_append
abbrev oN:=@List.length_range
abbrev oO:=@List.length_take_le
abbrev oP:=@Bool.and_false
abbrev oQ:=@List.cons_sublist_cons
abbrev oR:=@Int.le_trans
abbrev oS:=@Nat.le_succ
abbrev oT:=@List.findIdx?_cons
abbrev oU:=@List.getElem?_set_self
abbrev oV:=@List.mem_or_eq_of_mem_set
abbrev oW:=@List.Sublist.refl
abbrev oX:=@List.filter_cons
abbrev oY:=@List.foldl_append
abbrev oZ:=@List.takeWhile_cons
abbrev o5:=@List.pairwise_iff_getElem
abbrev o6:=@List.takeWhile_sublist
abbrev o7:=@List.all_eq_false
abbrev o8:=@Nat.lt_succ_iff_lt_or_eq
abbrev o9:=@Bool.true_and
abbrev pb:=@Int.fdiv_eq_ediv_of_nonneg
abbrev pc:=@List.pairwise_cons
abbrev pd:=@List.mem_map_of_mem
abbrev pe:=@List.perm_append_comm_assoc
abbrev pf:=@Nat.add_sub_cancel_left
abbrev pg:=@List.pairwise_append
abbrev pj:=@List.take_sublist
abbrev po:=@List.getElem?_set_ne
abbrev pq:=@List.sublist_append_right
abbrev pt:=@Bool.false_ne_true
abbrev px:=@List.drop_of_length_le
abbrev pz:=@Bool.or_true
abbrev pA:=@Classical.byContradiction
abbrev pB:=@List.getElem?_mapIdx
abbrev pC:=@List.sum_cons
abbrev pD:=@ByteArray.size_extract
abbrev pE:=@List.getElem?_take_of_lt
abbrev pF:=@Nat.le_add_right
abbrev pG:=@List.count_le_length
end Go
namespace Go.Proofs.YtloldofjddbjoaaGreat
open Go.RowKit
variable {t e:TypeId} {v u:Value} {n size B g base:Nat} {w W:World} {cs xs:List Value} {P:Program} {bs zs:List Int} {d:TypeDesc}
def le (n:Int):Nat->List Int
 |0=>[]
 |w+1=>n%256::le (n/256) w
def num:List Int->Int
 |[]=>0
 |b::l=>b+256*num l
theorem B1 (w:Nat):∀n,(le n w).length=w:=by
 induction w with
 |zero=>intro n; rfl
 |succ w ih=>intro n; simp[le,ih]
theorem Ss (w:Nat):∀n,∀b∈le n w,0<=b/\b<256:=by
 induction w with
 |zero=>intro n b hb; simp[le] at hb
 |succ w ih =>
  intro n b hb
  simp only[le,kN] at hb
  rcases hb with rfl|hb
  .omega
  .exact ih _ b hb
theorem VT (n:Int) (w:Nat):n/256/256^w=n/256^(w+1):=by
 rw[Int.pow_succ,Int.mul_comm,kO (by decide)]
theorem Su (w:Nat):∀n,le n (w+1)=le n w++[n/256^w%256]:=by
 induction w with
 |zero=>intro n; simp[le]
 |succ w ih =>
  intro n
  rw[le,ih (n/256),le,kP,VT]
theorem et (l:List Int) (h:∀b∈l,0<=b/\b<256):0<=num l/\num l<256^l.length:=by
 induction l with
 |nil=>simp[num]
 |cons x l ih =>
  have hx:=h x (by simp)
  have hl:=ih (λb hb=>h b (by simp[hb]))
  simp only[num,kQ,Int.pow_succ]
  omega
theorem VU (n:Int) (w:Nat) (h:0<=n):n%256+256*(n/256%256^w)=n%256^(w+1):=by
 obtain⟨m,rfl⟩:=kT h
 have e:(m:Int)%256^(w+1)=((m%(256*256^w):Nat):Int):=by
  rw[Int.pow_succ,Int.mul_comm]; simp only[nR,Int.natCast_pow,Int.natCast_emod,Int.cast_ofNat_Int]
 rw[e,Nat.mod_mul]
 simp only[Int.natCast_add,nR,Int.natCast_pow,Int.natCast_emod,Int.natCast_ediv,Int.cast_ofNat_Int]
theorem eu (w:Nat):∀n,0<=n->num (le n w)=n%256^w:=by
 induction w with
 |zero=>intro n _; simp[le,num]
 |succ w ih =>
  intro n h
  simp only[le,num]
  rw[ih (n/256) (by omega),VU n w h]
theorem Sw (a b:Int) (h0:0<=a) (h1:a<72057594037927936) (h2:0<=b) (h3:b<256):bits .or .u64 (IntKind.u64.wrap (a*256)) b=b+256*a:=by
 rw[kS,Int.emod_eq_of_lt (by omega) (by omega)]
 obtain⟨x,rfl⟩:=kT h0
 obtain⟨y,rfl⟩:=kT h2
 have e:(x:Int)*256=((2^8*x:Nat):Int):=by omega
 rw[e,u64_or_nat _ _ (by omega) (by omega),<-Nat.two_pow_add_eq_or_of_lt (by omega)]
 omega
theorem VV {a b:Nat} (h:a<=b):(256:Int)^a<=256^b:=by
 have e:∀n:Nat,(256:Int)^n=((256^n:Nat):Int):=λn=>by simp only[Int.natCast_pow,Int.cast_ofNat_Int]
 rw[e,e]
 exact Int.ofNat_le.2 (kU (by decide) h)
theorem OB (l:List Int) (a j:Nat) (ha:a<l.length):num ((l.drop a).take (j+1))=l[a]?.getD 0+256*num ((l.drop (a+1)).take j):=by
 rw[kV ha,kX,num,kY ha]; rfl
theorem OC (l:List Int) (a j:Nat) (hb:∀z∈l,0<=z/\z<256) (hj:j<=7):0<=num ((l.drop a).take j)/\num ((l.drop a).take j)<72057594037927936:=by
 have h:=et ((l.drop a).take j) (λb hm=>hb b (List.mem_of_mem_drop (kZ hm)))
 refine⟨h.1,Int.lt_of_lt_of_le h.2 ?_⟩
 have:((l.drop a).take j).length<=7:=by simp; omega
 have h2:=VV this
 simpa using h2
theorem Sx {l:List Int} (hb:∀z∈l,0<=z/\z<256) (i:Nat):0<=l[i]?.getD 0/\l[i]?.getD 0<256:=by
 rcases k6 i l.length with h|h
 .rw[kY h]; exact hb _ (k7 h)
 .rw[k8 h]; decide
inductive Sc where
 |i (k:IntKind)
 |b
 |s
def Sc.ok:Sc->Value->Prop
 |.i k,v=>∃z,v=.int k z/\(Lit.int k z).wf=true
 |.b,v=>∃c,v=.bool c
 |.s,v=>∃t:ByteArray,v=.string t/\t.size<=maxLen
def Cc (P:Program) (fl:TypeId->Option (List Sc)):List Field->List Sc->Option (List Sc)
 |[],acc=>some acc
 |f::fs,acc=>match fl f.type with
  |some l=>if f.offset=acc.length/\P.cellsOf f.type=l.length then Cc P fl fs (acc++l) else none
  |none=>none
def flat (P:Program):Nat->TypeId->Option (List Sc)
 |0,_=>none
 |n+1,t=>match P.underlying t with
  |some .bool=>some [.b]
  |some (.int k)=>some [.i k]
  |some .string=>some [.s]
  |some (.struct fs)=>match Cc P (flat P n) fs.toList [] with
   |some l=>if P.cellsOf t=l.length then some l else none
   |none=>none
  |some (.array m e)=>match flat P n e with
   |some l=>if P.cellsOf e=l.length/\P.cellsOf t=m*l.length/\0<l.length then some (List.replicate m l).flatten else none
   |none=>none
  |_=>none
def Kinds (ks:List Sc) (cs:List Value):Prop:=cs.length=ks.length/\∀(j:Nat) (k:Sc) (v:Value),ks[j]?=some k->cs[j]?=some v->k.ok v
theorem Kinds.append {a b:List Sc} (h1:Kinds a (cs.take a.length)) (h2:Kinds b (cs.drop a.length)):Kinds (a++b) cs:=by
 obtain⟨l1,k1⟩:=h1
 obtain⟨l2,k2⟩:=h2
 simp only[k9] at l1
 simp only[lk] at l2
 refine⟨by rw[lp]; omega,λj k v hk hv=>?_⟩
 by_cases hj:j<a.length
 .rw[lq hj] at hk
  exact k1 j k v hk (by rw[lr,lu hj]; exact hv)
 .rw[lx (by omega)] at hk
  exact k2 (j-a.length) k v hk (by rw[ly]; rw[show a.length+(j-a.length)=j from by omega]; exact hv)
theorem Kinds.one {k:Sc} (h:k.ok v):Kinds [k] [v]:=by
 refine⟨rfl,λj k' v' hk hv=>?_⟩
 match j with
 |0=>simp at hk hv; subst hk hv; exact h
 |j+1=>simp at hk
section
variable {H:Type} {enc:TypeId×Value->H} {P:Program} {w:World} {base:Nat} {spare:Nat->Bool} {held:Bool}
open Go.ChangeShapes Go.WideShapes
theorem LW (n:Nat) (ih:∀(t:TypeId) (l:List Sc),flat P n t=some l->∀(fuel:Nat) (cs:List Value) (x:DataW H×List MemPlace),DataW.trod enc P w base spare held fuel t cs=some x->Kinds l cs)
 (cs:List Value) (fs:List Field):∀(acc l:List Sc),Cc P (flat P n) fs acc=some l->Kinds acc (cs.take acc.length) ->
 (∀f∈fs,∃(m:Nat) (y:DataW H×List MemPlace),DataW.trod enc P w base spare held m f.type ((cs.drop f.offset).take (P.cellsOf f.type))=some y)->Kinds l (cs.take l.length):=by
 induction fs with
 |nil =>
  intro acc l h ha _
  simp only[Cc,Option.some.injEq] at h
  subst h
  exact ha
 |cons f fs IH =>
  intro acc l h ha hf
  simp only[Cc] at h
  cases hfl:flat P n f.type with
  |none=>rw[hfl] at h; simp at h
  |some l1 =>
   rw[hfl] at h
   simp only at h
   by_cases hc:f.offset=acc.length/\P.cellsOf f.type=l1.length
   .rw[lu hc] at h
    obtain⟨m,y,hy⟩:=hf f (by simp)
    have hk:=ih f.type l1 hfl m _ y hy
    rw[hc.1,hc.2] at hk
    refine IH (acc++l1) l h ?_ (λg hg=>hf g (by simp[hg]))
    have h1:(cs.take (acc++l1).length).take acc.length=cs.take acc.length:=by rw[List.take_take]; congr 1; simp
    have h2:(cs.take (acc++l1).length).drop acc.length=(cs.drop acc.length).take l1.length:=by rw[List.drop_take]; congr 1; simp
    exact Kinds.append (by rw[h1]; exact ha) (by rw[h2]; exact hk)
   .rw[lz hc] at h; simp at h
theorem Kinds.replicate {l:List Sc} (m:Nat):∀(cs:List Value),cs.length=m*l.length->(∀i,i<m->Kinds l ((cs.drop (i*l.length)).take l.length))->Kinds (List.replicate m l).flatten cs:=by
 induction m with
 |zero =>
  intro cs h _
  have:cs=[]:=lA (by simpa using h)
  subst this
  exact⟨rfl,λj k v hk hv=>by simp at hk⟩
 |succ m ih =>
  intro cs h hi
  rw[lC,lD]
  have h0:=hi 0 (by omega)
  rw[Nat.zero_mul,lE] at h0
  refine Kinds.append h0 (ih (cs.drop l.length) (by rw[lk,h,lF]; omega) (λi hi'=>?_))
  have h1:=hi (i+1) (by omega)
  rw[lG]
  rw[show l.length+i*l.length=(i+1)*l.length from by rw[lF]; omega]
  exact h1
theorem Zz (n:Nat):∀(t:TypeId) (l:List Sc),flat P n t=some l->∀(fuel:Nat) (cs:List Value) (x:DataW H×List MemPlace),DataW.trod enc P w base spare held fuel t cs=some x->Kinds l cs:=by
 induction n with
 |zero=>intro t l h; simp[flat] at h
 |succ n ih =>
  intro t l h fuel cs x hx
  unfold flat at h
  split at h
  .rename_i hu
   simp only[Option.some.injEq] at h
   subst h
   obtain⟨b,rfl,_⟩:=DataW.trod_bool hu hx
   exact Kinds.one ⟨b,rfl⟩
  .rename_i k hu
   simp only[Option.some.injEq] at h
   subst h
   obtain⟨z,rfl,_,hz⟩:=DataW.trod_int hu hx
   exact Kinds.one ⟨z,rfl,hz⟩
  .rename_i hu
   simp only[Option.some.injEq] at h
   subst h
   obtain⟨s,rfl,_,hs⟩:=DataW.trod_string hu hx
   exact Kinds.one ⟨s,rfl,hs⟩
  .rename_i fs hu
   cases hff:Cc P (flat P n) fs.toList [] with
   |none=>rw[hff] at h; simp at h
   |some l1 =>
    rw[hff] at h
    simp only at h
    by_cases hc:P.cellsOf t=l1.length
    .rw[lu hc] at h
     simp only[Option.some.injEq] at h
     subst h
     obtain⟨xs,m,_,_,hlen,hxl,hf⟩:=DataW.trod_struct hu hx
     have hk:=LW (enc:=enc) (w:=w) (base:=base) (spare:=spare) (held:=held) n ih cs fs.toList [] l1 hff ⟨rfl,λj k v hk hv=>by simp at hk⟩ (λf hfm=>by
      obtain⟨i,hi⟩:=List.getElem?_of_mem hfm
      have hi':fs[i]?=some f:=by simpa using hi
      have hil:i<fs.size:=(lH.1 hi').1
      have:=hf i f hi'
      rw[kY (by omega)] at this
      exact⟨m,_,this⟩)
     rwa[lI (by omega)] at hk
    .rw[lz hc] at h; simp at h
  .rename_i m e hu
   cases hfe:flat P n e with
   |none=>rw[hfe] at h; simp at h
   |some l1 =>
    rw[hfe] at h
    simp only at h
    by_cases hc:P.cellsOf e=l1.length/\P.cellsOf t=m*l1.length/\0<l1.length
    .rw[lu hc] at h
     simp only[Option.some.injEq] at h
     subst h
     obtain⟨xs,m',_,_,hlen,hxl,hf⟩:=DataW.trod_array hu hx
     refine Kinds.replicate m cs (by omega) (λi hi=>?_)
     have:=hf i hi
     rw[kY (by omega),hc.1] at this
     exact ih e l1 hfe m' _ _ this
    .rw[lz hc] at h; simp at h
  .simp at h
end
def Rd (w:World) (B:Nat) (A:Option Addr) (xs:List Value):Prop :=
 xs≠[]->∃b off,A=some ⟨b,off,none⟩/\b<B/\∀j u,xs[j]?=some u->w.cell? ⟨b,off+j,none⟩=some u
section
variable {w w':World} {B B':Nat} {A:Option Addr} {xs:List Value}
theorem Rd.nil:Rd w B A []:=λh=>absurd rfl h
theorem Rd.keep (h:Rd w B A xs) (hk:∀p:Addr,p.block<B->w'.cell? p=w.cell? p):Rd w' B A xs:=λhn=>by
 obtain⟨b,off,e,hb,hc⟩:=h hn
 exact⟨b,off,e,hb,λj u hu=>(hk _ hb).trans (hc j u hu)⟩
theorem Rd.more (h:Rd w B A xs) (hB:B<=B'):Rd w B' A xs:=λhn=>by
 obtain⟨b,off,e,hb,hc⟩:=h hn
 exact⟨b,off,e,by omega,hc⟩
theorem Rd.below (h:Rd w B A xs) (hb:Below B w w'):Rd w' B A xs:=h.keep λ_ hp=>hb.cell hp
theorem Rd.alloc (h:Rd w B A xs) (hB:B<=w.heap.size) (o:Obj):Rd (w.alloc o) B A xs:=h.keep λp hp=>World.cell?_alloc_lt w o p (by omega)
theorem Rd.drewN (h:Rd w B A xs) (n:Nat):Rd (w.drewN n) B A xs:=h
theorem Rd.grown (h:Rd w B A xs) {row:Option Nat} (hg:w.grownBy w' row) (hB:B<=w.heap.size) (hr:∀g,row=some g->B<=g):Rd w' B A xs :=
 h.keep λp hp=>World.cell?_of_block (hg.block p.block (by omega) (λe=>by have:=hr _ e.symm; omega))
theorem Rd.at_ {k:Nat} (h:Rd w B A xs) (hk:k<xs.length):∃b off,A=some ⟨b,off,none⟩/\b<B/\(∀j u,xs[j]?=some u->w.cell? ⟨b,off+j,none⟩=some u)/\w.cell? ⟨b,off+k,none⟩=some xs[k]:=by
 obtain⟨b,off,e,hb,hc⟩:=h (by intro e; subst e; simp at hk)
 exact⟨b,off,e,hb,hc,hc k _ (kY hk)⟩
end
section
variable {H:Type} {enc:TypeId×Value->H} {P:Program} {w:World} {spare:Nat->Bool} {held:Bool}
open Go.ChangeShapes Go.WideShapes Go.Deep
theorem OD {a:Addr} (h:w.cells? base a n=some cs):base<=a.block/\cs.length=n/\∀j,j<n->w.cell? (a.add j)=cs[j]?:=by
 obtain⟨h1,h2,h3⟩:=World.cells?_some h
 exact⟨h1,h2,h3⟩
theorem open_flat {ks:List Sc} {v:Value} {d:DataW H} {p:List MemPlace} {r:Reach} {b0:Nat} (ht:P.underlying t=some (.slice e)) (hk:flat P n e=some ks) (hce:P.cellsOf e=ks.length) (hpos:0<ks.length)
 (hv:Value.okWide P w r b0 t v) (h:DataW.Trod enc P w 0 spare held t v d p) :
 ∃(A:Option Addr) (len cap:Nat) (xs:List Value),v=.slice A len cap/\len<=cap/\cap<=maxLen/\xs.length=len*ks.length/\Rd w w.heap.size A xs/\(∀i,i<len->Kinds ks ((xs.drop (i*ks.length)).take ks.length)):=by
 obtain⟨A,len,cap,rfl⟩:=okWide_slice ht hv
 have hlt:∀x∈p,x.block<w.heap.size:=by obtain⟨m,hm⟩:=h; exact DataW.trod_lt m _ _ _ hm
 obtain⟨fuel,hf⟩:=h
 rcases open_slice ht hf with⟨h0,_⟩|⟨a,len',cap',m,n',D,Pl,h0,_,hl,hm,hmm,hx,hi⟩
 .simp[Value.cells] at h0
  obtain⟨rfl,rfl,rfl⟩:=h0
  exact⟨none,0,0,[],rfl,lJ _,lK _,by simp,Rd.nil,λi hi=>absurd hi (by omega)⟩
 .simp[Value.cells] at h0
  obtain⟨rfl,rfl,rfl⟩:=h0
  have hlm:len<=m:=by rw[hmm]; split<;>omega
  rw[hce] at hi
  -- the cells,one by one
  have hcell:∀j,j<len*ks.length->∃u,w.cell? (a.add j)=some u:=by
   intro j hj
   have hq:j/ks.length<len:=Nat.div_lt_of_lt_mul (by rw[lL]; exact hj)
   obtain⟨cs',hc,_⟩:=hi (j/ks.length) (by omega)
   obtain⟨_,hcl,hat⟩:=OD hc
   have hr:j%ks.length<ks.length:=lM _ hpos
   have:=hat (j%ks.length) hr
   rw[kY (by omega),Go.Deep.add_add] at this
   rw[show j/ks.length*ks.length+j%ks.length=j from Nat.div_add_mod' _ _] at this
   exact⟨_,this⟩
  refine⟨some a,len,cap,(List.range (len*ks.length)).map λj=>(w.cell? (a.add j)).getD undef,rfl,hl,hm,by simp,?_,?_⟩
  .intro hne
   have hpos':0<len*ks.length:=by
    rcases lN (len*ks.length) with h0|h0
    .rw[h0] at hne; simp at hne
    .exact h0
   obtain⟨u,hu⟩:=hcell 0 hpos'
   have hlen:0<len:=Nat.pos_of_mul_pos_right hpos'
   have hspot:a.spot=none:=by
    have:=World.cell?_spot hu
    simpa [Addr.add] using this
   obtain⟨b,off,spot⟩:=a
   simp only at hspot
   subst hspot
   refine⟨b,off,rfl,?_,λj u hu=>?_⟩
   .have:MemPlace.cell b off∈p:=by
     simp only[Prod.mk.injEq] at hx
     rw[hx.2]
     refine lO _ ?_
     unfold MemPlace.row
     rw[lP]
     refine⟨0,?_,by simp⟩
     rw[lQ,hce]
     exact Nat.mul_pos (by omega) hpos
    exact hlt _ this
   .have hj:j<len*ks.length:=by
     have:=(lR.1 hu).1
     simpa using this
    simp only[lS,lT hj,lU,Option.some.injEq] at hu
    obtain⟨u',hu'⟩:=hcell j hj
    rw[hu'] at hu
    simp only[lV] at hu
    subst hu
    have he:(⟨b,off,none⟩:Addr).add j=⟨b,off+j,none⟩:=by unfold Addr.add; split<;>simp_all
    rw[he] at hu'
    exact hu'
  .intro i hilt
   obtain⟨cs',hc,htr⟩:=hi i (by omega)
   obtain⟨_,hcl,hat⟩:=OD hc
   have hkk:=Zz n e ks hk n' cs' _ htr
   have hle:(i+1)*ks.length<=len*ks.length:=lW _ hilt
   rw[lF,lX] at hle
   have heq:((((List.range (len*ks.length)).map λj=>(w.cell? (a.add j)).getD undef).drop (i*ks.length)).take ks.length)=cs':=by
    apply lY
    intro j
    by_cases hj:j<ks.length
    .rw[lr,lu hj,ly]
     simp only[lS,lT (show i*ks.length+j<len*ks.length by omega),lU]
     have:=hat j hj
     rw[Go.Deep.add_add] at this
     rw[this,kY (by omega)]
     rfl
    .rw[lr,lz hj,k8 (by omega)]
   rw[heq]
   exact hkk
end
theorem ints_of {k:IntKind} (hl:xs.length=n*1) (h:∀i,i<n->Kinds [Sc.i k] ((xs.drop (i*1)).take 1)):∃zs:List Int,xs=zs.map (Value.int k)/\zs.length=n/\∀z∈zs,(Lit.int k z).wf=true:=by
 induction xs generalizing n with
 |nil=>exact⟨[],rfl,by simpa using hl,by simp⟩
 |cons x xs ih =>
  cases n with
  |zero=>simp at hl
  |succ n =>
   obtain⟨zs,e,hz,hw⟩:=ih (n:=n) (by simpa using hl) (λi hi=>by have:=h (i+1) (by omega); simpa using this)
   obtain⟨_,h0⟩:=h 0 (by omega)
   obtain⟨z,e0,w0⟩:=h0 0 (.i k) x rfl (by simp)
   subst e e0
   exact⟨z::zs,rfl,by simp[hz],λy hy=>by rcases kN.1 hy with rfl|hy; exact w0; exact hw y hy⟩
structure App (P:Program) (t e:TypeId) (size bytes:Nat):Prop where
 ty:P.underlying t=some (.slice e)
 info:∃i z,P.info? e=some i/\i.zero=some z/\i.size=size/\i.bytes=bytes/\z.cells.size=size
 pos:0<size
theorem ew {z:Value} {bytes:Nat} (ty:P.underlying t=some (.slice e)) (h:(P.info? e).map (λi=>(i.zero,i.size,i.bytes))=some (some z,size,bytes)) (hz:z.cells.size=size) (hp:0<size):App P t e size bytes:=by
 obtain⟨i,hi,h1,h2,h3⟩:=info_parts h
 exact⟨ty,⟨i,z,hi,h1,h2,h3,hz⟩,hp⟩
section
variable {P:Program} {w:World} {t e:TypeId} {size bytes:Nat}
theorem ZA (hT:App P t e size bytes) (ty:TypeId) (base:Nat) (v:Value) (n:Nat) (xs:List Value) (hown:w.ownsRow base e size v n xs)
 (B:Nat) (A:Option Addr) (m c:Nat) (news:List Value) (hl:news.length=m*size) (hr:Rd w B A news) (h1:∀u∈news,u.oneCell'=true)
 (h63:n+m<=maxLen) (hbytes:(n+m)*bytes<=140737488355328) (hbase:base<=w.heap.size) :
 ∃v' w',(Builtin.append_ #[t,t] ty #[v,.slice A m c]).run P w=.ok v' w'/\w'.ownsRow base e size v' (n+m) (xs++news)/\w.grownBy w' v.ownBlock/\(v'.ownBlock=v.ownBlock\/v'.ownBlock=some w.heap.size):=by
 obtain⟨ht,⟨i,z,hi,hz,hsize,hby,hzs⟩,hsz⟩:=hT
 cases A with
 |none =>
  have hn:news=[]:=by
   rcases news with _|⟨u,r⟩
   .rfl
   .obtain⟨b,off,h,_⟩:=hr (by simp); cases h
  subst hn
  have hm:m=0:=by
   have:m*size=0:=by simpa using hl.symm
   rcases lZ.1 this with h|h
   .exact h
   .omega
  subst hm
  have hrun:(Builtin.append_ #[t,t] ty #[v,.slice none 0 c]).run P w=.ok v w:=by
   rcases hown.2 with⟨rfl,rfl⟩|⟨g,cap,cur,rfl,_,_,hnc,_⟩
   .simp[Builtin.append_,run_underlying ht,sizeOf,typeInfo,hi,Builtin.lenOf,Builtin.firstCells]
   .simp[Builtin.append_,run_underlying ht,sizeOf,typeInfo,hi,Builtin.lenOf,Builtin.firstCells,hnc,storeCells]
  exact⟨v,w,hrun,by simpa using hown,World.grownBy.refl w _,.inl rfl⟩
 |some ad =>
  have hcells:∀j u,news[j]?=some u->w.cell? (ad.add j)=some u:=by
   intro j u hu
   obtain⟨b,off,h,_,hc⟩:=hr (by intro e; subst e; simp at hu)
   simp only[Option.some.injEq] at h
   subst h
   have:=hc j u hu
   have he:(⟨b,off,none⟩:Addr).add j=⟨b,off+j,none⟩:=by unfold Addr.add; split<;>simp_all
   rw[he]; exact this
  obtain⟨v',w',hrun,h2,h3,_,h5⟩:=run_append_own_at (P:=P) w base t ty e i z size bytes ht hi hz hsize hby hzs hsz v n xs hown ad m c news hl hcells h1 h63 hbytes hbase
  exact⟨v',w',hrun,h2,h3,h5⟩
theorem ey (hT:App P t e size bytes) {o:Oper} {a:Act} {K:Act->World->Prop} {Q:Exit->Act->World->Prop} (s x:Operand)
 (ho:o.op=.call {callee:=.builtin .append,args:=#[s,x],argTypes:=#[t,t]})
 (base:Nat) (v:Value) (n:Nat) (xs:List Value) (hs:a.eval s=v) (hown:w.ownsRow base e size v n xs)
 (B:Nat) (A:Option Addr) (m c:Nat) (news:List Value) (hx:a.eval x=.slice A m c) (hl:news.length=m*size) (hr:Rd w B A news) (h1:∀u∈news,u.oneCell'=true)
 (h63:n+m<=maxLen) (hbytes:(n+m)*bytes<=140737488355328) (hbase:base<=w.heap.size)
 (h:∀v' w',w'.ownsRow base e size v' (n+m) (xs++news)->w.grownBy w' v.ownBlock->(v'.ownBlock=v.ownBlock\/v'.ownBlock=some w.heap.size)->K (a.put o.dst v') w'):o.wp P a w K Q:=by
 obtain⟨v',w',hrun,h2,h3,h4⟩:=ZA hT o.type base v n xs hown B A m c news hl hr h1 h63 hbytes hbase
 unfold Oper.wp execOp
 simp only[ho,resolve,invoke,builtin,l5,l6,l7,l8,ma,mb,hs,hx,hrun]
 exact h v' w' h2 h3 h4
theorem Nl (hT:App P t e size bytes) {ops:Array Oper} {rest:List Oper} {o:Oper} {a:Act} {Q:Exit->Act->World->Prop} (hgd:o.guard=none) (s x:Operand)
 (ho:o.op=.call {callee:=.builtin .append,args:=#[s,x],argTypes:=#[t,t]})
 (base:Nat) (v:Value) (n:Nat) (xs:List Value) (hs:a.eval s=v) (hown:w.ownsRow base e size v n xs)
 (B:Nat) (A:Option Addr) (m c:Nat) (news:List Value) (hx:a.eval x=.slice A m c) (hl:news.length=m*size) (hr:Rd w B A news) (h1:∀u∈news,u.oneCell'=true)
 (h63:n+m<=maxLen) (hbytes:(n+m)*bytes<=140737488355328) (hbase:base<=w.heap.size)
 (h:∀v' w',w'.ownsRow base e size v' (n+m) (xs++news)->w.grownBy w' v.ownBlock->(v'.ownBlock=v.ownBlock\/v'.ownBlock=some w.heap.size)->wpList P ops Q rest (a.put o.dst v') w'):wpList P ops Q (o::rest) a w :=
 wpList_plain hgd λ_ hK=>ey hT s x ho base v n xs hs hown B A m c news hx hl hr h1 h63 hbytes hbase λv' w' h2 h3 h4=>hK _ _ (h v' w' h2 h3 h4)
theorem OE (hT:App P t e size bytes) {us:Array Value} {ops:Array Oper} {rest:List Oper} {o:Oper} {a:Act} {Q:Exit->Act->World->Prop} (hgd:o.guard=none) (s x:Operand)
 (ho:o.op=.call {callee:=.builtin .append,args:=#[s,x],argTypes:=#[t,t]})
 (base:Nat) (v:Value) (n:Nat) (xs:List Value) (hs:a.eval s=v) (hown:w.ownsRow base e size v n xs) (hx:a.eval x=.slice (some ⟨w.heap.size,0,none⟩) 1 1) (hu:us.size=size) (h1:∀u∈us.toList,u.oneCell'=true)
 (h63:n+1<=maxLen) (hbytes:(n+1)*bytes<=140737488355328) (hbase:base<=w.heap.size)
 (h:∀v' w',w'.ownsRow base e size v' (n+1) (xs++us.toList)->w.grownBy w' v.ownBlock->(v'.ownBlock=v.ownBlock\/v'.ownBlock=some (w.heap.size+1))->wpList P ops Q rest (a.put o.dst v') w'):wpList P ops Q (o::rest) a (w.alloc (.cells us e)):=by
 refine Nl hT hgd s x ho base v n xs hs (hown.alloc _) (w.heap.size+1) _ 1 1 us.toList hx (by simp[hu]) ?_ h1 h63 hbytes (by simp; omega) ?_
 .intro _
  refine⟨w.heap.size,0,rfl,by omega,λj u hj=>?_⟩
  have hh:(w.alloc (.cells us e)).heap[w.heap.size]?=some (.cells us e):=mc w _
  unfold World.cell?
  simp only[hh,me]
  simpa using hj
 .intro v' w' h2 h3 h4
  refine h v' w' h2 ⟨h3.os,h3.tape,h3.output,mf (by simp) h3.size,λk hk hne=>?_⟩ ?_
  .rw[h3.block k (by simp; omega) hne,Below.heap_alloc w _ k hk]
  .rcases h4 with h|h
   .exact .inl h
   .right; rw[h]; simp
end
theorem Rd.of_own {e:Nat} (h:w.ownsRow base e size v n xs):∃A c,v=.slice A n c/\n<=c/\c<=maxLen/\Rd w w.heap.size A xs/\(∀b,A.map (·.block)=some b->base<=b):=by
 rcases h.2 with⟨rfl,rfl⟩|⟨g,cap,cur,rfl,hb,hh,hnc,hm,hs,hx⟩
 .have hx:xs=[]:=lA (by simpa using h.1)
  subst hx
  exact⟨none,0,rfl,lJ _,lK _,Rd.nil,λb hb=>by simp at hb⟩
 .refine⟨some ⟨g,0,none⟩,cap,rfl,hnc,hm,λ_=>?_,λb hb'=>by simp at hb'; omega⟩
  have hg:g<w.heap.size:=by
   rcases k6 g w.heap.size with h|h
   .exact h
   .rw[mg h] at hh; cases hh
  refine⟨g,0,rfl,hg,λj u hj=>?_⟩
  have:=h.cells (g:=g) rfl j u hj
  have he:(⟨g,0,none⟩:Addr).add j=⟨g,0+j,none⟩:=by unfold Addr.add; split<;>simp_all
  rw[<-he]; exact this
theorem J9 (k:IntKind) (zs:List Int):∀u∈zs.map (Value.int k),u.oneCell'=true:=ints_oneCell k zs
theorem Sy (k:IntKind) (z:Int):∀u∈(#[Value.int k z]:Array Value).toList,u.oneCell'=true:=by
 intro u hu; simp at hu; subst hu; rfl
theorem Jp {a:World} (h:Below B a w) (n:Nat):Below B a (w.drewN n):=⟨h.os,h.tape,h.output,h.size,h.block⟩
theorem OF {a b:Bool} (h:a=b):Ending.returned (.bool a)=.returned (.bool b):=by rw[h]
theorem Sz (n:Int) (w:World) (h1:1<=n) (h2:n<=8):Calls Tryz.prog 298 #[.int .i64 n] w λe w'=>e=.returned (.bool true)/\w=w':=by
 go_enter Tryz.func298,Tryz.ntmps298
 go_wp2
 go_ret
 exact⟨rfl,rfl⟩
theorem ZB (B:Nat) (A:Option Addr) (c:Nat) (zs:List Int) (at_ k:Nat) (w:World) (hrd:Rd w B A (zs.map (.int .u8))) (hz:∀z∈zs,0<=z/\z<256) (hl:zs.length<=65536) (h1:1<=k) (h2:k<=8) (h4:at_+k<=zs.length) :
 Calls Tryz.prog 300 #[.slice A zs.length c,.int .i64 at_,.int .i64 k] w λe w'=>e=.returned (.tuple #[.int .u64 (num ((zs.drop at_).take k)),.bool true])/\w=w':=by
 obtain⟨b,off,rfl,hB,hc⟩:=hrd (by intro e; simp at e; subst e; simp at h4; omega)
 have hd:decide ((zs.length:Int)-k<at_)=false:=by simp; omega
 have HZ:=mh hz
 have HC:=mh hc
 clear hz hc hrd
 go_enter Tryz.func300,Tryz.ntmps300
 go_wp2_with (go_at_call 298; refine (Sz _ _ (by omega) (by omega)).mono ?_; rintro e w' ⟨rfl,rfl⟩)
 go_loop [8,9] (λn i=>∃j:Nat,j<=k/\i=.int .i64 ((j:Int)-1)/\n=.int .u64 (num ((zs.drop (at_+j)).take (k-j)))) (λ_ i=>(intOf i+1).toNat)
 case atStart=>exact⟨k,lJ _,rfl,by simp[num]⟩
 case round =>
  obtain⟨j,hj,rfl,rfl⟩:=hrel
  by_cases h0:j=0
  .subst h0
   go_wp2
   go_ret2
   exact⟨by simp,rfl⟩
  .obtain⟨i,rfl⟩:∃i,j=i+1:=⟨j-1,by omega⟩
   have hcell:=HC.out (at_+i) (.int .u8 (zs[at_+i]?.getD 0)) (by rw[lS,kY (by omega)]; rfl)
   have hst:=mh (OB zs (at_+i) (k-(i+1)) (by omega))
   have hp:=OC zs (at_+i+1) (k-(i+1)) HZ.out (by omega)
   have hby:=Sx HZ.out (at_+i)
   go_wp2
   refine⟨⟨i,by omega,rfl,?_⟩,by simp[intOf]⟩
   rw[show at_+(i+1)=at_+i+1 from by omega,Sw _ _ hp.1 hp.2 hby.1 hby.2,<-hst.out,show k-(i+1)+1=k-i from by omega]
theorem SB:App Tryz.prog 23 5 1 1:=ew (z:=.int .u8 0) Tryz.underlying23 (by kernel_rfl) rfl (by decide)
def Out (B:Nat) (w:World) (e:TypeId) (n:Nat) (xs:List Value) (en:Ending) (w':World):Prop:=∃v,en=.returned v/\w'.ownsRow B e 1 v n xs/\Below w.heap.size w w'
theorem ic (n:Int) (j:Nat):n/256^j/256=n/256^(j+1):=by
 rw[Int.pow_succ,kO (mi (Int.pow_pos (by decide)))]
theorem SC {j:Nat} {n:Int} {wr w1:World} {v:Value} (hB:B<=wr.heap.size) (hb:Below B w wr) (hown:wr.ownsRow B 5 1 u (zs.length+j) ((zs++le n j).map (.int .u8)))
 (h2:w1.ownsRow B 5 1 v (zs.length+j+1) ((zs++le n j).map (.int .u8)++#[Value.int .u8 (n/256^j%256)].toList)) (hg:wr.grownBy w1 u.ownBlock) :
 w1.ownsRow B 5 1 v (zs.length+(j+1)) ((zs++le n (j+1)).map (.int .u8))/\Below B w w1:=by
 refine⟨?_,hb.grown hg hB (λk hk=>(hown.lt k hk).1)⟩
 rw[Su,<-mj,mn,<-mq]
 exact h2
theorem ZC (B:Nat) (A:Option Addr) (c:Nat) (zs:List Int) (n:Int) (k:Nat) (w:World) (hrd:Rd w B A (zs.map (.int .u8))) (hl:zs.length<=65536) (h1:1<=k) (h2:k<=8) (hn:0<=n) :
 Calls Tryz.prog 274 #[.slice A zs.length c,.int .u64 n,.int .i64 k] w (Out w.heap.size w 5 (zs.length+k) ((zs++le n k).map (.int .u8))):=by
 go_enter Tryz.func274,Tryz.ntmps274
 go_wp2_with (first
  |(at_builtin; refine Nl SB rfl _ _ rfl w.heap.size (.slice none 0 0) 0 [] rfl (World.ownsRow_nil _ _ _ _) B A zs.length c _ rfl (by simp) hrd (J9 _ _) (by unfold maxLen; omega) (by omega) (lJ _) ?_; intro v1 w1 hown1 hg1 hat1)
  |(go_at_call 298; refine (Sz _ _ (by omega) (by omega)).mono ?_; rintro e w' ⟨rfl,rfl⟩))
 have hb1:Below w.heap.size w w1:=(mr _ _).grown hg1 (lJ _) (λk hk=>by simp[Value.ownBlock] at hk)
 simp only[me,mw] at hown1
 clear hg1 hat1 hrd
 go_loopw [1,7,15] (λm v i wr=>∃j:Nat,j<=k/\i=.int .i64 j/\m=.int .u64 (n/256^j)/\wr.ownsRow w.heap.size 5 1 v (zs.length+j) ((zs++le n j).map (.int .u8))/\Below w.heap.size w wr) (λ_ _ i _=>k-(intOf i).toNat)
 case atStart=>exact⟨0,lK _,rfl,by simp,by simpa [le] using hown1,hb1⟩
 case round =>
  obtain⟨j,hj,rfl,rfl,hown,hb⟩:=hrel
  clear hown1 hb1
  by_cases hlt:j<k
  .have H8:=mh (ic n j)
   have h0:0<=n/256^j:=Int.ediv_nonneg hn (mi (Int.pow_pos (by decide)))
   have hsz:=hb.size
   go_wp2_with (first|(at_builtin; go_must (refine OE SB rfl _ _ rfl w.heap.size _ (zs.length+j) _ rfl hown rfl rfl (Sy _ _) (by unfold maxLen; omega) (by omega) hsz ?_); intro v2 w2 hown2 hg2 hat2))
   have R:=SC (w:=w) hsz hb hown hown2 hg2
   clear hown2 hg2 hat2 hown hb
   go_wp2
   go_roundw
   case rel=>exact⟨j+1,by omega,by go_num,by rw[H8.out],R.1,R.2⟩
   case measure=>simp[intOf]; omega
  .have:j=k:=by omega
   subst this
   go_wp2
   go_ret
   exact⟨_,rfl,hown,hb⟩
theorem VW (B:Nat) (A:Option Addr) (c:Nat) (zs:List Int) (at_ k:Nat) (w:World) (hrd:Rd w B A (zs.map (.int .u8))) (hz:∀z∈zs,0<=z/\z<256) (hl:zs.length<=65536) (h1:1<=k) (h2:k<=8) (h4:at_+k<=zs.length) :
 Calls Tryz.prog 280 #[.slice A zs.length c,.int .i64 at_,.int .i64 k] w λe w'=>e=.returned (.tuple #[.int .u64 (num ((zs.drop at_).take k)),.bool true])/\w=w':=by
 obtain⟨b,off,rfl,hB,hc⟩:=hrd (by intro e; simp at e; subst e; simp at h4; omega)
 have hd:decide ((zs.length:Int)-k<at_)=false:=by simp; omega
 have HZ:=mh hz
 have HC:=mh hc
 clear hz hc hrd
 go_enter Tryz.func280,Tryz.ntmps280
 go_wp2
 go_loop [8,9] (λn i=>∃j:Nat,j<=k/\i=.int .i64 ((j:Int)-1)/\n=.int .u64 (num ((zs.drop (at_+j)).take (k-j)))) (λ_ i=>(intOf i+1).toNat)
 case atStart=>exact⟨k,lJ _,rfl,by simp[num]⟩
 case round =>
  obtain⟨j,hj,rfl,rfl⟩:=hrel
  by_cases h0:j=0
  .subst h0
   go_wp2
   go_ret2
   exact⟨by simp,rfl⟩
  .obtain⟨i,rfl⟩:∃i,j=i+1:=⟨j-1,by omega⟩
   have hcell:=HC.out (at_+i) (.int .u8 (zs[at_+i]?.getD 0)) (by rw[lS,kY (by omega)]; rfl)
   have hst:=mh (OB zs (at_+i) (k-(i+1)) (by omega))
   have hp:=OC zs (at_+i+1) (k-(i+1)) HZ.out (by omega)
   have hby:=Sx HZ.out (at_+i)
   go_wp2
   refine⟨⟨i,by omega,rfl,?_⟩,by simp[intOf]⟩
   rw[show at_+(i+1)=at_+i+1 from by omega,Sw _ _ hp.1 hp.2 hby.1 hby.2,<-hst.out,show k-(i+1)+1=k-i from by omega]
theorem ZD (n:Int) (h:0<=n) (h2:n<18446744073709551616):bits .and .u64 n 255=n%256:=by
 obtain⟨m,rfl⟩:=kT h
 have:=u64_and_nat m 255 (by omega) (by decide)
 rw[show ((255:Nat):Int)=255 from rfl] at this
 rw[this,show m &&& 255=m%256 from Nat.and_two_pow_sub_one_eq_mod m 8]
 simp
theorem VX (B:Nat) (A:Option Addr) (c:Nat) (zs:List Int) (n:Int) (k:Nat) (w:World) (hrd:Rd w B A (zs.map (.int .u8))) (hB:B<=w.heap.size) (hl:zs.length<=65536) (h1:1<=k) (h2:k<=8) (hn:0<=n) (hn2:n<18446744073709551616) :
 Calls Tryz.prog 226 #[.slice A zs.length c,.int .u64 n,.int .i64 k] w (Out w.heap.size w 5 (zs.length+k) ((zs++le n k).map (.int .u8))):=by
 have HN:=mh hn2
 clear hn2
 go_enter Tryz.func226,Tryz.ntmps226
 go_wp2_with (at_builtin; go_must (refine Nl SB rfl _ _ rfl w.heap.size (.slice (some ⟨w.heap.size,0,none⟩) 0 0) 0 [] rfl (World.ownsRow_lit _ _ _ (lJ _) (by decide) (by decide)) B A zs.length c _ rfl (by simp) (hrd.alloc hB _) (J9 _ _) (by unfold maxLen; omega) (by omega) (by simp) ?_); intro v1 w1 hown1 hg1 hat1)
 have hb1:Below w.heap.size w w1:=((mr _ _).alloc (lJ _) _).grown hg1 (by simp) (λk hk=>by simp[Value.ownBlock] at hk; omega)
 simp only[me,mw] at hown1
 clear hg1 hat1 hrd
 go_loopw [1,7,8] (λm v i wr=>∃j:Nat,j<=k/\i=.int .i64 j/\m=.int .u64 (n/256^j)/\wr.ownsRow w.heap.size 5 1 v (zs.length+j) ((zs++le n j).map (.int .u8))/\Below w.heap.size w wr) (λ_ _ i _=>k-(intOf i).toNat)
 case atStart=>exact⟨0,lK _,rfl,by simp,by simpa [le] using hown1,hb1⟩
 case round =>
  obtain⟨j,hj,rfl,rfl,hown,hb⟩:=hrel
  clear hown1 hb1
  by_cases hlt:j<k
  .have H8:=mh (ic n j)
   have h0:0<=n/256^j:=Int.ediv_nonneg hn (mi (Int.pow_pos (by decide)))
   have ha:=ZD (n/256^j) h0 (Int.lt_of_le_of_lt (Int.ediv_le_self _ hn) HN.out)
   have hsz:=hb.size
   go_wp2_with (first|(at_builtin; go_must (refine OE SB rfl _ _ rfl w.heap.size _ (zs.length+j) _ rfl hown rfl rfl (Sy _ _) (by unfold maxLen; omega) (by omega) hsz ?_); intro v2 w2 hown2 hg2 hat2))
   have R:=SC (w:=w) hsz hb hown hown2 hg2
   clear hown2 hg2 hat2 hown hb
   go_wp2
   go_roundw
   case rel=>exact⟨j+1,by omega,by go_num,by rw[H8.out],R.1,R.2⟩
   case measure=>simp[intOf]; omega
  .have:j=k:=by omega
   subst this
   go_wp2
   go_ret
   exact⟨_,rfl,hown,hb⟩
def EJ:Value->Lit
 |.int k n=>.int k n
 |.bool b=>.bool b
 |.string s=>.string s.data.toList
 |_=>.bool false
theorem Sc.lit_inj {k:Sc} (hu:k.ok u) (hv:k.ok v) (h:EJ u=EJ v):u=v:=by
 cases k with
 |i k=>obtain⟨z,rfl,_⟩:=hu; obtain⟨y,rfl,_⟩:=hv; simp only[EJ,Lit.int.injEq] at h; rw[h.2]
 |b=>obtain⟨z,rfl⟩:=hu; obtain⟨y,rfl⟩:=hv; simp only[EJ,Lit.bool.injEq] at h; rw[h]
 |s =>
  obtain⟨z,rfl,_⟩:=hu
  obtain⟨y,rfl,_⟩:=hv
  simp only[EJ,Lit.string.injEq] at h
  obtain⟨⟨z⟩⟩:=z
  obtain⟨⟨y⟩⟩:=y
  simp only at h
  rw[h]
theorem Kinds.lits_inj {ks:List Sc} {ys:List Value} (hx:Kinds ks xs) (hy:Kinds ks ys) (h:xs.map EJ=ys.map EJ):xs=ys:=by
 apply lY
 intro i
 by_cases hi:i<ks.length
 .have h1:i<xs.length:=by rw[hx.1]; exact hi
  have h2:i<ys.length:=by rw[hy.1]; exact hi
  rw[kY h1,kY h2]
  congr 1
  refine Sc.lit_inj (hx.2 i ks[i] _ (kY hi) (kY h1)) (hy.2 i ks[i] _ (kY hi) (kY h2)) ?_
  have:=congrArg (λl=>l[i]?) h
  simpa [kY h1,kY h2] using this
 .rw[k8 (by rw[hx.1]; omega),k8 (by rw[hy.1]; omega)]
theorem Kinds.part {a b:List Sc} (h:Kinds (a++b) cs):Kinds a (cs.take a.length)/\Kinds b (cs.drop a.length):=by
 obtain⟨hl,hk⟩:=h
 rw[lp] at hl
 refine⟨⟨by rw[k9]; omega,λj k v h1 h2=>?_⟩,⟨by rw[lk]; omega,λj k v h1 h2=>?_⟩⟩
 .have hj:=(lR.1 h1).1
  rw[lr,lu hj] at h2
  exact hk j k v (by rw[lq hj]; exact h1) h2
 .rw[ly] at h2
  exact hk (a.length+j) k v (by rw[lx (by omega)]; rw[show a.length+j-a.length=j from by omega]; exact h1) h2
section
variable {P:Program}
theorem QX {k:Sc} (h:Kinds [k] cs):∃v,cs=[v]/\k.ok v:=by
 match cs,h.1 with
 |[v],_=>exact⟨v,rfl,h.2 0 k v rfl rfl⟩
theorem Ka (fl:TypeId->Option (List Sc)) (fs:List Field):∀(acc l:List Sc),Cc P fl fs acc=some l->∃b,l=acc++b:=by
 induction fs with
 |nil=>intro acc l h; simp only[Cc,Option.some.injEq] at h; exact⟨[],by simp[h]⟩
 |cons g gs ih =>
  intro acc l h
  simp only[Cc] at h
  cases hg:fl g.type with
  |none=>rw[hg] at h; simp at h
  |some l2 =>
   rw[hg] at h
   simp only at h
   by_cases hc2:g.offset=acc.length/\P.cellsOf g.type=l2.length
   .rw[lu hc2] at h
    obtain⟨b,hb⟩:=ih (acc++l2) l h
    exact⟨l2++b,by rw[hb]; simp[mj]⟩
   .rw[lz hc2] at h; simp at h
theorem OG (n D:Nat) (ih:∀(t:TypeId) (l:List Sc),flat P n t=some l->P.keyTypeAt n t=true->∀cs,Kinds l cs->P.keyLits D t cs=some (cs.map EJ))
 (cs:List Value) (fs:List Field):∀(acc l:List Sc),Cc P (flat P n) fs acc=some l->(∀f∈fs,P.keyTypeAt n f.type=true)->Kinds l (cs.take l.length) ->
 ∃lss:List (List Lit),fs.mapM (λf=>P.keyLits D f.type ((cs.drop f.offset).take (P.cellsOf f.type)))=some lss/\lss.flatten=((cs.take l.length).drop acc.length).map EJ/\acc.length<=l.length:=by
 induction fs with
 |nil =>
  intro acc l h _ _
  simp only[Cc,Option.some.injEq] at h
  subst h
  exact⟨[],rfl,by simp,lJ _⟩
 |cons f fs IH =>
  intro acc l h hk hcs
  simp only[Cc] at h
  cases hfl:flat P n f.type with
  |none=>rw[hfl] at h; simp at h
  |some l1 =>
   rw[hfl] at h
   simp only at h
   by_cases hc:f.offset=acc.length/\P.cellsOf f.type=l1.length
   .rw[lu hc] at h
    obtain⟨lss,h1,h2,h3⟩:=IH (acc++l1) l h (λg hg=>hk g (by simp[hg])) hcs
    rw[lp] at h2 h3
    have hsub:Kinds l1 ((cs.drop acc.length).take l1.length):=by
     obtain⟨b,rfl⟩:=Ka (P:=P) (flat P n) fs (acc++l1) l h
     have:=(hcs.part).1
     have:=(this.part).2
     rw[List.take_take,List.drop_take,lp] at this
     rw[show min (acc.length+l1.length) ((acc++l1++b).length)-acc.length=l1.length from by simp] at this
     exact this
    have hl:=ih f.type l1 hfl (hk f (by simp)) _ hsub
    refine⟨(((cs.drop acc.length).take l1.length).map EJ)::lss,?_,?_,by omega⟩
    .rw[List.mapM_cons,hc.1,hc.2,hl,h1]; rfl
    .rw[lD,h2,<-mn]
     congr 1
     rw[show (cs.take l.length).drop (acc.length+l1.length)=(((cs.take l.length).drop acc.length).drop l1.length) from by rw[lG]]
     rw[show (cs.drop acc.length).take l1.length=((cs.take l.length).drop acc.length).take l1.length from by rw[List.drop_take,List.take_take]; congr 1; omega]
     exact my _ _
   .rw[lz hc] at h; simp at h
theorem QY {D:Nat} {l1:List Sc} (hce:P.cellsOf e=l1.length) (ih:∀cs,Kinds l1 cs->P.keyLits D e cs=some (cs.map EJ)) (m:Nat):∀(k:Nat) (cs:List Value),Kinds (List.replicate m l1).flatten (cs.drop (k*l1.length)) ->
 ∃lss:List (List Lit),(List.range' k m).mapM (λi=>P.keyLits D e ((cs.drop (i*P.cellsOf e)).take (P.cellsOf e)))=some lss/\lss.flatten=(cs.drop (k*l1.length)).map EJ:=by
 induction m with
 |zero =>
  intro k cs h
  have:cs.drop (k*l1.length)=[]:=lA (by simpa using h.1)
  exact⟨[],rfl,by rw[this]; rfl⟩
 |succ m IH =>
  intro k cs h
  rw[lC,lD] at h
  obtain⟨h1,h2⟩:=h.part
  rw[lG,show k*l1.length+l1.length=(k+1)*l1.length from by rw[lF]; omega] at h2
  obtain⟨lss,e1,e2⟩:=IH (k+1) cs h2
  have hl:=ih _ h1
  refine⟨((cs.drop (k*l1.length)).take l1.length).map EJ::lss,?_,?_⟩
  .rw[List.range'_succ,List.mapM_cons,hce,hl]
   rw[hce] at e1
   rw[e1]; rfl
  .rw[lD,e2,<-mn]
   congr 1
   rw[show (k+1)*l1.length=k*l1.length+l1.length from by rw[lF]; omega,<-lG]
   exact my _ _
theorem Mh (n:Nat):∀(t:TypeId) (l:List Sc),flat P n t=some l->P.keyTypeAt n t=true->∀cs,Kinds l cs->P.keyLits n t cs=some (cs.map EJ):=by
 induction n with
 |zero=>intro t l h; simp[flat] at h
 |succ n ih =>
  intro t l h hk cs hcs
  unfold flat at h
  unfold Program.keyLits
  unfold Program.keyTypeAt at hk
  split at h
  .rename_i hu
   simp only[Option.some.injEq] at h
   subst h
   obtain⟨v,rfl,b,rfl⟩:=QX hcs
   rw[hu]; rfl
  .rename_i k hu
   simp only[Option.some.injEq] at h
   subst h
   obtain⟨v,rfl,z,rfl,hz⟩:=QX hcs
   rw[hu]
   simp[hz,EJ]
  .rename_i hu
   simp only[Option.some.injEq] at h
   subst h
   obtain⟨v,rfl,z,rfl,hz⟩:=QX hcs
   rw[hu]
   simp[hz,EJ]
  .rename_i fs hu
   rw[hu] at hk
   simp only at hk
   cases hff:Cc P (flat P n) fs.toList [] with
   |none=>rw[hff] at h; simp at h
   |some l1 =>
    rw[hff] at h
    simp only at h
    by_cases hc:P.cellsOf t=l1.length
    .rw[lu hc] at h
     simp only[Option.some.injEq] at h
     subst h
     simp only[mz,Array.all_eq_true',bne_iff_ne,ne_eq] at hk
     obtain⟨⟨hk1,_⟩,_⟩:=hk
     have hk2:∀f∈fs.toList,P.keyTypeAt n f.type=true:=λf hf=>(hk1 f (by simpa using hf)).2
     have hcs':cs.take l1.length=cs:=lI (by rw[hcs.1]; exact lJ _)
     obtain⟨lss,h1,h2,_⟩:=OG n n ih cs fs.toList [] l1 hff hk2 (by rw[hcs']; exact hcs)
     have hnames:fs.all (λx=>x.name != "_")=true:=by
      rw[Array.all_eq_true']
      intro f hf
      simpa using (hk1 f hf).1
     rw[hu]
     simp only[hc,hcs.1,hnames,and_self,mA,h1,lU]
     rw[h2,hcs']
     rfl
    .rw[lz hc] at h; simp at h
  .rename_i m e hu
   rw[hu] at hk
   simp only at hk
   cases hfe:flat P n e with
   |none=>rw[hfe] at h; simp at h
   |some l1 =>
    rw[hfe] at h
    simp only at h
    by_cases hc:P.cellsOf e=l1.length/\P.cellsOf t=m*l1.length/\0<l1.length
    .rw[lu hc] at h
     simp only[Option.some.injEq] at h
     subst h
     obtain⟨lss,h1,h2⟩:=QY hc.1 (ih e l1 hfe hk) m 0 cs (by simpa using hcs)
     rw[hu]
     have hlen:cs.length=P.cellsOf t:=by rw[hcs.1,hc.2.1]; simp
     simp only[hlen,mA]
     rw[List.range_eq_range',h1]
     simp only[lU,h2]
     simp
    .rw[lz hc] at h; simp at h
  .simp at h
theorem Gj {w:World} {ks:List Sc} {xs ys:Array Value} (hf:flat P n t=some ks) (hk:P.keyTypeAt n t) (hd:n<=10000) (hc:P.cellsOf t=ks.length)
 (ha:(match P.underlying t with|some (.struct _)|some (.array _ _)=>true|_=>false)=true) (hx:Kinds ks xs.toList) (hy:Kinds ks ys.toList) :
 ∃r:Bool,(Op.equalIn 10000 t (.agg xs) (.agg ys)).run P w=.ok r w/\(r=true↔xs=ys):=by
 have H:=run_equalIn_deep (P:=P) (10000-n) n t hk
 rw[show 10000-n+n=10000 from by omega] at H
 have fx:∀zs:Array Value,Kinds ks zs.toList->(Value.agg zs).formed P t=true:=by
  intro zs hz
  have hs:zs.size=P.cellsOf t:=by rw[hc,<-hz.1]; simp
  unfold Value.formed
  split at ha
  .rename_i hu; simp[hu,hs]
  .rename_i hu; simp[hu,hs]
  .simp at ha
 obtain⟨r,h1,h2⟩:=H w n n (.agg xs) (.agg ys) _ _ (fx xs hx) (fx ys hy) (Mh n t ks hf hk _ hx) (Mh n t ks hf hk _ hy)
 refine⟨r,h1,h2.trans ⟨λh=>?_,λh=>by rw[h]⟩⟩
 have:=hx.lits_inj hy h
 exact Array.ext' this
end
def OH (P:Program) (t:TypeId) (w:World) (a:Addr):Result Value:=(loadVar t a).run P w
def SD (P:Program) (t:TypeId) (size:Nat) (w:World) (a:Addr):Result Value :=
 match w.heap[a.block]? with
 |some (.cells cs _ _)=>if a.off=0/\a.spot=none/\cs.size=size then .ok (.agg cs) w else OH P t w a
 |_=>OH P t w a
theorem IF {P:Program} {t:TypeId} {d:TypeDesc} {size:Nat} (hu:P.underlying t=some d) (hd:(match d with|.struct _|.array _ _=>true|_=>false)=true) (hi:(P.info? t).map (·.size)=some size) (w:World) (a:Addr) :
 (loadVar t a).run P w=SD P t size w a:=by
 unfold SD
 split
 .rename_i cs e fr h
  split
  .rename_i hc
   obtain⟨b,off,spot⟩:=a
   obtain⟨h1,h2,h3⟩:=hc
   simp only at h1 h2
   subst h1 h2
   exact run_loadVar_row w b e t cs fr d h hu hd (by rw[h3]; exact hi)
  .rfl
 .rfl
def Nm (P:Program) (t:TypeId) (size:Nat) (w:World):Value->Result Next
 |.pointer (some a)=>(SD P t size w a).andThen λv w'=>.ok (.value v) w'
 |v=>(Instr.loadAt t v).run P w |>.andThen λv w'=>.ok (.value v) w'
theorem Kb {P:Program} {t:TypeId} {d:TypeDesc} {size:Nat} (hu:P.underlying t=some d) (hd:(match d with|.struct _|.array _ _=>true|_=>false)=true) (hi:(P.info? t).map (·.size)=some size) (w:World)
 (ρ:Operand->Value) (o:Oper) (x:Operand) (ho:o.op=.load t x):(execOp ρ o).run P w=Nm P t size w (ρ x):=by
 have e:(execOp ρ o).run P w=((Instr.loadAt t (ρ x)).run P w).andThen λv w'=>.ok (.value v) w':=by
  simp only[execOp,ho,l5,l6]
 rw[e]
 generalize ρ x=v
 unfold Nm
 split
 .simp only[Instr.loadAt,Instr.sureAddr,l5,l6,l7,IF hu hd hi]
 .rfl
def val (n:Int) (bs:List Int):Array Value:=(Value.int .i64 n::bs.map (Value.int .u8)).toArray
def pad (zs:List Int) (n:Nat):List Int:=zs++List.replicate (n-zs.length) 0
theorem E3 (zs:List Int) (n:Nat) (h:zs.length<=n):(pad zs n).length=n:=by simp[pad]; omega
theorem DX (n:Int) (bs:List Int) (h:bs.length=16):(val n bs).size=17:=by simp[val,h]
theorem GL (n:Int) (bs:List Int):∀u∈(val n bs).toList,u.oneCell'=true:=by
 intro u hu
 simp only[val,kN,lP] at hu
 rcases hu with rfl|⟨z,_,rfl⟩<;>rfl
theorem Dg:(Tryz.prog.info? 56).map (·.size)=some 17:=by kernel_rfl
theorem ie:(Tryz.prog.info? 5).map (·.size)=some 1:=by kernel_rfl
def Dh (w:World) (v:Value) (e:Ending) (w':World):Prop:=e=.returned v/\Below w.heap.size w w'
theorem QZ (zs:List Int) (n:Int) (hl:zs.length<=16):(splice ((Value.int .i64 n)::List.replicate 16 (Value.int .u8 0)) 1 (zs.map (Value.int .u8))).toArray=val n (pad zs 16):=by
 unfold splice val pad
 congr 1
 simp only[kX,List.take_zero,mB,kP,mw,mn,mC]
 rw[show 1+zs.length=zs.length+1 from by omega,mD,List.drop_replicate]
theorem ZE (zs:List Int) (n:Nat) (hl:zs.length<=n):(zs.map (Value.int .u8)).length=Nat.min zs.length n:=by rw[mB]; exact (mE hl).symm
theorem ZF {A:Option Addr} (h:Rd w B A xs):0<xs.length->∃ad,A=some ad/\∀j v,xs[j]?=some v->w.cell? (ad.add j)=some v:=by
 intro hp
 obtain⟨b,off,rfl,_,hc⟩:=h (by intro e; subst e; simp at hp)
 refine⟨_,rfl,λj v hj=>?_⟩
 have he:(⟨b,off,none⟩:Addr).add j=⟨b,off+j,none⟩:=by unfold Addr.add; split<;>simp_all
 rw[he]; exact hc j v hj
theorem GM {cs:Array Value} (h:∀u∈cs.toList,u.oneCell'=true):cs.all (·.oneCell')=true:=by
 rw[Array.all_eq_true_iff_forall_mem]; exact λv hv=>h v (by simpa using hv)
set_option maxHeartbeats 400000 in
theorem Q0 (B:Nat) (A:Option Addr) (c:Nat) (zs:List Int) (w:World) (hrd:Rd w B A (zs.map (.int .u8))) (hB:B<=w.heap.size) (hl:zs.length<=16) :
 Calls Tryz.prog 187 #[.slice A zs.length c] w (Dh w (.agg (val zs.length (pad zs 16)))):=by
 have HD:=mh hrd
 have HS:=mh (QZ zs zs.length hl)
 have hsz:=mh (DX zs.length (pad zs 16) (E3 zs 16 hl))
 clear hrd
 go_enter Tryz.func187,Tryz.ntmps187
 go_wp2_with (first
  |(refine wpList_copy_splice rfl (.tmp 8) (.tmp 9) 23 23 rfl 5 Tryz.underlying23 ie _ _ 16 16 zs.length c rfl rfl (w.heap.size+1) 1 (Value.int .i64 zs.length::List.replicate 16 (Value.int .u8 0)) 56 (heap_alloc2_new w _ _) (zs.map (Value.int .u8)) (ZE zs 16 hl) (λh=>⟨rfl,ZF ((HD.out.alloc hB _).alloc (mf hB (by simp)) _) h⟩) (by simp; omega) (J9 _ _) (w.heap.size+1) _ (mr _ _) (lJ _) ?_; intro w1 hh hb; rw[HS.out] at hh)
  |(refine wpList_load_row rfl 56 (.tmp 3) rfl (w.heap.size+1) rfl 56 _ (0,0) _ hh.out Tryz.underlying56 rfl (by rw[hsz.out]; exact Dg) ?_)
  |(refine mF rfl 56 (.tmp 2) (.tmp 11) rfl w.heap.size _ rfl rfl 56 _ ((hb.block w.heap.size (by omega)).trans (mG w _ _)) (by rw[hsz.out]; exact Dg) (by rw[hsz.out]; rfl) (GM (GL _ _)) ?_))
 have hz:=(hb.block w.heap.size (by omega)).trans (mG w _ _)
 refine mH (mI rfl _ _ w.heap.size 56 _ (0,0) _ rfl (mJ _ _ _ _ _ _ hz) Tryz.underlying56 rfl (by rw[hsz.out]; exact Dg)) rfl ⟨rfl,?_⟩
 exact mK ((((mr _ _).alloc (lJ _) _).alloc (by simp) _).trans (hb.mono (by simp))) (lJ _) _
theorem SF (n:Int) (bs:List Int):(val n bs)[0]?=some (.int .i64 n):=by simp[val]
set_option maxHeartbeats 400000 in
theorem VY (n:Int) (bs:List Int) (w:World) (h:n<0) :
 Calls Tryz.prog 316 #[.agg (val n bs)] w (Dh w (.bool false)):=by
 have v0:=SF n bs
 have hd:decide (0<=n)=false:=by simp; omega
 clear h
 go_enter Tryz.func316,Tryz.ntmps316
 go_wp2
 go_quiet (fail)
 go_wp2
 go_ret
 exact⟨rfl,Jp ((mr _ _).alloc (lJ _) _) _⟩
set_option maxHeartbeats 400000 in
theorem VZ (n:Int) (bs:List Int) (w:World) (h0:0<=n) (h:16<n) :
 Calls Tryz.prog 316 #[.agg (val n bs)] w (Dh w (.bool false)):=by
 have v0:=SF n bs
 have hd:decide (n<=16)=false:=by simp; omega
 clear h
 go_enter Tryz.func316,Tryz.ntmps316
 go_wp2
 go_quiet (fail)
 go_wp2
 go_ret
 exact⟨rfl,Jp ((mr _ _).alloc (lJ _) _) _⟩
theorem Rd.val_take {n:Int} (k:Nat) (h:W.heap[g]?=some (.cells (val n bs) t (0,0))):Rd W (g+1) (some ⟨g,1,none⟩) ((bs.take k).map (.int .u8)):=by
 intro _
 refine⟨g,1,rfl,by omega,λj u hu=>?_⟩
 rw[cell_of_row W g (1+j) _ t (0,0) h]
 rw[lS,lr] at hu
 split at hu
 .simp only[val,mL,mM 1 j,mN,lS]
  exact hu
 .simp at hu
theorem ZG {n:Int} (k c:Nat) (hk:k<=16) (hb:bs.length=16) (hg:g<W.heap.size) (h:W.heap[g]?=some (.cells (val n bs) t (0,0))) :
 Calls Tryz.prog 187 #[.slice (some ⟨g,1,none⟩) k c] W (Dh W (.agg (val k (pad (bs.take k) 16)))):=by
 have hl:(bs.take k).length=k:=by rw[k9]; omega
 have C:=Q0 (g+1) (some ⟨g,1,none⟩) c (bs.take k) W (Rd.val_take k h) (by omega) (by omega)
 rw[hl] at C
 exact C
theorem ez (w:World) (ρ:Operand->Value) (d:Option Tmp) (x:Operand) (ty:TypeId) (pos:String) (af:Array Edge) (gd:Option (Nat×Bool)) :
 (execOp ρ {dst:=d,op:=.load 56 x,type:=ty,pos:=pos,after:=af,guard:=gd}).run Tryz.prog w=Nm Tryz.prog 56 17 w (ρ x):=Kb Tryz.underlying56 rfl Dg w ρ _ x rfl
attribute [local go_sem ↓] ez
attribute [local go_sem] SD Nm
theorem Mi (n:Int) (bs:List Int) (hn:(Lit.int .i64 n).wf) (hb:bs.length=16) (hw:∀b∈bs,(Lit.int .u8 b).wf=true):Kinds (Sc.i .i64::List.replicate 16 (Sc.i .u8)) (val n bs).toList:=by
 refine⟨by simp[val,hb],λj k v h1 h2=>?_⟩
 cases j with
 |zero=>simp[val] at h1 h2; subst h1 h2; exact⟨n,rfl,hn⟩
 |succ j =>
  simp only[mN,mO] at h1
  split at h1
  .simp only[Option.some.injEq] at h1
   subst h1
   simp only[val,mN,lS,mP] at h2
   obtain⟨z,hz,rfl⟩:=h2
   exact⟨z,rfl,hw z (mQ hz)⟩
  .simp at h1
theorem OI (cs:List Int):∀bs:List Int,cs.map (Value.int .u8)=bs.map (Value.int .u8)->cs=bs:=by
 induction cs with
 |nil=>intro bs h; cases bs with
  |nil=>rfl
  |cons b bs=>simp at h
 |cons a cs ih=>intro bs h; cases bs with
  |nil=>simp at h
  |cons b bs =>
   simp only[ma,List.cons.injEq,Value.int.injEq,true_and] at h
   rw[h.1,ih bs h.2]
theorem ZH {n m:Int} {cs:List Int} (h:val n cs=val m bs):n=m/\cs=bs:=by
 unfold val at h
 have h:=congrArg Array.toList h
 simp only[List.cons.injEq,Value.int.injEq,true_and] at h
 exact⟨h.1,OI cs bs h.2⟩
set_option maxRecDepth 100000 in
/-- Two values,held against each other. -/
theorem eA (n m:Int) (cs bs:List Int) (hn:(Lit.int .i64 n).wf) (hm:(Lit.int .i64 m).wf) (ha:cs.length=16) (hb:bs.length=16) (wa:∀b∈cs,(Lit.int .u8 b).wf=true) (wb:∀b∈bs,(Lit.int .u8 b).wf=true) (W:World) :
 (Op.equalIn 10000 56 (.agg (val n cs)) (.agg (val m bs))).run Tryz.prog W=.ok (decide (n=m/\cs=bs)) W:=by
 obtain⟨r,h1,h2⟩:=Gj (P:=Tryz.prog) (w:=W) (n:=3) (t:=56) (by kernel_rfl) (by kernel_rfl) (by decide) (by kernel_rfl) (by kernel_rfl) (Mi n cs hn ha wa) (Mi m bs hm hb wb)
 rw[h1]
 congr 1
 rw[mR,h2]
 simp only[mS]
 exact⟨λh=>ZH h,λh=>by rw[h.1,h.2]⟩
theorem wf_u8 {z:Int} (h0:0<=z) (h1:z<256):(Lit.int .u8 z).wf=true:=by simp[Lit.wf,IntKind.min,IntKind.max,IntKind.signed,IntKind.bits]; omega
theorem OJ {k:Nat} (h:k<=16):(Lit.int .i64 (k:Int)).wf=true:=by simp[Lit.wf,IntKind.min,IntKind.max,IntKind.signed,IntKind.bits]; omega
theorem Q1 (n:Nat) (h:∀b∈zs,(Lit.int .u8 b).wf=true):∀b∈pad zs n,(Lit.int .u8 b).wf=true:=by
 intro b hb
 rcases mT.1 hb with hb|hb
 .exact h b hb
 .rw[(mU.1 hb).2]; decide
set_option maxHeartbeats 400000 in
theorem Uf (k:Nat) (bs:List Int) (w:World) (h:k<=16) (hb:bs.length=16) (wb:∀b∈bs,(Lit.int .u8 b).wf=true) :
 Calls Tryz.prog 316 #[.agg (val k bs)] w (Dh w (.bool (decide (pad (bs.take k) 16=bs)))):=by
 have v0:=SF k bs
 have h':(k:Int)<=16:=by omega
 have heq:=eA k k (pad (bs.take k) 16) bs (OJ h) (OJ h) (E3 _ _ (by simp; omega)) hb (Q1 16 (λb hb=>wb b (kZ hb))) wb
 simp only[true_and] at heq
 obtain⟨r,hr⟩:∃r,decide (pad (bs.take k) 16=bs)=r:=⟨_,rfl⟩
 rw[hr] at heq ⊢
 clear hr
 have hsz:=DX k bs hb
 go_enter Tryz.func316,Tryz.ntmps316
 go_wp2
 obtain⟨w1,hw1⟩:∃w1,w1=w.alloc (Obj.cells (val k bs) 56):=⟨_,rfl⟩
 have hg:=mc w (Obj.cells (val k bs) 56)
 have hlt:w.heap.size<w1.heap.size:=by rw[hw1]; simp
 rw[<-hw1] at hg ⊢
 have hc:w1.cell? ⟨w.heap.size,0,none⟩=some (.int .i64 k):=by rw[cell_of_row w1 _ 0 _ _ _ hg]; exact v0
 have HB1:Hid (Below w.heap.size w w1):=mh (by rw[hw1]; exact (mr _ _).alloc (lJ _) _)
 clear hw1
 go_region_held3 (λW=>W.cell? ⟨w.heap.size,0,none⟩=some (.int .i64 k)/\W.heap[w.heap.size]?=some (.cells (val k bs) 56 (0,0))/\Below w1.heap.size w1 W) (first|exact⟨hc2,hg2,hb2⟩|exact⟨hc,hg,(mr _ _).drew⟩)
  (first|(go_at_call 187; refine (ZG (W:=w1.drew) (g:=w.heap.size) (t:=56) (n:=k) (bs:=bs) k _ h hb hlt hg).mono ?_; rintro e w2 ⟨rfl,hb1⟩; have hb2:Below w1.heap.size w1 w2:=(mr _ _).drew.trans hb1; have hg2:=(hb2.block w.heap.size hlt).trans hg; have hc2:=(hb2.cell (p:=⟨w.heap.size,0,none⟩) hlt).trans hc))
 go_wp2
 go_ret
 exact⟨rfl,HB1.out.trans (hb2.mono HB1.out.size)⟩
open Go.RowKit Go.ChangeShapes Go.ChangeAt Go.WideShapes
def C2 (n:Int) (bs:List Int):Bool:=decide (0<=n/\n<=16/\pad (bs.take n.toNat) 16=bs)
theorem Ug (n:Int) (bs:List Int) (w:World) (hb:bs.length=16) (wb:∀b∈bs,(Lit.int .u8 b).wf=true) :
 Calls Tryz.prog 316 #[.agg (val n bs)] w (Dh w (.bool (C2 n bs))):=by
 by_cases h0:n<0
 .rw[show C2 n bs=false from by simp[C2]; omega]
  exact VY n bs w h0
 .by_cases h1:16<n
  .rw[show C2 n bs=false from by simp[C2]; omega]
   exact VZ n bs w (by omega) h1
  .obtain⟨k,rfl⟩:=kT (show 0<=n by omega)
   rw[show C2 k bs=decide (pad (bs.take k) 16=bs) from by
    unfold C2
    rw[mR]
    simp only[mS,mV]
    exact⟨λh=>h.2.2,λh=>⟨by omega,by omega,h⟩⟩]
   exact Uf k bs w (by omega) hb wb
set_option maxHeartbeats 400000 in
theorem Q2 (n:Int) (bs:List Int) (w:World) (hb:bs.length=16) (wb:∀b∈bs,(Lit.int .u8 b).wf=true) :
 Calls Tryz.prog 277 #[.agg (val n bs)] w (Dh w (.int .u64 (num (bs.take 8)))):=by
 have hg:=mc w (Obj.cells (val n bs) 56)
 have hr:=Rd.val_take 16 hg
 rw[lI (by omega)] at hr
 have HN:=ZB (w.heap.size+1) _ 16 bs 0 8 _ hr (λz h=>by have:=bounds_u8 (wb z h); omega) (by omega) (by decide) (by decide) (by omega)
 rw[lE,hb] at HN
 have H:=mh HN
 clear HN hg hr
 go_enter Tryz.func277,Tryz.ntmps277
 go_wp2_with (go_at_call 300; refine H.out.mono ?_; rintro e w1 ⟨rfl,rfl⟩)
 go_ret
 exact⟨rfl,(mr _ _).alloc (lJ _) _⟩
def DY (n:Int):List Int:=pad (le n 8) 16
theorem Ev (n:Int):(DY n).length=16:=E3 _ _ (by rw[B1]; decide)
set_option maxHeartbeats 400000 in
theorem V0 (n:Int) (w:World) (h0:0<=n) :
 Calls Tryz.prog 276 #[.int .u64 n] w (Dh w (.agg (val 8 (DY n)))):=by
 have HP:=λW=>ZC 0 none 0 [] n 8 W Rd.nil (by decide) (by decide) (by decide) h0
 have H:=mh HP
 have hsz:=mh (DX 8 (DY n) (Ev n))
 clear HP
 go_enter Tryz.func276,Tryz.ntmps276
 go_wp2_with fail
 refine (H.out _).mono ?_
 rintro e w1 ⟨v,rfl,own,hb1⟩
 rw[mw,show ([]:List Int).length+8=(le n 8).length from by rw[B1]; rfl] at own
 obtain⟨A1,c1,rfl,_,_,rd,_⟩:=Rd.of_own own
 have HO:=Q0 _ A1 c1 (le n 8) w1 rd (lJ _) (by rw[B1]; decide)
 have HZ:=mh ((hb1.block w.heap.size (by simp)).trans (mc w _))
 have HB:=mh (((mr w.heap.size w).alloc (lJ _) _).trans (hb1.mono (by simp)))
 have hlt:w.heap.size<w1.heap.size:=by have:=hb1.size; simp at this; omega
 clear own rd hb1
 rw[B1] at HO
 have HO:Hid (Calls Tryz.prog 187 #[.slice A1 8 c1] w1 (Dh w1 (.agg (val 8 (DY n))))):=mh HO
 go_wp2_with fail
 rw[B1]
 refine HO.out.mono ?_
 rintro e w2 ⟨rfl,hb2⟩
 have hz:=(hb2.block w.heap.size hlt).trans HZ.out
 have HB2:=mh (HB.out.trans (hb2.mono HB.out.size))
 clear hb2
 have HZ2:=mh hz
 clear hz
 go_wp2_with (refine mF rfl 56 (.tmp 2) (.tmp 5) rfl w.heap.size _ rfl rfl 56 _ HZ2.out (by rw[hsz.out]; exact Dg) (by rw[hsz.out]; rfl) (GM (GL _ _)) ?_)
 refine mH (mI rfl _ _ w.heap.size 56 _ (0,0) _ rfl (mJ _ _ _ _ _ _ HZ2.out) Tryz.underlying56 rfl (by rw[hsz.out]; exact Dg)) rfl ⟨rfl,?_⟩
 exact mK HB2.out (lJ _) _
set_option maxHeartbeats 400000 in
theorem V1 (n:Int) (bs:List Int) (k:Int) (w:World) (hb:bs.length=16) (wb:∀b∈bs,(Lit.int .u8 b).wf=true) :
 Calls Tryz.prog 223 #[.agg (val n bs),.int .u64 k] w (Dh w (.agg (val 8 (DY (IntKind.u64.wrap (num (bs.take 8)+k)))))):=by
 have HN:=mh (λW=>Q2 n bs W hb wb)
 obtain⟨m,hm⟩:∃m,IntKind.u64.wrap (num (bs.take 8)+k)=m:=⟨_,rfl⟩
 have hm0:0<=m:=by rw[<-hm,kS]; omega
 have HF:=mh (λW=>V0 m W hm0)
 have hsz:=mh (DX n bs hb)
 have hsz2:=mh (DX 8 (DY m) (Ev m))
 rw[hm]
 have HM:=mh hm
 have HG:=mh (λo=>(mG w (Obj.cells (val n bs) 56) o))
 clear wb hb hm
 go_enter Tryz.func223,Tryz.ntmps223
 go_wp2_with (refine wpList_load_row rfl 56 (.tmp 2) rfl w.heap.size rfl 56 _ (0,0) _ (HG.out _) Tryz.underlying56 rfl (by rw[hsz.out]; exact Dg) ?_)
 refine (HN.out _).mono ?_
 rintro e w1 ⟨rfl,hb1⟩
 have hlt:w.heap.size+1<w1.heap.size:=by have:=hb1.size; rw[mW,mW] at this; omega
 have HZ:=mh ((hb1.block (w.heap.size+1) (by simp)).trans (heap_alloc2_new w _ _))
 have HB:=mh ((((mr w.heap.size w).alloc (lJ _) _).alloc (by simp) _).trans (hb1.mono (by simp; omega)))
 have hm:=HM.out
 clear hb1
 go_wp2_with fail
 refine (HF.out _).mono ?_
 rintro e w2 ⟨rfl,hb2⟩
 have HZ2:=mh ((hb2.block (w.heap.size+1) hlt).trans HZ.out)
 have HB2:=mh (HB.out.trans (hb2.mono HB.out.size))
 clear hb2 hm
 go_wp2_with (refine mF rfl 56 (.tmp 4) (.tmp 9) rfl (w.heap.size+1) _ rfl rfl 56 _ HZ2.out (by rw[hsz2.out]; exact Dg) (by rw[hsz2.out]; rfl) (GM (GL _ _)) ?_)
 refine mH (mI rfl _ _ (w.heap.size+1) 56 _ (0,0) _ rfl (mJ _ _ _ _ _ _ HZ2.out) Tryz.underlying56 rfl (by rw[hsz2.out]; exact Dg)) rfl ⟨rfl,?_⟩
 exact mK HB2.out (by omega) _
def byt (s:ByteArray):List Int:=s.data.toList.map λb=>(b.toNat:Int)
theorem FX (s:ByteArray):(byt s).length=s.size:=by unfold byt; rw[mB,mX]; rfl
theorem V2 (s:ByteArray):∀b∈byt s,0<=b/\b<256:=by
 intro b hb
 obtain⟨c,_,rfl⟩:=lP.1 hb
 have:=c.toNat_lt
 omega
theorem eB (s:ByteArray):∀b∈byt s,(Lit.int .u8 b).wf=true:=λb hb=>wf_u8 (V2 s b hb).1 (V2 s b hb).2
theorem Rd.bytes (w:World) (s:ByteArray) (cap:Nat) (fr:Nat×Nat):Rd (w.alloc (.cells (bytesRow s cap) 5 fr)) (w.heap.size+1) (some ⟨w.heap.size,0,none⟩) ((byt s).map (.int .u8)):=by
 intro _
 refine⟨w.heap.size,0,rfl,by omega,λj u hj=>?_⟩
 rw[World.cell?_alloc_mark,me]
 simp only[byt,mY,lS,mP,Function.comp] at hj
 obtain⟨b,hb,rfl⟩:=hj
 have hlt:j<s.data.size:=by have:=(lR.1 hb).1; simpa using this
 rw[bytesRow_at s cap j hlt]
 have:s.data[j]=b:=by
  have:=hb
  rw[kY (by simpa using hlt)] at this
  simpa using this
 rw[this]
theorem Ge {P:Program} {fn:Func} {p u:Tmp} {ty:TypeId} (h:fn.results=#[.cell p ty,.tmp u]) (tmps:Array Value) (w:World) (g:Nat) (t:TypeId) (cs:Array Value) (fr:Nat×Nat) (d:TypeDesc)
 (hp:tmps.getD p undef=.pointer (some ⟨g,0,none⟩)) (hg:w.heap[g]?=some (.cells cs t fr))
 (hu:P.underlying ty=some d) (hd:(match d with|.struct _|.array _ _=>true|_=>false)=true) (hi:(P.info? ty).map (·.size)=some cs.size) :
 (results fn tmps).run P w=.ok (.tuple #[.agg cs,tmps.getD u undef]) w:=by
 have hp':tmps[p]?.getD undef=.pointer (some ⟨g,0,none⟩):=by simpa using hp
 simp[results,h,hp',asAddr,run_loadVar_row w g t ty cs fr d hg hu hd hi]
def val0:List Int:=List.replicate 16 0
set_option maxHeartbeats 400000 in
theorem ZI (s:ByteArray) (w:World) (h:16<s.size) :
 Calls Tryz.prog 126 #[.string s] w (Dh w (.tuple #[.agg (val 0 val0),.int .i64 2])):=by
 have h':(16:Int)<(s.size:Int):=by omega
 clear h
 go_enter Tryz.func126,Tryz.ntmps126
 go_wp2
 refine mH (Ge rfl _ _ w.heap.size 56 (val 0 val0) (0,0) _ rfl (mc w _) Tryz.underlying56 rfl (by kernel_rfl)) rfl ⟨rfl,?_⟩
 exact (mr _ _).alloc (lJ _) _
set_option maxHeartbeats 400000 in
theorem eD (s:ByteArray) (w:World) (h:s.size<=16) :
 Calls Tryz.prog 126 #[.string s] w (Dh w (.tuple #[.agg (val s.size (pad (byt s) 16)),.int .i64 0])):=by
 have h':(s.size:Int)<=16:=by omega
 have hc:=λW=>run_bytes_of_string (P:=Tryz.prog) W 9 23 5 s Tryz.underlying9 Tryz.underlying23 Tryz.underlying5
 have hsz:=mh (DX s.size (pad (byt s) 16) (E3 _ _ (by rw[FX]; exact h)))
 have ho:∀(W:World) (g c:Nat) (fr:Nat×Nat),g=W.heap.size->Calls Tryz.prog 187 #[.slice (some ⟨g,0,none⟩) s.size c] (World.drew (W.alloc (.cells (bytesRow s c) 5 fr))) (Dh (World.drew (W.alloc (.cells (bytesRow s c) 5 fr))) (.agg (val s.size (pad (byt s) 16))))  :=λW g c fr hg=>by
  subst hg
  have hr:Rd (World.drew (W.alloc (.cells (bytesRow s c) 5 fr))) (W.heap.size+1) (some ⟨W.heap.size,0,none⟩) ((byt s).map (.int .u8)):=(Rd.bytes W s c fr).keep (λp _=>rfl)
  have:=Q0 (W.heap.size+1) (some ⟨W.heap.size,0,none⟩) c (byt s) _ hr (by simp) (by rw[FX]; exact h)
  rw[FX] at this
  exact this
 have HO:=mh ho
 clear ho
 go_enter Tryz.func126,Tryz.ntmps126
 have HA:=mh (mc w)
 go_wp2_with fail
 refine (HO.out (w.alloc _) (w.heap.size+1) _ _ (by simp)).mono ?_
 rintro e w1 ⟨rfl,hb1⟩
 have HZ:=mh ((hb1.block w.heap.size (by simp; omega)).trans ((Below.heap_alloc _ _ _ (by simp)).trans (HA.out _)))
 have HB:=mh ((((mr w.heap.size w).alloc (lJ _) _).alloc (by simp) _).drew.trans (hb1.mono (by simp; omega)))
 clear hb1 hc
 go_wp2_with (refine mF rfl 56 (.tmp 2) (.tmp 10) rfl w.heap.size _ rfl rfl 56 _ HZ.out (by rw[hsz.out]; exact Dg) (by rw[hsz.out]; rfl) (GM (GL _ _)) ?_)
 refine mH (Ge rfl _ _ w.heap.size 56 _ (0,0) _ rfl (mJ _ _ _ _ _ _ HZ.out) Tryz.underlying56 rfl (by rw[hsz.out]; exact Dg)) rfl ⟨rfl,?_⟩
 exact mK HB.out (lJ _) _
theorem ZJ (bs:List Int) (k:Nat) (hb:bs.length=16) (hk:k<=16):pad (bs.take k) 16=bs↔∀i,k<=i->i<16->bs[i]?.getD 0=0:=by
 have hl:(bs.take k).length=k:=by rw[k9]; omega
 unfold pad
 rw[hl]
 constructor
 .intro h i h1 h2
  rw[<-h,lx (by omega),hl,mO]
  split<;>rfl
 .intro h
  apply lY
  intro i
  by_cases hi:i<k
  .rw[lq (by omega),lr,lu hi]
  .rw[lx (by omega),hl,mO]
   by_cases h16:i<16
   .rw[lu (by omega)]
    have:=h i (by omega) h16
    rw[kY (by omega)] at this ⊢
    simpa using this.symm
   .rw[lz (by omega),k8 (by omega)]
theorem Kc (k:Nat) (bs:List Int) (hk:k<=16):C2 k bs=decide (pad (bs.take k) 16=bs):=by
 unfold C2
 rw[mR]
 simp only[mS,mV]
 exact⟨λh=>h.2.2,λh=>⟨by omega,by omega,h⟩⟩
theorem V3 (n:Int) (bs:List Int) (j:Nat) (hj:j<bs.length):(val n bs)[1+j]?=some (.int .u8 (bs[j]?.getD 0)):=by
 simp only[val,mL,mM 1 j,mN,lS,kY hj]
 rfl
theorem ZK (n:Int) (bs:List Int) (j:Nat) (b:Int):(val n bs).setIfInBounds (1+j) (.int .u8 b)=val n (bs.set j b):=by
 simp[val,mM 1 j,m4]
set_option maxHeartbeats 400000 in
theorem Q3 (n:Int) (bs:List Int) (w:World) (hb:bs.length=16) :
 Calls Tryz.prog 61 #[.agg (val n bs)] w (Dh w (.bool (C2 n bs))):=by
 have v0:=SF n bs
 by_cases h0:n<0
 .rw[show C2 n bs=false from by simp[C2]; omega]
  go_enter Tryz.func61,Tryz.ntmps61
  go_wp2
  go_ret
  exact⟨rfl,(mr _ _).alloc (lJ _) _⟩
 .have h0':0<=n:=by omega
  by_cases h1:16<n
  .rw[show C2 n bs=false from by simp[C2]; omega]
   clear h0
   go_enter Tryz.func61,Tryz.ntmps61
   go_wp2
   go_ret
   exact⟨rfl,(mr _ _).alloc (lJ _) _⟩
  .obtain⟨k,rfl⟩:=kT h0'
   have hk:(k:Int)<=16:=by omega
   have HV:=mh (Kc k bs (by omega))
   have HI:=mh (ZJ bs k hb (by omega))
   have HA:=mh (V3 (k:Int) bs)
   clear h0 h1 h0'
   go_enter Tryz.func61,Tryz.ntmps61
   go_wp2
   go_loop [3] (λi=>∃j:Nat,k<=j/\j<=16/\i=.int .i64 j/\∀i,k<=i->i<j->bs[i]?.getD 0=0) (λi=>16-(intOf i).toNat)
   case atStart=>exact⟨k,lJ _,by omega,rfl,λi h1 h2=>absurd h2 (by omega)⟩
   case round =>
    obtain⟨j,hj1,hj2,rfl,hz⟩:=hrel
    have HZ:=mh hz
    clear hz
    by_cases hlt:j<16
    .have hcell:=HA.out j (by omega)
     obtain⟨z,hzz⟩:∃z,bs[j]?.getD 0=z:=⟨_,rfl⟩
     rw[hzz] at hcell
     have HN:=mh hzz
     clear hzz
     by_cases hne:z=0
     .subst hne
      go_wp2
      go_round
      case rel=>exact⟨j+1,by omega,by omega,by go_num,λi h1 h2=>by
       rcases k6 i j with h|h
       .exact HZ.out i h1 h
       .rw[show i=j from by omega]; exact HN.out⟩
      case measure=>simp[intOf]; omega
     .have hb1:(z != 0)=true:=by simpa using hne
      have HNE:=mh hne
      clear hne
      go_wp2
      go_ret
      exact⟨OF (by rw[HV.out]; symm; rw[m5,HI.out]; exact λh=>HNE.out (HN.out.symm.trans (h j (by omega) hlt))),(mr _ _).alloc (lJ _) _⟩
    .go_wp2
     go_ret
     exact⟨OF (by rw[HV.out]; symm; rw[decide_eq_true_iff,HI.out]; exact λi h1 h2=>HZ.out i h1 (by omega)),(mr _ _).alloc (lJ _) _⟩
set_option maxHeartbeats 400000 in
theorem OK (n:Int) (bs:List Int) (w:World) (hb:bs.length=16) (wb:∀b∈bs,(Lit.int .u8 b).wf=true) :
 Calls Tryz.prog 227 #[.agg (val n bs)] w (Dh w (.int .u64 (num (bs.take 8)))):=by
 have hg:=mc w (Obj.cells (val n bs) 56)
 have hr:=Rd.val_take 8 hg
 have HN:=VW (w.heap.size+1) _ 16 (bs.take 8) 0 8 _ hr (λz h=>by have:=bounds_u8 (wb z (kZ h)); omega) (by simp; omega) (by decide) (by decide) (by simp; omega)
 rw[lE,show (bs.take 8).length=8 from by rw[k9]; omega,List.take_take] at HN
 have H:=mh HN
 clear HN hg hr
 go_enter Tryz.func227,Tryz.ntmps227
 go_wp2_with (go_at_call 280; refine H.out.mono ?_; rintro e w1 ⟨rfl,rfl⟩)
 go_ret
 exact⟨rfl,(mr _ _).alloc (lJ _) _⟩
def pre (zs:List Int) (j:Nat):List Int:=zs.take j++List.replicate (16-j) 0
theorem Q4 (zs:List Int) (j:Nat) (h:j<=zs.length) (h2:zs.length<=16):(pre zs j).length=16:=by simp[pre]; omega
theorem V4 (zs:List Int):pre zs 0=val0:=by simp[pre,val0]
theorem ZL (zs:List Int):pre zs zs.length=pad zs 16:=by simp[pre,pad]
theorem ZM (zs:List Int) (j:Nat) (h:j<zs.length) (h2:zs.length<=16):(pre zs j).set j zs[j]=pre zs (j+1):=by
 unfold pre
 rw[m6 _ _ (by simp; omega),k9,show j-min j zs.length=0 from by omega,m7 h,
  show 16-j=(16-(j+1))+1 from by omega,lC,m8,mj]
 rfl
theorem V5 {n:Int} (h:W.heap[g]?=some (.cells (val n bs) t (0,0))) (j:Nat) (hj:j<bs.length):W.cell? ⟨g,1+j,none⟩=some (.int .u8 (bs[j]?.getD 0)):=by
 rw[cell_of_row W g _ _ _ _ h]; exact V3 n bs j hj
set_option maxHeartbeats 1000000 in
theorem Mj (n:Int) (w:World) (h0:0<=n) (h1:n<18446744073709551616) :
 Calls Tryz.prog 163 #[.int .u64 n] w (Dh w (.agg (val 8 (DY n)))):=by
 have HP:=mh (λW=>VX 0 none 0 [] n 8 W Rd.nil (lK _) (by decide) (by decide) (by decide) h0 h1)
 have hsz:=mh (DX 8 (DY n) (Ev n))
 clear h1
 go_enter Tryz.func163,Tryz.ntmps163
 go_wp2_with fail
 refine (HP.out _).mono ?_
 rintro e w1 ⟨v,rfl,own,hb1⟩
 rw[mw,show ([]:List Int).length+8=(le n 8).length from by rw[B1]; rfl] at own
 have hle:(le n 8).length=8:=B1 8 n
 obtain⟨A1,c1,rfl,_,_,rd,hA⟩:=Rd.of_own own
 obtain⟨b,off,rfl,hbl,hcb⟩:=rd (by rw[Ne,List.map_eq_nil_iff]; intro e; rw[e] at hle; simp at hle)
 have hbge:w.heap.size+2<=b:=by have:=hA b rfl; simp at this; omega
 have HZ:Hid (w1.heap[w.heap.size]?=some (.cells (val 0 val0) 56 (0,0))):=mh ((hb1.block w.heap.size (by simp; omega)).trans (mG w _ _))
 have HG:Hid (w1.heap[w.heap.size+1]?=some (.cells (val 8 (pre (le n 8) 0)) 56 (0,0))):=by rw[V4]; exact mh ((hb1.block (w.heap.size+1) (by simp)).trans (heap_alloc2_new w _ _))
 have HB:=mh ((((mr w.heap.size w).alloc (lJ _) _).alloc (by simp) _).trans (hb1.mono (by simp; omega)))
 have HC:=mh hcb
 have HL:=mh hle
 rw[hle]
 clear own rd hb1 hA hcb hle
 go_wp2_with fail
 go_loopw [5] (λi wr=>∃j:Nat,j<=8/\i=.int .i64 j/\Hid (wr.heap[w.heap.size]?=some (.cells (val 0 val0) 56 (0,0)))/\Hid (wr.heap[w.heap.size+1]?=some (.cells (val 8 (pre (le n 8) j)) 56 (0,0)))/\Hid (Below w.heap.size w wr)/\Hid (∀p:Addr,w.heap.size+2<=p.block->wr.cell? p=w1.cell? p)) (λi _=>8-(intOf i).toNat)
 case atStart=>exact⟨0,by omega,rfl,HZ,HG,HB,λp _=>rfl⟩
 case round =>
  obtain⟨j,hj,rfl,hz,hg,hb,hk⟩:=hrel
  by_cases hlt:j<8
  .have hjl:j<(le n 8).length:=by rw[HL.out]; exact hlt
   have hcell:wr.cell? ⟨b,off+j,none⟩=some (.int .u8 (le n 8)[j]):=(hk.out ⟨b,off+j,none⟩ hbge).trans (HC.out j _ (by rw[lS,kY hjl]; rfl))
   have HS:=mh (ZM (le n 8) j hjl (by rw[HL.out]; decide))
   have I8:=mh (heap_setCell_same wr (w.heap.size+1) (1+j) _ 56 (.int .u8 (le n 8)[j]) hg.out)
   rw[ZK,HS.out] at I8
   obtain⟨z,hz'⟩:∃z,(le n 8)[j]=z:=⟨_,rfl⟩
   rw[hz'] at hcell I8
   clear hz'
   have hcg:=V5 hg.out j (by rw[Q4 _ _ (by rw[HL.out]; omega) (by rw[HL.out]; decide)]; omega)
   have hfg:=frozen_of_row wr (w.heap.size+1) (1+j) _ 56 hg.out
   go_wp2
   go_roundw
   case rel=>exact⟨j+1,by omega,by go_num,mh ((heap_setCell_other wr _ _ _ (by simp)).trans hz.out),I8,mh (hb.out.setCell (p:=⟨w.heap.size+1,1+j,none⟩) (by simp) _),mh (λp hp=>(World.cell?_setCell_other _ _ _ _ (by intro e; subst e; simp at hp)).trans (hk.out p hp))⟩
   case measure=>simp[intOf]; omega
  .have:j=8:=by omega
   subst this
   rw[show pre (le n 8) 8=DY n from by have:=ZL (le n 8); rw[HL.out] at this; exact this] at hg
   go_wp2_with (first
    |(refine wpList_load_row rfl 56 (.tmp 3) rfl (w.heap.size+1) rfl 56 _ (0,0) _ hg.out Tryz.underlying56 rfl (by rw[hsz.out]; exact Dg) ?_)
    |(refine mF rfl 56 (.tmp 2) (.tmp 20) rfl w.heap.size _ rfl rfl 56 _ hz.out (by rw[hsz.out]; exact Dg) (by rw[hsz.out]; rfl) (GM (GL _ _)) ?_))
   refine mH (mI rfl _ _ w.heap.size 56 _ (0,0) _ rfl (mJ _ _ _ _ _ _ hz.out) Tryz.underlying56 rfl (by rw[hsz.out]; exact Dg)) rfl ⟨rfl,?_⟩
   exact mK hb.out (lJ _) _
set_option maxHeartbeats 400000 in
theorem Uh (n:Int) (bs:List Int) (k:Int) (w:World) (hb:bs.length=16) (wb:∀b∈bs,(Lit.int .u8 b).wf=true) :
 Calls Tryz.prog 164 #[.agg (val n bs),.int .u64 k] w (Dh w (.agg (val 8 (DY (IntKind.u64.wrap (num (bs.take 8)+k)))))):=by
 have HN:=mh (λW=>OK n bs W hb wb)
 obtain⟨m,hm⟩:∃m,IntKind.u64.wrap (num (bs.take 8)+k)=m:=⟨_,rfl⟩
 have hm0:0<=m:=by rw[<-hm,kS]; omega
 have hm1:m<18446744073709551616:=by rw[<-hm,kS]; omega
 have HF:=mh (λW=>Mj m W hm0 hm1)
 have hsz:=mh (DX n bs hb)
 have hsz2:=mh (DX 8 (DY m) (Ev m))
 rw[hm]
 have HM:=mh hm
 have HG:=mh (λo=>(mG w (Obj.cells (val n bs) 56) o))
 clear wb hb hm hm1
 go_enter Tryz.func164,Tryz.ntmps164
 go_wp2_with (refine wpList_load_row rfl 56 (.tmp 2) rfl w.heap.size rfl 56 _ (0,0) _ (HG.out _) Tryz.underlying56 rfl (by rw[hsz.out]; exact Dg) ?_)
 refine (HN.out _).mono ?_
 rintro e w1 ⟨rfl,hb1⟩
 have hlt:w.heap.size+1<w1.heap.size:=by have:=hb1.size; rw[mW,mW] at this; omega
 have HZ:=mh ((hb1.block (w.heap.size+1) (by simp)).trans (heap_alloc2_new w _ _))
 have HB:=mh ((((mr w.heap.size w).alloc (lJ _) _).alloc (by simp) _).trans (hb1.mono (by simp; omega)))
 have hm:=HM.out
 clear hb1
 go_wp2_with fail
 refine (HF.out _).mono ?_
 rintro e w2 ⟨rfl,hb2⟩
 have HZ2:=mh ((hb2.block (w.heap.size+1) hlt).trans HZ.out)
 have HB2:=mh (HB.out.trans (hb2.mono HB.out.size))
 clear hb2 hm
 go_wp2_with (refine mF rfl 56 (.tmp 4) (.tmp 9) rfl (w.heap.size+1) _ rfl rfl 56 _ HZ2.out (by rw[hsz2.out]; exact Dg) (by rw[hsz2.out]; rfl) (GM (GL _ _)) ?_)
 refine mH (mI rfl _ _ (w.heap.size+1) 56 _ (0,0) _ rfl (mJ _ _ _ _ _ _ HZ2.out) Tryz.underlying56 rfl (by rw[hsz2.out]; exact Dg)) rfl ⟨rfl,?_⟩
 exact mK HB2.out (by omega) _
end Go.Proofs.YtloldofjddbjoaaGreat
namespace Go.Sep
abbrev Env:=List (Nat×Value)
def look:Env->Nat->Option Value
 |[],_=>none
 |(i,v)::L,k=>bif i.beq k then some v else look L k
structure Know (n:Nat) (L:Env) (a:Act):Prop where
 size:a.tmps.size=n
 defers:a.defers=[]
 get:∀i v,look L i=some v->a.tmps[i]?=some v
theorem Know.put {n:Nat} {L:Env} {a:Act} (h:Know n L a) {d:Nat} (v:Value) (hd:d.blt n):Know n ((d,v)::L) (a.put (some d) v):=by
 have hd':d<n:=by simpa [Nat.blt_eq] using hd
 refine⟨by simp[Act.put,h.size],h.defers,λi u hu=>?_⟩
 simp only[look] at hu
 by_cases hi:d=i
 .subst hi
  simp at hu
  subst hu
  simp[Act.put,h.size,hd']
 .have:d.beq i=false:=by rw[m9]; intro h'; exact hi (Nat.eq_of_beq_eq_true h')
  rw[this] at hu
  simp at hu
  simp[Act.put,Array.getElem?_setIfInBounds_ne hi]
  simpa using h.get i u hu
def Sub (L' L:Env):Prop:=∀i v,look L' i=some v->look L i=some v
theorem Sub.nil {L:Env}:Sub [] L:=λ_ _ h=>by cases h
theorem Sub.cons {L' L:Env} {i:Nat} {v:Value} (h:look L i=some v) (t:Sub L' L):Sub ((i,v)::L') L:=λk u hu=>by
 simp only[look] at hu
 by_cases hi:i=k
 .subst hi; simp at hu; subst hu; exact h
 .have:i.beq k=false:=by rw[m9]; intro h'; exact hi (Nat.eq_of_beq_eq_true h')
  rw[this] at hu; exact t k u hu
theorem Sub.consE {L' L:Env} {i:Nat} {v u:Value} (h:look L i=some u) (e:u=v) (t:Sub L' L):Sub ((i,v)::L') L:=Sub.cons (e▸h) t
theorem Know.sub {n:Nat} {L L':Env} {a:Act} (h:Know n L a) (s:Sub L' L):Know n L' a:=⟨h.size,h.defers,λi v hv=>h.get i v (s i v hv)⟩
def ev (L:Env):Operand->Option Value
 |.tmp t=>look L t
 |.const v=>some v
 |.global g=>some (.pointer (some ⟨g,0,none⟩))
 |.func f=>some (.func (.func f) #[] #[])
theorem Know.eval {n:Nat} {L:Env} {a:Act} (h:Know n L a) {x:Operand} {v:Value} (hx:ev L x=some v):a.eval x=v:=by
 cases x with
 |tmp t=>have:=h.get t v hx; simp[Act.eval,nc,this]
 |const u=>simp[ev] at hx; subst hx; rfl
 |global g=>simp[ev] at hx; subst hx; rfl
 |func f=>simp[ev] at hx; subst hx; rfl
def Pre (n:Nat) (L:Env) (X:World->Prop) (F:Act->World->Prop):Prop:=∀a w,Know n L a->X w->F a w
section code
variable {P:Program} {n:Nat} {L:Env} {X:World->Prop} {Q:Exit->Act->World->Prop}
theorem Pre.sub {F:Act->World->Prop} (L':Env) (s:Sub L' L) (h:Pre n L' X F):Pre n L X F:=λa w k x=>h a w (k.sub s) x
theorem Pre.world {F:Act->World->Prop} (X':World->Prop) (s:∀w,X w->X' w) (h:Pre n L X' F):Pre n L X F:=λa w k x=>h a w k (s w x)
theorem Pre.fact {F:Act->World->Prop} {p:Prop} (s:∀w,X w->p) (h:p->Pre n L X F):Pre n L X F:=λa w k x=>h (s w x) a w k x
theorem Pre.factE {F:Act->World->Prop} {α:Type} {p:α->Prop} {X':α->World->Prop} (s:∀w,X w->∃b,p b/\X' b w) (h:∀b,p b->Pre n L (X' b) F):Pre n L X F:=λa w k x=>by
 obtain⟨b,hb,hx⟩:=s w x
 exact h b hb a w k hx
theorem Af {c d:Code} (h:Pre n L X (c.wp P (Exit.then (d.wp P Q) Q))):Pre n L X ((Code.seq c d).wp P Q):=λa w k x=>wp_seq (h a w k x)
theorem Ae (h:Pre n L X (Q .normal)):Pre n L X (Code.skip.wp P Q):=λa w k x=>wp_skip (h a w k x)
theorem Aj {id:Nat} {c:Code} (h:Pre n L X (c.wp P (Exit.inBlock id Q))):Pre n L X ((Code.block id c).wp P Q):=λa w k x=>wp_block (h a w k x)
theorem AO {id:Nat} (h:Pre n L X (Q (.exit id))):Pre n L X ((Code.exit id).wp P Q):=λa w k x=>wp_exit (h a w k x)
theorem Ag (h:Pre n L X (Q .ret)):Pre n L X (Code.ret.wp P Q):=λa w k x=>wp_ret (h a w k x)
theorem Ah {c:Operand} {x y:Code} (hc:ev L c=some (.bool true)) (ht:Pre n L X (x.wp P Q)):Pre n L X ((Code.cond c x y).wp P Q):=λa w k hx=>wp_cond_true (k.eval hc) (ht a w k hx)
theorem Aa {c:Operand} {x y:Code} (hc:ev L c=some (.bool false)) (ht:Pre n L X (y.wp P Q)):Pre n L X ((Code.cond c x y).wp P Q):=λa w k hx=>wp_cond_false (k.eval hc) (ht a w k hx)
theorem Kd {K:Act->World->Prop} (h:Pre n L X K):Pre n L X (Exit.then K Q .normal):=h
theorem Ab {K:Act->World->Prop} {id:Nat} (h:Pre n L X (Q (.exit id))):Pre n L X (Exit.then K Q (.exit id)):=h
theorem Ac {K:Act->World->Prop} (h:Pre n L X (Q .ret)):Pre n L X (Exit.then K Q .ret):=h
theorem Aw {id:Nat} (h:Pre n L X (Q .normal)):Pre n L X (Exit.inBlock id Q .normal):=h
theorem Am {id:Nat} (h:Pre n L X (Q .normal)):Pre n L X (Exit.inBlock id Q (.exit id)):=λa w k x=>by
 show (if id=id then Q .normal a w else Q (.exit id) a w)
 rw[lu rfl]; exact h a w k x
theorem AD {id id':Nat} (hne:Nat.beq id' id=false) (h:Pre n L X (Q (.exit id'))):Pre n L X (Exit.inBlock id Q (.exit id')):=λa w k x=>by
 show (if id'=id then Q .normal a w else Q (.exit id') a w)
 rw[lz (λe=>by subst e; simp at hne)]; exact h a w k x
theorem As {id:Nat} (h:Pre n L X (Q .ret)):Pre n L X (Exit.inBlock id Q .ret):=h
def Jq {α:Type} (n:Nat) (μ:α->Nat) (Lv:α->Env) (Xv:α->World->Prop) (p:α->Prop) (m:Nat):Act->World->Prop:=λa w=>∃b,μ b<m/\p b/\Know n (Lv b) a/\Xv b w
theorem IG {α:Type} {c:Code} (Lv:α->Env) (Xv:α->World->Prop) (p:α->Prop) (μ:α->Nat) (b0:α) (h0:p b0) (hL:Sub (Lv b0) L) (hX:∀w,X w->Xv b0 w)
 (round:∀b,p b->Pre n (Lv b) (Xv b) (c.wp P (Exit.then (Jq n μ Lv Xv p (μ b)) Q))):Pre n L X ((Code.loop c).wp P Q):=by
 intro a w k x
 have key:∀(m:Nat) (b:α),μ b=m->p b->∀a w,Know n (Lv b) a->Xv b w->∀(fr:Frame) (t:List Item) (cs:List Frame),
  ∃e a' w',Q e a' w'/\Arrives P (lone (fr.at a (.code c::.inLoop c::t)) cs w) fr t cs e a' w':=by
  intro m
  induction m using Nat.strongRecOn with
  |_ m ih =>
   intro b hm hp a w hk hx fr t cs
   obtain⟨e,a₁,w₁,hq,harr⟩:=round b hp a w hk hx fr (.inLoop c::t) cs
   cases e with
   |normal =>
    obtain⟨b',hlt,hp',hk',hx'⟩:=hq
    obtain⟨e₂,a₂,w₂,hq₂,harr₂⟩:=ih (μ b') (hm▸hlt) b' rfl hp' a₁ w₁ hk' hx' fr t cs
    exact⟨e₂,a₂,w₂,hq₂,.of_steps (Steps.trans harr (.one step_inLoop)) harr₂⟩
   |exit id=>exact⟨_,a₁,w₁,hq,.pass (x:=.inLoop c) rfl (λ_ _=>.inl (by simp)) harr⟩
   |goto l=>exact⟨_,a₁,w₁,hq,.pass (x:=.inLoop c) rfl (λ_ _=>.inl (by simp)) harr⟩
   |ret=>exact⟨_,a₁,w₁,hq,.pass (x:=.inLoop c) rfl (λ_ _=>.inl (by simp)) harr⟩
   |panic ch=>exact⟨_,a₁,w₁,hq,.pass (x:=.inLoop c) rfl (λ_ _=>.inl (by simp)) harr⟩
   |outgrown=>exact⟨_,a₁,w₁,hq,.pass (x:=.inLoop c) rfl (λ_ _=>.inl (by simp)) harr⟩
 intro fr t cs
 obtain⟨e,a',w',hq,harr⟩:=key (μ b0) b0 rfl h0 a w (k.sub hL) (hX w x) fr t cs
 exact⟨e,a',w',hq,.of_steps (.one step_loop) harr⟩
theorem AE {α:Type} {μ:α->Nat} {Lv:α->Env} {Xv:α->World->Prop} {p:α->Prop} {m:Nat} (b:α) (hm:μ b<m) (hp:p b) (hL:Sub (Lv b) L) (hX:∀w,X w->Xv b w):Pre n L X (Exit.then (Jq n μ Lv Xv p m) Q .normal) :=
 λa w k x=>⟨b,hm,hp,k.sub hL,hX w x⟩
def ZN {α:Type} (n:Nat) (Lv:α->Env) (Xv:α->World->Prop) (p:α->Prop):Act->World->Prop:=λa w=>∃b,p b/\Know n (Lv b) a/\Xv b w
theorem Bc {α:Type} {Lv:α->Env} {Xv:α->World->Prop} {p:α->Prop} (b:α) (hp:p b) (hL:Sub (Lv b) L) (hX:∀w,X w->Xv b w):Pre n L X (Exit.then (ZN n Lv Xv p) Q .normal) :=
 λa w k x=>⟨b,hp,k.sub hL,hX w x⟩
end code
def Hk:Nat->List Value->Env
 |_,[]=>[]
 |i,v::vs=>(i,v)::Hk (i+1) vs
theorem Hl:∀(vs:List Value) (i k:Nat) (v:Value),look (Hk i vs) k=some v->∃j,k=i+j/\vs[j]?=some v
 |[],_,_,_,h=>by cases h
 |u::vs,i,k,v,h=>by
  simp only[Hk,look] at h
  by_cases hi:i=k
  .subst hi; simp at h; subst h; exact⟨0,rfl,rfl⟩
  .have:i.beq k=false:=by rw[m9]; intro h'; exact hi (Nat.eq_of_beq_eq_true h')
   rw[this] at h
   obtain⟨j,e,hj⟩:=Hl vs (i+1) k v h
   exact⟨j+1,by omega,hj⟩
theorem enter {P:Program} {f n:Nat} {fn:Func} {c:Code} {vs:List Value} {w:World} {R:Ending->World->Prop} (X:World->Prop) (hf:P.funcs[f]?=some fn) (hb:fn.body=some c) (hnn:fn.ntmps=n) (hs:vs.length.ble n) (hX:X w)
 (h:Pre n (Hk 0 vs) X (c.wp P (bodyPost P fn R))):Calls P f vs.toArray w R:=by
 subst hnn
 refine calls_of_wp hf hb (h _ w ⟨?_,rfl,λi v hv=>?_⟩ hX)
 .have:=ng hs
  simp; omega
 .obtain⟨j,e,hj⟩:=Hl vs 0 i v hv
  have:i=j:=by omega
  subst this
  have hlt:i<vs.length:=(lR.1 hj).1
  simp[Array.getElem?_append,hlt]
  simpa [kY hlt] using hj
def Jr (L:Env):List ResultVar->Option (List Value)
 |[]=>some []
 |.tmp t::rs=>match look L t,Jr L rs with
  |some v,some vs=>some (v::vs)
  |_,_=>none
 |.cell _ _::_=>none
def Hn (tmps:Array Value):ResultVar->Sem Value
 |.tmp t=>pure (tmps.getD t undef)
 |.cell x t=>do loadVar t (<-asAddr (tmps.getD x undef))
theorem Ke {P:Program} {n:Nat} {L:Env} {a:Act} {w:World} (k:Know n L a):∀(rs:List ResultVar) (vs:List Value),Jr L rs=some vs ->
 (rs.mapM (Hn a.tmps)).run P w=.ok vs w
 |[],vs,h=>by cases h; rfl
 |.tmp t::rs,vs,h=>by
  simp only[Jr] at h
  cases ht:look L t with
  |none=>rw[ht] at h; cases h
  |some v =>
   cases hr:Jr L rs with
   |none=>rw[ht,hr] at h; cases h
   |some us =>
    rw[ht,hr] at h
    cases h
    have:=k.get t v ht
    simp[List.mapM_cons,Ke k rs us hr,Hn,nc,this]
 |.cell _ _::_,_,h=>by cases h
def dD:List Value->Value
 |[v]=>v
 |vs=>.tuple vs.toArray
theorem Fm {P:Program} {n:Nat} {L:Env} {a:Act} {w:World} (k:Know n L a) {fn:Func} {rs:List ResultVar} {vs:List Value} (hr:fn.results=rs.toArray) (h:Jr L rs=some vs) :
 (results fn a.tmps).run P w=.ok (dD vs) w:=by
 have:=Ke (P:=P) (w:=w) k rs vs h
 have e:(results fn a.tmps)=(do let vs<-fn.results.mapM (Hn a.tmps); pure (if h:vs.size=1 then vs[0] else .tuple vs)):=rfl
 rw[e,hr]
 simp only[List.mapM_toArray,l5,Sem.run_map,this,l7,l6]
 match vs with
 |[]=>rfl
 |[v]=>rfl
 |u::v::ws=>simp[dD]
section
variable {P:Program} {n:Nat} {L:Env} {X:World->Prop} {fn:Func} {R:Ending->World->Prop}
theorem Ao {t:Nat} {v:Value} (hr:fn.results=#[.tmp t]) (h:look L t=some v) (hR:∀w,X w->R (.returned v) w):Pre n L X (bodyPost P fn R .ret):=λa w k x =>
 ⟨k.defers,v,Fm (rs:=[.tmp t]) (vs:=[v]) k hr (by simp[Jr,h]),hR w x⟩
theorem Bg {rs:List ResultVar} {u v:Value} {vs:List Value} (hr:fn.results=rs.toArray) (h:Jr L rs=some (u::v::vs)) (hR:∀w,X w->R (.returned (.tuple (u::v::vs).toArray)) w):Pre n L X (bodyPost P fn R .ret):=λa w k x =>
 ⟨k.defers,_,Fm (rs:=rs) k hr h,hR w x⟩
theorem BB (hr:fn.results=#[]) (hR:∀w,X w->R (.returned (.tuple #[])) w):Pre n L X (bodyPost P fn R .ret):=λa w k x =>
 ⟨k.defers,_,Fm (rs:=[]) k hr rfl,hR w x⟩
theorem Bp (h:Pre n L X (bodyPost P fn R .ret)):Pre n L X (bodyPost P fn R .normal):=h
end
def B0 (ops:Array Oper) (L:Env) (o:Oper):Option Bool :=
 match o.guard with
 |none=>some true
 |some (j,want) =>
  match (ops[j]?).bind (·.dst) with
  |none=>none
  |some t=>match look L t with
   |some (.bool b)=>some (b == want)
   |some _=>some false
   |none=>none
theorem Ci {ops:Array Oper} {n:Nat} {L:Env} {a:Act} (k:Know n L a) {o:Oper} {b:Bool} (h:B0 ops L o=some b):Region.wanted o (yielded ops a.tmps)=b:=by
 unfold B0 at h
 unfold Region.wanted
 cases hg:o.guard with
 |none=>rw[hg] at h; simp at h; rw[<-h]
 |some jw =>
  obtain⟨j,want⟩:=jw
  rw[hg] at h
  simp only at h ⊢
  cases hd:(ops[j]?).bind (·.dst) with
  |none=>rw[hd] at h; cases h
  |some t =>
   rw[hd] at h
   simp only at h
   cases hl:look L t with
   |none=>rw[hl] at h; cases h
   |some v =>
    rw[hl] at h
    have:=k.get t _ hl
    unfold yielded
    cases v<;>simp only[Option.some.injEq] at h<;>rw[<-h]<;>simp[hd,this]
def wpL (P:Program) (ops:Array Oper) (Q:Exit->Act->World->Prop):List Oper->Act->World->Prop
 |[],a,w=>Q .normal a w
 |o::rest,a,w=>if Region.wanted o (yielded ops a.tmps) then o.wp P a w (wpL P ops Q rest) Q else wpL P ops Q rest (a.put o.dst undef) w
theorem II {P:Program} {ops:Array Oper} {Q:Exit->Act->World->Prop}:∀(rest:List Oper) (i:Nat),(∀j,ops[i+j]?=rest[j]?)->∀a w,wpL P ops Q rest a w->wpOps P ops Q (List.range' i rest.length) a w
 |[],i,h,a,w,hw=>hw
 |o::rest,i,h,a,w,hw=>by
  simp only[kQ,List.range'_succ]
  rw[wpOps_cons]
  have h0:ops[i]?=some o:=by simpa using h 0
  unfold wpOp
  simp only[h0]
  have hr:∀a w,wpL P ops Q rest a w->wpOps P ops Q (List.range' (i+1) rest.length) a w:=II rest (i+1) (λj=>by have:=h (j+1); simpa [mq,mM 1 j] using this)
  unfold wpL at hw
  split
  .rename_i hq; rw[lu hq] at hw; exact .inl (Oper.wp_mono hr hw)
  .rename_i hq; rw[lz hq] at hw; exact hr _ _ hw
section tail
variable {P:Program} {ops:Array Oper} {Q:Exit->Act->World->Prop} {md:Region.Mode} {S:World->Prop} {T:List Nat}
def DD (P:Program) (md:Region.Mode) (ops:Array Oper) (Q:Exit->Act->World->Prop) (S:World->Prop) (T:List Nat):Nat->Array Bool->Act->World->Prop
 |0,listed,a,w=>Region.ready md ops listed=[]/\Q .normal a w
 |fuel+1,listed,a,w =>
  (Region.ready md ops listed=[]->Q .normal a w) /\
  ∀i∈Region.ready md ops listed,wpOp P ops Q i (λa' w'=>(T.contains i=false->S w')/\DD P md ops Q S T fuel (listed.setIfInBounds i true) a' w') a w
theorem Ho:∀(fuel:Nat) (listed:Array Bool) (a:Act) (w:World),DD P md ops Q S T fuel listed a w->wpAny P md ops Q fuel listed a w
 |0,_,_,_,h=>h
 |fuel+1,_,_,_,h=>⟨h.1,λi hi=>wpOp_mono (λa' w' h'=>Ho fuel _ a' w' h'.2) (h.2 i hi)⟩
def Gk (md:Region.Mode) (ops:Array Oper) (i:Nat):Nat->Nat->Bool
 |0,_=>false
 |k+1,t=>((ops[t]?).getD default).after.toList.any (λe=>Region.binds md e&&(e.on == i||Gk md ops i k e.on))
def EF (md:Region.Mode) (ops:Array Oper) (listed:Array Bool):Prop:=∀j o,ops[j]?=some o->listed.getD j true=true->∀e∈o.after,Region.binds md e=true->listed.getD e.on false=true
theorem Js:EF md ops (Array.replicate ops.size false):=λj o ho hl=>by
 have hj:=(lH.1 ho).1
 simp[hj] at hl
theorem Cj {j:Nat} {listed:Array Bool} (h:EF md ops listed) (hr:j∈Region.ready md ops listed):EF md ops (listed.setIfInBounds j true):=by
 intro k o ho hl e he hb
 have mono:listed.getD e.on false=true->(listed.setIfInBounds j true).getD e.on false=true:=λh0=>by
  simp only[nc,ni] at h0 ⊢
  split
  .split<;>simp_all
  .exact h0
 by_cases hkj:k=j
 .subst hkj
  obtain⟨_,oj,hoj,hall⟩:=mem_ready.1 hr
  rw[ho] at hoj; cases hoj
  exact mono (hall e he hb)
 .rw[getD_set_ne true (nj hkj)] at hl
  exact mono (h k o ho hl e he hb)
theorem FY {i:Nat} {listed:Array Bool} (hc:EF md ops listed):∀(k t:Nat),Gk md ops i k t=true->(∀o,ops[t]?=some o->∀e∈o.after,Region.binds md e=true->listed.getD e.on false=true)->listed.getD i false=true
 |0,t,h,_=>by cases h
 |k+1,t,h,hd=>by
  unfold Gk at h
  obtain⟨e,he,h2⟩:=nk.1 h
  simp only[mz,Bool.or_eq_true,nm] at h2
  cases ho:ops[t]? with
  |none =>
   rw[ho] at he
   have h0:(default:Oper).after=#[]:=rfl
   rw[Option.getD_none,h0] at he
   cases he
  |some o =>
   rw[ho,lV] at he
   have he':=Array.mem_toList_iff.1 he
   have hl:=hd o ho e he' h2.1
   rcases h2.2 with rfl|h3
   .exact hl
   .refine FY hc k e.on h3 (λo' ho'=>hc e.on o' ho' ?_)
    simp only[nc] at hl ⊢
    cases hx:listed[e.on]? with
    |none=>rfl
    |some b=>rw[hx] at hl; simpa using hl
def Nn (md:Region.Mode) (ops:Array Oper) (T:List Nat):Bool:=T.all (λt=>(List.range ops.size).all (λi=>T.contains i||Gk md ops i 4 t))
theorem OL {listed:Array Bool} (h:Nn md ops T) (hc:EF md ops listed) {t i:Nat} (ht:T.contains t) (hi:T.contains i=false) (hlt:i<ops.size) (hr:t∈Region.ready md ops listed):listed.getD i false=true:=by
 have h1:=np.1 (np.1 h t (by simpa using ht)) i (lQ.2 hlt)
 rw[hi,Bool.false_or] at h1
 obtain⟨_,ot,hot,hall⟩:=mem_ready.1 hr
 exact FY hc 4 t h1 (λo ho=>by rw[hot] at ho; cases ho; exact hall)
theorem Np {i:Nat} {oi:Oper} {v:Value} (hi:ops[i]?=some oi) (hT:Nn md ops T) (hiT:T.contains i=false) (hsel:∀(j:Nat) (o:Oper) cs b,ops[j]?=some o->o.op≠.select cs b)
 (hQ:∀c a w,Q (.panic c) (a.put oi.dst v) w->Q (.panic c) a w) :
 ∀(fuel:Nat) (listed:Array Bool) (a:Act) (w:World),EF md ops listed ->
  (∀j oj,ops[j]?=some oj->j≠i->listed.getD j true=false->(∀e∈oj.after,Region.binds md e=true->e.on≠i)->oi.apart ops oj=true) ->
  i∈Region.ready md ops listed->YieldsIf P ops S oi v a->S w ->
  DD P md ops Q S T fuel (listed.setIfInBounds i true) (a.put oi.dst v) w->DD P md ops Q S T (fuel+1) listed a w:=by
 intro fuel
 induction fuel with
 |zero =>
  intro listed a w _ _ hr hy hS H
  refine⟨λh=>(by rw[h] at hr; cases hr),λj hj=>?_⟩
  by_cases hji:j=i
  .subst hji; exact hy.wpOp hi hS ⟨λ_=>hS,H⟩
  .have:=ready_mono hj hji
   rw[H.1] at this
   cases this
 |succ fuel ih =>
  intro listed a w hcl hfree hr hy hS H
  refine⟨λh=>(by rw[h] at hr; cases hr),λj hj=>?_⟩
  by_cases hji:j=i
  .subst hji; exact hy.wpOp hi hS ⟨λ_=>hS,H⟩
  .have h1:=H.2 j (ready_mono hj hji)
   obtain⟨hjun,oj,hoj,hall⟩:=mem_ready.1 hj
   have hnl:listed.getD i false≠true:=λh1=>by
    have h0:=(mem_ready.1 hr).1
    rcases k6 i listed.size with h'|h'
    .simp[h'] at h0 h1; rw[h0] at h1; cases h1
    .simp[mg h'] at h1
   have hnot:∀e∈oj.after,Region.binds md e=true->e.on≠i:=λe he hb heq=>hnl (heq▸hall e he hb)
   have hjT:T.contains j=false:=by
    cases hc:T.contains j with
    |false=>rfl
    |true=>exact absurd (OL hT hcl hc hiT (lH.1 hi).1 hj) hnl
   have h2:=wpOp_putIf hoj (hfree j oj hoj hji hjun hnot) (λcs b=>hsel i oi cs b hi) (λcs b=>hsel j oj cs b hoj) hQ hy h1
   have hfree':∀k ok,ops[k]?=some ok->k≠i->(listed.setIfInBounds j true).getD k true=false ->
    (∀e∈ok.after,Region.binds md e=true->e.on≠i)->oi.apart ops ok=true:=λk ok hk hki hun hno=>by
    refine hfree k ok hk hki ?_ hno
    by_cases hjk:j=k
    .subst hjk; exact hjun
    .rw[getD_set_ne true hjk] at hun; exact hun
   refine wpOp_mono (λa' w' h3=>⟨h3.2.1,ih (listed.setIfInBounds j true) a' w' (Cj hcl hj) hfree' (ready_mono hr (nj hji)) h3.1 (h3.2.1 hjT) ?_⟩) h2
   rw[Array.setIfInBounds_comm _ _ hji]
   exact h3.2.2
end tail
abbrev DE:=Option Bool
def wpD (P:Program) (ops:Array Oper) (Q:Exit->Act->World->Prop) (S:World->Prop):List (Oper×DE)->Act->World->Prop
 |[],a,w=>Q .normal a w
 |(o,some true)::rest,a,w=>∃v,YieldsIf P ops S o v a/\wpD P ops Q S rest (a.put o.dst v) w
 |(o,some false)::rest,a,w=>if Region.wanted o (yielded ops a.tmps) then o.wp P a w (λa' w'=>S w'/\wpD P ops Q S rest a' w') Q else wpD P ops Q S rest (a.put o.dst undef) w
 |(o,none)::rest,a,w=>if Region.wanted o (yielded ops a.tmps) then o.wp P a w (wpD P ops Q S rest) Q else wpD P ops Q S rest (a.put o.dst undef) w
def CL (ops:Array Oper) (T:List Nat):List (Nat×DE)->Array Bool->Bool
 |[],listed=>Region.ready .any ops listed == []
 |(i,some true)::rest,listed=>!T.contains i&&Region.free .any ops listed i&&(Region.ready .any ops listed).contains i&&CL ops T rest (listed.setIfInBounds i true)
 |(i,some false)::rest,listed=>Region.ready .any ops listed == [i]&&CL ops T rest (listed.setIfInBounds i true)
 |(i,none)::rest,listed=>T.contains i&&Region.ready .any ops listed == [i]&&rest.all (λx=>match x.2 with|none=>true|_=>false)&&CL ops T rest (listed.setIfInBounds i true)
def EK (Q:Exit->Act->World->Prop):Prop:=∀c a d v w,Q (.panic c) (a.put d v) w->Q (.panic c) a w
theorem Ck {K:Act->World->Prop} {Q:Exit->Act->World->Prop} (h:EK Q):EK (Exit.then K Q):=λc a d v w hq=>h c a d v w hq
theorem CZ {id:Nat} {Q:Exit->Act->World->Prop} (h:EK Q):EK (Exit.inBlock id Q):=λc a d v w hq=>h c a d v w hq
theorem DN {P:Program} {fn:Func} {R:Ending->World->Prop}:EK (bodyPost P fn R):=λc a d v w hq=>by
 obtain⟨h1,h2⟩:=hq
 exact⟨by cases d<;>exact h1,h2⟩
theorem V6 {P:Program} {ops:Array Oper} {Q:Exit->Act->World->Prop} {S:World->Prop} {T:List Nat} {i:Nat} {oi:Oper} {v:Value} {fuel:Nat} {listed:Array Bool} {a:Act} {w:World} (hcl:EF .any ops listed) (hi:ops[i]?=some oi) (hT:Nn .any ops T) (hiT:T.contains i=false)
 (hs:Region.noSelect ops) (hf:Region.free .any ops listed i) (hr:(Region.ready .any ops listed).contains i)
 (hQ:∀c a w,Q (.panic c) (a.put oi.dst v) w->Q (.panic c) a w) (hy:YieldsIf P ops S oi v a) (hS:S w)
 (h:DD P .any ops Q S T fuel (listed.setIfInBounds i true) (a.put oi.dst v) w):DD P .any ops Q S T (fuel+1) listed a w :=
 Np hi hT hiT (Region.noSelect_spec hs) hQ fuel listed a w hcl (Region.free_spec hi hf) (by simpa using hr) hy hS h
theorem SG {P:Program} {ops:Array Oper} {Q:Exit->Act->World->Prop} {S:World->Prop} {T:List Nat} {i:Nat} {fuel:Nat} {listed:Array Bool} {a:Act} {w:World} (hr:Region.ready .any ops listed=[i])
 (h:wpOp P ops Q i (λa' w'=>(T.contains i=false->S w')/\DD P .any ops Q S T fuel (listed.setIfInBounds i true) a' w') a w):DD P .any ops Q S T (fuel+1) listed a w :=
 ⟨λh0=>(by rw[h0] at hr; cases hr),λj hj=>by rw[hr] at hj; simp only[nq] at hj; subst hj; exact h⟩
theorem FF {P:Program} {ops:Array Oper} {Q:Exit->Act->World->Prop} (hB:EK Q) {S:World->Prop} {T:List Nat} (hT:Nn .any ops T) (hs:Region.noSelect ops):∀(ord:List (Nat×DE)) (l:List (Oper×DE)) (listed:Array Bool) (a:Act) (w:World),
 l.map (λx=>some x.1)=ord.map (λx=>ops[x.1]?)->l.map (·.2)=ord.map (·.2)->CL ops T ord listed=true->EF .any ops listed->(S w\/(ord.all (λx=>match x.2 with|none=>true|_=>false))=true)->wpD P ops Q S l a w->DD P .any ops Q S T ord.length listed a w
 |[],l,listed,a,w,h1,h2,h3,hcl,hS,hw=>by
  cases l with
  |nil=>exact⟨by simpa [CL] using h3,hw⟩
  |cons x l=>simp at h1
 |(i,q)::ord,[],listed,a,w,h1,h2,h3,hcl,hS,hw=>by simp at h1
 |(i,q)::ord,(o,q')::l,listed,a,w,h1,h2,h3,hcl,hS,hw=>by
  simp only[ma,List.cons.injEq] at h1 h2
  obtain⟨ho,h1⟩:=h1
  obtain⟨rfl,h2⟩:=h2
  match q',h2,h3,hS,hw with
  |some true,h2,h3,hS,hw =>
   simp only[CL,mz,nr] at h3
   obtain⟨⟨⟨hiT,hf⟩,hr⟩,h3⟩:=h3
   have hS':S w:=hS.resolve_right (by simp)
   obtain⟨v,hy,hw⟩:=hw
   have hri:i∈Region.ready .any ops listed:=by simpa using hr
   exact V6 hcl ho.symm hT hiT hs hf hr (λc a w h=>hB c a _ _ w h) hy hS' (FF hB hT hs ord l _ _ _ h1 h2 h3 (Cj hcl hri) (.inl hS') hw)
  |some false,h2,h3,hS,hw =>
   simp only[CL,mz,nm] at h3
   obtain⟨hr,h3⟩:=h3
   have hS':S w:=hS.resolve_right (by simp)
   have hri:i∈Region.ready .any ops listed:=by rw[hr]; exact ns ..
   refine SG hr ?_
   unfold wpOp
   rw[<-ho]
   simp only
   unfold wpD at hw
   split
   .rename_i hq
    rw[lu hq] at hw
    exact .inl (Oper.wp_mono (λa w h=>⟨λ_=>h.1,FF hB hT hs ord l _ _ _ h1 h2 h3 (Cj hcl hri) (.inl h.1) h.2⟩) hw)
   .rename_i hq
    rw[lz hq] at hw
    exact⟨λ_=>hS',FF hB hT hs ord l _ _ _ h1 h2 h3 (Cj hcl hri) (.inl hS') hw⟩
  |none,h2,h3,hS,hw =>
   simp only[CL,mz,nm] at h3
   obtain⟨⟨⟨hiT,hr⟩,hall⟩,h3⟩:=h3
   have hri:i∈Region.ready .any ops listed:=by rw[hr]; exact ns ..
   refine SG hr ?_
   unfold wpOp
   rw[<-ho]
   simp only
   unfold wpD at hw
   split
   .rename_i hq
    rw[lu hq] at hw
    exact .inl (Oper.wp_mono (λa w h=>⟨λhc=>(by rw[hiT] at hc; cases hc),FF hB hT hs ord l _ _ _ h1 h2 h3 (Cj hcl hri) (.inr hall) h⟩) hw)
   .rename_i hq
    rw[lz hq] at hw
    exact⟨λhc=>(by rw[hiT] at hc; cases hc),FF hB hT hs ord l _ _ _ h1 h2 h3 (Cj hcl hri) (.inr hall) hw⟩
def Mk (X:World->Prop):Prop:=∀w m,X w->X {w with drawn:=m}
section region
variable {P:Program} {n:Nat} {L:Env} {X:World->Prop} {Q:Exit->Act->World->Prop} {ops:Array Oper}
theorem OM {id:Nat} (l:List Oper) (hl:ops=l.toArray) (h:Pre n L X (wpL P ops Q l)):Pre n L X ((Code.region id ops false).wp P Q):=λa w k x=>by
 subst hl
 refine wp_region ?_
 have:=II (P:=P) (ops:=l.toArray) (Q:=Q) l 0 (λj=>by simp) a w (h a w k x)
 simpa [List.range_eq_range'] using this
theorem AB (h:Pre n L X (Q .normal)):Pre n L X (wpL P ops Q []):=h
theorem AL {S:World->Prop} (h:Pre n L X (Q .normal)):Pre n L X (wpD P ops Q S []):=h
def QOp (P:Program) (n:Nat) (L:Env) (X:World->Prop) (o:Oper) (v:Value):Prop:=∀a w,Know n L a->X w->(execOp a.eval o).run P w=.ok (.value v) w
theorem l_q {o:Oper} {rest:List Oper} {v:Value} {d:Nat} (hd:o.dst=some d) (hq:QOp P n L X o v) (hw:B0 ops L o=some true) (hn:d.blt n) (h:Pre n ((d,v)::L) X (wpL P ops Q rest)):Pre n L X (wpL P ops Q (o::rest)):=λa w k x=>by
 unfold wpL
 rw[lu (Ci k hw)]
 unfold Oper.wp
 rw[hq a w k x]
 show wpL P ops Q rest (a.put o.dst v) w
 rw[hd]
 exact h _ _ (k.put v hn) x
theorem ig {o:Oper} {rest:List Oper} {d:Nat} (hd:o.dst=some d) (hw:B0 ops L o=some false) (hn:d.blt n) (h:Pre n ((d,undef)::L) X (wpL P ops Q rest)):Pre n L X (wpL P ops Q (o::rest)):=λa w k x=>by
 unfold wpL
 rw[lz (by rw[Ci k hw]; simp),hd]
 exact h _ _ (k.put undef hn) x
theorem d_q {S:World->Prop} {o:Oper} {rest:List (Oper×DE)} {v:Value} {d:Nat} (hd:o.dst=some d) (hq:QOp P n L S o v) (hw:B0 ops L o=some true) (hn:d.blt n) (h:Pre n ((d,v)::L) X (wpD P ops Q S rest)):Pre n L X (wpD P ops Q S ((o,some true)::rest)):=λa w k x=>by
 refine⟨v,Or.inl ⟨Ci k hw,λw' hS=>hq a w' k hS⟩,?_⟩
 rw[hd]
 exact h _ _ (k.put v hn) x
theorem ij {S:World->Prop} {o:Oper} {q:DE} {rest:List (Oper×DE)} {d:Nat} (hd:o.dst=some d) (hw:B0 ops L o=some false) (hn:d.blt n) (h:Pre n ((d,undef)::L) X (wpD P ops Q S rest)):Pre n L X (wpD P ops Q S ((o,q)::rest)):=λa w k x=>by
 match q with
 |some true =>
  refine⟨undef,Or.inr ⟨Ci k hw,rfl⟩,?_⟩
  rw[hd]
  exact h _ _ (k.put undef hn) x
 |some false =>
  unfold wpD
  rw[lz (by rw[Ci k hw]; simp),hd]
  exact h _ _ (k.put undef hn) x
 |none =>
  unfold wpD
  rw[lz (by rw[Ci k hw]; simp),hd]
  exact h _ _ (k.put undef hn) x
def EOp (P:Program) (n:Nat) (L:Env) (X:World->Prop) (o:Oper) (Q:Exit->Act->World->Prop) (K:Act->World->Prop):Prop:=Pre n L X (λa w=>o.wp P a w K Q)
theorem l_e {o:Oper} {rest:List Oper} (hw:B0 ops L o=some true) (h:EOp P n L X o Q (wpL P ops Q rest)):Pre n L X (wpL P ops Q (o::rest)):=λa w k x=>by
 unfold wpL
 rw[lu (Ci k hw)]
 exact h a w k x
def eE (S:World->Prop) (F:Act->World->Prop):Act->World->Prop:=λa w=>S w/\F a w
theorem d_e {S:World->Prop} {o:Oper} {rest:List (Oper×DE)} (hw:B0 ops L o=some true) (h:EOp P n L X o Q (eE S (wpD P ops Q S rest))):Pre n L X (wpD P ops Q S ((o,some false)::rest)):=λa w k x=>by
 unfold wpD
 rw[lu (Ci k hw)]
 exact h a w k x
theorem d_t {S:World->Prop} {o:Oper} {rest:List (Oper×DE)} (hw:B0 ops L o=some true) (h:EOp P n L X o Q (wpD P ops Q S rest)):Pre n L X (wpD P ops Q S ((o,none)::rest)):=λa w k x=>by
 unfold wpD
 rw[lu (Ci k hw)]
 exact h a w k x
theorem Ai {S:World->Prop} {F:Act->World->Prop} (hS:∀w,X w->S w) (h:Pre n L X F):Pre n L X (eE S F):=λa w k x=>⟨hS w x,h a w k x⟩
theorem Pre.setB {F:Act->World->Prop} {t:Nat} {b c:Bool} (hl:look L t=some (.bool b)) (e:b=c) (h:Pre n ((t,.bool c)::L) X F):Pre n L X F:=λa w k x=>h a w (k.sub (Sub.cons (by rw[hl,e]) (λ_ _ h=>h))) x
theorem Pre.setV {F:Act->World->Prop} {t:Nat} {b c:Value} (hl:look L t=some b) (e:b=c) (h:Pre n ((t,c)::L) X F):Pre n L X F:=λa w k x=>h a w (k.sub (Sub.cons (by rw[hl,e]) (λ_ _ h=>h))) x
theorem Pre.caseB {F:Act->World->Prop} {b:Bool} (t:Nat) (hl:look L t=some (.bool b)) (h1:b=true->Pre n ((t,.bool true)::L) X F) (h2:b=false->Pre n ((t,.bool false)::L) X F):Pre n L X F:=by
 cases b with
 |true=>exact Pre.setB hl rfl (h1 rfl)
 |false=>exact Pre.setB hl rfl (h2 rfl)
end region
section anyH
variable {P:Program} {n:Nat} {L:Env} {X:World->Prop} {Q:Exit->Act->World->Prop} {S:World->Prop} {l:List Oper} {listed:Array Bool} {k:Nat}
theorem Fo {id:Nat} (S:World->Prop) (hm:P.follows .mixedOrders) (hd:Mk X) (h:Pre n L X (wpAnyH P .any l.toArray Q S l.toArray.size (Array.replicate l.toArray.size false))):Pre n L X ((Code.region id l.toArray true).wp P Q):=λa w kn x =>
 wp_region_held (S:=S) hm (h a _ kn (hd w _ x))
theorem a_q {o:Oper} {v:Value} {d:Nat} (hB:EK Q) (i:Nat) (hi:l[i]?=some o) (hs:Region.noSelect l.toArray) (hf:Region.free .any l.toArray listed i) (hr:(Region.ready .any l.toArray listed).contains i) (hXS:∀w,X w->S w) (hd:o.dst=some d) (hq:QOp P n L S o v) (hw:B0 l.toArray L o=some true) (hn:d.blt n)
 (h:Pre n ((d,v)::L) X (wpAnyH P .any l.toArray Q S k (listed.setIfInBounds i true))):Pre n L X (wpAnyH P .any l.toArray Q S (k+1) listed):=λa w kn x =>
 wpAnyH_take (by rw[mL]; exact hi) hs hf hr (λc a w h=>hB c a _ _ w h) (Or.inl ⟨Ci kn hw,λw' hS=>hq a w' kn hS⟩) (hXS w x) (by
  rw[hd]; exact h _ _ (kn.put v hn) x)
abbrev DZ (P:Program) (l:List Oper) (Q:Exit->Act->World->Prop) (S:World->Prop) (k:Nat) (listed:Array Bool) (i:Nat):Act->World->Prop:=eE S (wpAnyH P .any l.toArray Q S k (listed.setIfInBounds i true))
theorem LX {o:Oper} {i:Nat} (hi:l[i]?=some o) (hw:B0 l.toArray L o=some true) (h:EOp P n L X o Q (DZ P l Q S k listed i)):Pre n L X (wpOp P l.toArray Q i (λa' w'=>S w'/\wpAnyH P .any l.toArray Q S k (listed.setIfInBounds i true) a' w')):=λa w kn x=>by
 unfold wpOp
 rw[mL,hi]
 simp only[Ci kn hw,mA]
 exact .inl (h a w kn x)
theorem eF {o1:Oper} (i1:Nat) (hr:Region.ready .any l.toArray listed=[i1]) (h1:l[i1]?=some o1) (w1:B0 l.toArray L o1=some true) (g1:EOp P n L X o1 Q (DZ P l Q S k listed i1)):Pre n L X (wpAnyH P .any l.toArray Q S (k+1) listed):=λa w kn x =>
 wpAnyH_all hr (by simp) (λj hj=>by simp only[kN,nt,nu] at hj; subst hj; exact LX h1 w1 g1 a w kn x)
theorem eG {o1 o2:Oper} (i1 i2:Nat) (hr:Region.ready .any l.toArray listed=[i1,i2]) (h1:l[i1]?=some o1) (h2:l[i2]?=some o2) (w1:B0 l.toArray L o1=some true) (w2:B0 l.toArray L o2=some true)
 (g1:EOp P n L X o1 Q (DZ P l Q S k listed i1)) (g2:EOp P n L X o2 Q (DZ P l Q S k listed i2)):Pre n L X (wpAnyH P .any l.toArray Q S (k+1) listed):=λa w kn x =>
 wpAnyH_all hr (by simp) (λj hj=>by
  simp only[kN,nt,nu] at hj
  rcases hj with rfl|rfl
  .exact LX h1 w1 g1 a w kn x
  .exact LX h2 w2 g2 a w kn x)
theorem IJ {o1 o2 o3:Oper} (i1 i2 i3:Nat) (hr:Region.ready .any l.toArray listed=[i1,i2,i3]) (h1:l[i1]?=some o1) (h2:l[i2]?=some o2) (h3:l[i3]?=some o3) (w1:B0 l.toArray L o1=some true) (w2:B0 l.toArray L o2=some true) (w3:B0 l.toArray L o3=some true)
 (g1:EOp P n L X o1 Q (DZ P l Q S k listed i1)) (g2:EOp P n L X o2 Q (DZ P l Q S k listed i2)) (g3:EOp P n L X o3 Q (DZ P l Q S k listed i3)):Pre n L X (wpAnyH P .any l.toArray Q S (k+1) listed):=λa w kn x =>
 wpAnyH_all hr (by simp) (λj hj=>by
  simp only[kN,nt,nu] at hj
  rcases hj with rfl|rfl|rfl
  .exact LX h1 w1 g1 a w kn x
  .exact LX h2 w2 g2 a w kn x
  .exact LX h3 w3 g3 a w kn x)
theorem ik (hr:Region.ready .any l.toArray listed=[]) (h:Pre n L X (Q .normal)):Pre n L X (wpAnyH P .any l.toArray Q S k listed):=λa w kn x=>wpAnyH_done hr (h a w kn x) k
end anyH
section
variable {P:Program} {n:Nat} {L:Env} {X:World->Prop} {o:Oper}
theorem QOp.mk {v:Value} (s:Act->Sem Value) (he:∀a,execOp a.eval o=(do pure (.value (<-s a)))) (h:∀a w,Know n L a->X w->(s a).run P w=.ok v w):QOp P n L X o v:=λa w k x=>by
 rw[he]; simp[h a w k x]
theorem QOp.sub {X':World->Prop} {v:Value} (h:QOp P n L X o v) (s:∀w,X' w->X w):QOp P n L X' o v:=λa w k x=>h a w k (s w x)
theorem Bi {x:Operand} {v:Value} (ho:o.op=.move x) (h:ev L x=some v):QOp P n L X o v:=λa w k hx=>by
 simp only[execOp,ho,k.eval h]; rfl
theorem AF {x:Operand} {v:Value} (ho:o.op=.assign x) (h:ev L x=some v):QOp P n L X o v:=λa w k hx=>by
 simp only[execOp,ho,k.eval h]; rfl
theorem ON {c x y:Operand} {v:Value} (ho:o.op=.pick c x y) (hc:ev L c=some (.bool true)) (h:ev L x=some v):QOp P n L X o v:=λa w k hx=>by
 simp[execOp,ho,k.eval h,k.eval hc,asBool]
theorem OO {c x y:Operand} {v:Value} (ho:o.op=.pick c x y) (hc:ev L c=some (.bool false)) (h:ev L y=some v):QOp P n L X o v:=λa w k hx=>by
 simp[execOp,ho,k.eval h,k.eval hc,asBool]
theorem CV {op:BinOp} {t u:TypeId} {x y:Operand} {vx vy v:Value} (ho:o.op=.binOp op t x y u) (hx:ev L x=some vx) (hy:ev L y=some vy)
 (hr:∀w,X w->(do eqGuard op t x y vx vy; binOp op t vx vy:Sem Value).run P w=.ok v w):QOp P n L X o v:=λa w k x=>by
 have h0:=hr w x
 simp only[execOp,ho,k.eval hx,k.eval hy]
 rw[l5,h0]
 rfl
theorem Ch {z:Int} (h : -9223372036854775808<=z/\z<=9223372036854775807):IntKind.i64.wrap z=z:=by
 rw[IntKind.wrap_i64]; omega
theorem BS {z:Int} (h:0<=z/\z<=255:=by omega):IntKind.u8.wrap z=z:=by
 simp only[IntKind.wrap,IntKind.signed,IntKind.bits,nw,ny,nz]; omega
theorem E4 {z:Int} (h:0<=z/\z<=18446744073709551615:=by omega):IntKind.u64.wrap z=z:=by
 simp only[IntKind.wrap,IntKind.signed,IntKind.bits,nw,ny,nz]; omega
theorem Cg {op:BinOp} {t:TypeId} {x y:Operand} {j k:IntKind} {p q:Int} (w:World):(eqGuard op t x y (.int j p) (.int k q)).run P w=.ok () w:=by
 cases op<;>rfl
theorem V7 {t u:TypeId} {x y:Operand} {k:IntKind} {p q:Int} (ho:o.op=.binOp .add t x y u) (hx:ev L x=some (.int k p)) (hy:ev L y=some (.int k q)):QOp P n L X o (.int k (k.wrap (p+q))) :=
 CV ho hx hy (λw _=>by rw[l5,Cg]; simp[binOp,Op.intArith])
theorem il {t u:TypeId} {x y:Operand} {k:IntKind} {p q:Int} (ho:o.op=.binOp .sub t x y u) (hx:ev L x=some (.int k p)) (hy:ev L y=some (.int k q)):QOp P n L X o (.int k (k.wrap (p-q))) :=
 CV ho hx hy (λw _=>by rw[l5,Cg]; simp[binOp,Op.intArith])
theorem dE {t u:TypeId} {x y:Operand} {k:IntKind} {p q:Int} (ho:o.op=.binOp .mul t x y u) (hx:ev L x=some (.int k p)) (hy:ev L y=some (.int k q)):QOp P n L X o (.int k (k.wrap (p*q))) :=
 CV ho hx hy (λw _=>by rw[l5,Cg]; simp[binOp,Op.intArith])
theorem Bh {t u:TypeId} {x y:Operand} {p q:Int} (ho:o.op=.binOp .add t x y u) (hx:ev L x=some (.int .i64 p)) (hy:ev L y=some (.int .i64 q)) (hb : -9223372036854775808<=p+q/\p+q<=9223372036854775807:=by omega):QOp P n L X o (.int .i64 (p+q)):=by
 have:=V7 (P:=P) (n:=n) (X:=X) ho hx hy; rwa[Ch hb] at this
theorem CM {t u:TypeId} {x y:Operand} {p q:Int} (ho:o.op=.binOp .sub t x y u) (hx:ev L x=some (.int .i64 p)) (hy:ev L y=some (.int .i64 q)) (hb : -9223372036854775808<=p-q/\p-q<=9223372036854775807:=by omega):QOp P n L X o (.int .i64 (p-q)):=by
 have:=il (P:=P) (n:=n) (X:=X) ho hx hy; rwa[Ch hb] at this
theorem GN {t u:TypeId} {x y:Operand} {p q:Int} (ho:o.op=.binOp .mul t x y u) (hx:ev L x=some (.int .i64 p)) (hy:ev L y=some (.int .i64 q)) (hb : -9223372036854775808<=p*q/\p*q<=9223372036854775807:=by omega):QOp P n L X o (.int .i64 (p*q)):=by
 have:=dE (P:=P) (n:=n) (X:=X) ho hx hy; rwa[Ch hb] at this
theorem im {t u:TypeId} {x y:Operand} {p:Nat} (ho:o.op=.binOp .add t x y u) (hx:ev L x=some (.int .i64 (p:Int))) (hy:ev L y=some (.int .i64 1)) (hb:p<9223372036854775807):QOp P n L X o (.int .i64 ((p+1:Nat):Int)):=by
 have:=Bh (P:=P) (n:=n) (X:=X) ho hx hy (by omega)
 exact this
theorem V8 {t u:TypeId} {x y:Operand} {k:IntKind} {p q:Int} (ho:o.op=.binOp .rem t x y u) (hx:ev L x=some (.int k p)) (hy:ev L y=some (.int k q)) (hq:q≠0):QOp P n L X o (.int k (p.tmod q)) :=
 CV ho hx hy (λw _=>by rw[l5,Cg]; simp[binOp,Op.intDiv,hq])
theorem Bm {t u:TypeId} {x y:Operand} {k:IntKind} {p q:Int} (ho:o.op=.binOp .rem t x y u) (hx:ev L x=some (.int k p)) (hy:ev L y=some (.int k q)) (hp:0<=p:=by omega) (hq:q≠0:=by omega):QOp P n L X o (.int k (p%q)):=by
 have:=V8 (P:=P) (n:=n) (X:=X) ho hx hy hq
 rwa[Int.tmod_eq_emod_of_nonneg hp] at this
theorem dF {t u:TypeId} {x y:Operand} {k:IntKind} {p q:Int} (ho:o.op=.binOp .quo t x y u) (hx:ev L x=some (.int k p)) (hy:ev L y=some (.int k q)) (hq:q≠0):QOp P n L X o (.int k (k.wrap (p.tdiv q))) :=
 CV ho hx hy (λw _=>by rw[l5,Cg]; simp[binOp,Op.intDiv,hq])
theorem By {t u:TypeId} {x y:Operand} {p q:Int} (ho:o.op=.binOp .quo t x y u) (hx:ev L x=some (.int .i64 p)) (hy:ev L y=some (.int .i64 q)) (hp:0<=p:=by omega) (hq:0<q:=by omega) (hb:p<=9223372036854775807:=by omega):QOp P n L X o (.int .i64 (p/q)):=by
 have:=dF (P:=P) (n:=n) (X:=X) ho hx hy (by omega)
 have h1:p/q<=p:=Int.ediv_le_self q hp
 have h2:0<=p/q:=Int.ediv_nonneg hp (by omega)
 rw[Int.tdiv_eq_ediv_of_nonneg hp,Ch (by omega)] at this
 exact this
theorem dG {t u:TypeId} {x y:Operand} {k:IntKind} {p q:Int} (ho:o.op=.binOp .eql t x y u) (hx:ev L x=some (.int k p)) (hy:ev L y=some (.int k q)):QOp P n L X o (.bool (decide (p=q))) :=
 CV ho hx hy (λw _=>by rw[l5,Cg]; simp[binOp,Op.intCmp]; rfl)
theorem dH {t u:TypeId} {x y:Operand} {k:IntKind} {p q:Int} (ho:o.op=.binOp .neq t x y u) (hx:ev L x=some (.int k p)) (hy:ev L y=some (.int k q)):QOp P n L X o (.bool (!decide (p=q))) :=
 CV ho hx hy (λw _=>by rw[l5,Cg]; simp[binOp,Op.intCmp]; rfl)
theorem dI {t u:TypeId} {x y:Operand} {k:IntKind} {p q:Int} (ho:o.op=.binOp .lss t x y u) (hx:ev L x=some (.int k p)) (hy:ev L y=some (.int k q)):QOp P n L X o (.bool (decide (p<q))) :=
 CV ho hx hy (λw _=>by rw[l5,Cg]; simp[binOp,Op.intCmp])
theorem H4 {t u:TypeId} {x y:Operand} {k:IntKind} {p q:Int} (ho:o.op=.binOp .leq t x y u) (hx:ev L x=some (.int k p)) (hy:ev L y=some (.int k q)):QOp P n L X o (.bool (decide (p<=q))) :=
 CV ho hx hy (λw _=>by rw[l5,Cg]; simp[binOp,Op.intCmp])
theorem BQ {t u:TypeId} {x y:Operand} {k:IntKind} {p q:Int} (ho:o.op=.binOp .gtr t x y u) (hx:ev L x=some (.int k p)) (hy:ev L y=some (.int k q)):QOp P n L X o (.bool (decide (q<p))) :=
 CV ho hx hy (λw _=>by rw[l5,Cg]; simp[binOp,Op.intCmp])
theorem dJ {t u:TypeId} {x y:Operand} {k:IntKind} {p q:Int} (ho:o.op=.binOp .geq t x y u) (hx:ev L x=some (.int k p)) (hy:ev L y=some (.int k q)):QOp P n L X o (.bool (decide (q<=p))) :=
 CV ho hx hy (λw _=>by rw[l5,Cg]; simp[binOp,Op.intCmp])
theorem Hp {s t:TypeId} {x:Operand} {j k:IntKind} {p:Int} (ho:o.op=.convert s t x) (hs:P.underlying s=some (.int j)) (ht:P.underlying t=some (.int k)) (hx:ev L x=some (.int j p)):QOp P n L X o (.int k (k.wrap p)) :=
 QOp.mk (λa=>convert s t (a.eval x)) (λa=>by simp[execOp,ho]) (λa w hk _=>by
  rw[hk.eval hx]; simp[convert,underlying,hs,ht,Conv.intToInt])
theorem Bu {s t:TypeId} {x:Operand} {j k:IntKind} {p:Int} (ho:o.op=.convert s t x) (hs:P.underlying s=some (.int j)) (ht:P.underlying t=some (.int k)) (hx:ev L x=some (.int j p)) (hw:k.wrap p=p):QOp P n L X o (.int k p):=by
 have:=Hp (P:=P) (n:=n) (X:=X) ho hs ht hx; rwa[hw] at this
theorem dK {t:TypeId} {x:Operand} {b:Bool} (ho:o.op=.unOp .not t x) (hx:ev L x=some (.bool b)):QOp P n L X o (.bool (!b)) :=
 QOp.mk (λa=>Op.unary .not (a.eval x)) (λa=>by simp[execOp,ho]) (λa w hk _=>by rw[hk.eval hx]; simp[Op.unary])
theorem iq {x y:Operand} {ts:Array TypeId} {k j:IntKind} {p q:Int} (ho:o.op=.call ⟨.builtin .max,#[x,y],ts⟩) (hx:ev L x=some (.int k p)) (hy:ev L y=some (.int j q)):QOp P n L X o (.int k (if q>p then q else p)):=λa w hk _=>by
 simp[execOp,ho,resolve,invoke,builtin,hk.eval hx,hk.eval hy,Builtin.max_,Builtin.max2,Result.andThen]
theorem AW {t:TypeId} {d:TypeDesc} (h:P.underlying t=some d) (w:World):(underlying t).run P w=.ok d w:=by simp[underlying,h]
theorem GO {t:TypeId} {x y:Value} {b:Bool} (w:World) (h:∀d,(Op.equalIn (d+1) t x y).run P w=.ok b w):(Op.equal t x y).run P w=.ok b w:=h 9999
theorem ZO {t:TypeId} {p q:Bool} (ht:P.underlying t=some .bool) (w:World):(Op.equal t (.bool p) (.bool q)).run P w=.ok (p == q) w :=
 GO w (λd=>by unfold Op.equalIn; simp[AW ht])
theorem SH {t e:TypeId} {p:Option Addr} (ht:P.underlying t=some (.pointer e)) (w:World):(Op.equal t (.pointer p) (.pointer none)).run P w=.ok p.isNone w :=
 GO w (λd=>by unfold Op.equalIn; cases p<;>simp[AW ht])
theorem V9 {t e:TypeId} {p:Option Addr} {l c l' c':Nat} (ht:P.underlying t=some (.slice e)) (w:World):(Op.equal t (.slice p l c) (.slice none l' c')).run P w=.ok p.isNone w :=
 GO w (λd=>by unfold Op.equalIn; cases p<;>simp[AW ht])
theorem Nq {t:TypeId} {x y:Value} {b:Bool} (w:World) (hb:binOp .eql t x y=(do pure (.bool (<-Op.equal t x y)))) (h:(Op.equal t x y).run P w=.ok b w):(binOp .eql t x y).run P w=.ok (.bool b) w:=by
 rw[hb]; simp[h]
theorem Q5 {t:TypeId} {x y:Value} {b:Bool} (w:World) (hb:binOp .neq t x y=(do pure (.bool (!(<-Op.equal t x y))))) (h:(Op.equal t x y).run P w=.ok b w):(binOp .neq t x y).run P w=.ok (.bool (!b)) w:=by
 rw[hb]; simp[h]
theorem D1 {α:Type} {x:Sem Unit} {y:Sem α} {v:α} {w:World} (hx:x.run P w=.ok () w) (hy:y.run P w=.ok v w):(do x; y:Sem α).run P w=.ok v w:=by
 rw[l5,hx]; exact hy
theorem ir {t u:TypeId} {x y:Operand} {p q:Bool} (ho:o.op=.binOp .neq t x y u) (ht:P.underlying t=some .bool) (hx:ev L x=some (.bool p)) (hy:ev L y=some (.bool q)):QOp P n L X o (.bool (!(p == q))) :=
 CV ho hx hy (λw _=>D1 rfl (Q5 w rfl (ZO ht w)))
theorem iu {t u:TypeId} {x y:Operand} {p q:ByteArray} (ho:o.op=.binOp .eql t x y u) (hx:ev L x=some (.string p)) (hy:ev L y=some (.string q)):QOp P n L X o (.bool (p.toList == q.toList)) :=
 CV ho hx hy (λw _=>by simp[eqGuard,binOp,Op.stringOp])
theorem DS {t u e:TypeId} {x y:Operand} {p:Option Addr} (ho:o.op=.binOp .eql t x y u) (ht:P.underlying t=some (.pointer e)) (hx:ev L x=some (.pointer p)) (hy:ev L y=some (.pointer none)):QOp P n L X o (.bool p.isNone) :=
 CV ho hx hy (λw _=>D1 rfl (Nq w rfl (SH ht w)))
theorem D2 {t u e:TypeId} {x y:Operand} {p:Option Addr} (ho:o.op=.binOp .neq t x y u) (ht:P.underlying t=some (.pointer e)) (hx:ev L x=some (.pointer p)) (hy:ev L y=some (.pointer none)):QOp P n L X o (.bool (!p.isNone)) :=
 CV ho hx hy (λw _=>D1 rfl (Q5 w rfl (SH ht w)))
theorem FZ {t u e:TypeId} {x y:Operand} {p:Option Addr} {l c l' c':Nat} (ho:o.op=.binOp .eql t x y u) (ht:P.underlying t=some (.slice e)) (hx:ev L x=some (.slice p l c)) (hy:ev L y=some (.slice none l' c')):QOp P n L X o (.bool p.isNone) :=
 CV ho hx hy (λw _=>D1 rfl (Nq w rfl (V9 ht w)))
theorem Ml {x:Operand} {i:Nat} {vs:List Value} {v:Value} (ho:o.op=.extract x i) (hx:ev L x=some (.tuple vs.toArray)) (h:vs[i]?=some v):QOp P n L X o v :=
 QOp.mk (λa=>Instr.extract (a.eval x) i) (λa=>by simp[execOp,ho]) (λa w hk _=>by rw[hk.eval hx]; simp[Instr.extract,h])
theorem Bw {x:Operand} {p:Addr} (ho:o.op=.nilCheck x) (hx:ev L x=some (.pointer (some p))):QOp P n L X o (.pointer (some p)):=λa w hk _=>by
 simp only[execOp,ho,hk.eval hx]; rfl
theorem BJ (b f m:Nat):Addr.add ⟨b,f,none⟩ m=⟨b,f+m,none⟩:=by
 unfold Addr.add; split
 .next h=>subst h; rfl
 .rfl
theorem Ba {s:TypeId} {x:Operand} {i b off:Nat} {fs:List Field} {f:Field} {sz:Nat} (ho:o.op=.fieldAddr s x i) (hs:P.underlying s=some (.struct fs.toArray)) (hf:fs[i]?=some f) (hz:∀w,(sizeOf f.type).run P w=.ok sz w) (hnz:sz.beq 0=false)
 (hx:ev L x=some (.pointer (some ⟨b,off,none⟩))):QOp P n L X o (.pointer (some ⟨b,off+f.offset,none⟩)) :=
 QOp.mk (λa=>Instr.fieldAt s (a.eval x) i) (λa=>by simp[execOp,ho]) (λa w hk _=>by
  have:sz≠0:=λe=>by subst e; cases hnz
  rw[hk.eval hx]; simp[Instr.fieldAt,AW hs,hf,Instr.sureAddr,fieldPlace,hz,this,BJ])
theorem Gl {t e:TypeId} {x i:Operand} {b off len cap sz:Nat} {k:IntKind} {p:Int} (j:Nat) (ho:o.op=.indexAddr t x i) (ht:P.underlying t=some (.slice e)) (hz:∀w,(sizeOf e).run P w=.ok sz w)
 (hx:ev L x=some (.slice (some ⟨b,off,none⟩) len cap)) (hi:ev L i=some (.int k p)) (hp:p=(j:Int)) (hj:j<len):QOp P n L X o (.pointer (some ⟨b,off+j*sz,none⟩)) :=
 QOp.mk (λa=>Instr.indexAt t (a.eval x) (a.eval i)) (λa=>by simp[execOp,ho]) (λa w hk _=>by
  subst hp
  have h1:(0:Int)<=(j:Int)/\(j:Int)<(len:Int):=by omega
  rw[hk.eval hx,hk.eval hi]; simp[Instr.indexAt,asIntOf,AW ht,hz,hj,BJ])
theorem Be {t e:TypeId} {x i:Operand} {b off len sz:Nat} {k:IntKind} {p:Int} (j:Nat) (ho:o.op=.indexAddr t x i) (ht:P.underlying t=some (.array len e)) (hz:∀w,(sizeOf e).run P w=.ok sz w)
 (hx:ev L x=some (.pointer (some ⟨b,off,none⟩))) (hi:ev L i=some (.int k p)) (hp:p=(j:Int)) (hj:j<len:=by omega):QOp P n L X o (.pointer (some ⟨b,off+j*sz,none⟩)) :=
 QOp.mk (λa=>Instr.indexAt t (a.eval x) (a.eval i)) (λa=>by simp[execOp,ho]) (λa w hk _=>by
  subst hp
  have h1:(0:Int)<=(j:Int)/\(j:Int)<(len:Int):=by omega
  rw[hk.eval hx,hk.eval hi]; simp[Instr.indexAt,asIntOf,AW ht,hz,hj,Instr.sureAddr,BJ])
theorem DM {t:TypeId} {x:Operand} {i:Nat} {fs:List Field} {f:Field} {cs:List Value} {v:Value} (ho:o.op=.field t x i) (hs:P.underlying t=some (.struct fs.toArray)) (hf:fs[i]?=some f) (hg:∀w,(isAgg f.type).run P w=.ok false w)
 (hx:ev L x=some (.agg cs.toArray)) (h:cs[f.offset]?=some v):QOp P n L X o v :=
 QOp.mk (λa=>Instr.field t (a.eval x) i) (λa=>by simp[execOp,ho]) (λa w hk _=>by
  rw[hk.eval hx]; simp[Instr.field,AW hs,hf,part,hg,asAgg,h])
theorem EL {x:Operand} {t e:TypeId} {p:Option Addr} {l c:Nat} (ho:o.op=.call ⟨.builtin .len,#[x],#[t]⟩) (ht:P.underlying t=some (.slice e)) (hx:ev L x=some (.slice p l c)):QOp P n L X o (.int .i64 (l:Int)):=λa w hk _=>by
 simp[execOp,ho,resolve,invoke,builtin,hk.eval hx,Builtin.len_,AW ht,Result.andThen,goInt]
theorem FA {x:Operand} {t:TypeId} {s:ByteArray} (ho:o.op=.call ⟨.builtin .len,#[x],#[t]⟩) (ht:P.underlying t=some .string) (hx:ev L x=some (.string s)):QOp P n L X o (.int .i64 (s.size:Int)):=λa w hk _=>by
 simp[execOp,ho,resolve,invoke,builtin,hk.eval hx,Builtin.len_,AW ht,Result.andThen,goInt]
theorem iv {x:Operand} {t e:TypeId} {p:Option Addr} {l c:Nat} (ho:o.op=.call ⟨.builtin .cap,#[x],#[t]⟩) (ht:P.underlying t=some (.slice e)) (hx:ev L x=some (.slice p l c)):QOp P n L X o (.int .i64 (c:Int)):=λa w hk _=>by
 simp[execOp,ho,resolve,invoke,builtin,hk.eval hx,Builtin.cap_,AW ht,Result.andThen,goInt]
theorem C3 {fn:Fn} {fs cs:Array Operand} {vs us:Array Value} (f:FuncId) (ho:o.op=.makeFunc (.func f) fs cs) (h1:∀a,Know n L a->fs.map a.eval=vs) (h2:∀a,Know n L a->cs.map a.eval=us):QOp P n L X o (.func (.func f) vs us) :=
 QOp.mk (λa=>Instr.makeFunc (.func f) (fs.map a.eval) (cs.map a.eval)) (λa=>by simp[execOp,ho]) (λa w hk _=>by
  rw[h1 a hk,h2 a hk]; rfl)
theorem CG {x:Value} {y j:Nat} {c:BoundsCode} {k:IntKind} (w:World) (hx:x=.int k (j:Int)) (hj:j<=y):(Instr.sliceBound x y c).run P w=.ok j w:=by
 subst hx
 have:(0:Int)<=(j:Int)/\(j:Int)<=(y:Int):=by omega
 simp[Instr.sliceBound,asIntOf,hj]
theorem Di {t e:TypeId} {x lo:Operand} {b off len cap sz:Nat} {k:IntKind} {zl:Int} (l:Nat) (ho:o.op=.slice t x (some lo) none none) (ht:P.underlying t=some (.slice e)) (hz:∀w,(sizeOf e).run P w=.ok sz w)
 (hx:ev L x=some (.slice (some ⟨b,off,none⟩) len cap)) (hlo:ev L lo=some (.int k zl)) (el:zl=(l:Int)) (h1:l<=len) :
 QOp P n L X o (.slice (some ⟨b,off+(if cap=l then 0 else l*sz),none⟩) (len-l) (cap-l)) :=
 QOp.mk (λa=>Instr.sliceAt t (a.eval x) (some (a.eval lo)) none none) (λa=>by simp[execOp,ho]) (λa w hk _=>by
  subst el
  rw[hk.eval hx,hk.eval hlo]
  simp only[Instr.sliceAt,Instr.slice,Instr.sliceBounds,l5,AW ht,l7,l6,CG (P:=P) w rfl h1,hz]
  by_cases he:cap=l
  .simp[he]
  .simp[he,BJ])
theorem FG {t e:TypeId} {x hi:Operand} {p:Option Addr} {len cap sz:Nat} {k:IntKind} {zh:Int} (h:Nat) (ho:o.op=.slice t x none (some hi) none) (ht:P.underlying t=some (.slice e)) (hz:∀w,(sizeOf e).run P w=.ok sz w)
 (hx:ev L x=some (.slice p len cap)) (hhi:ev L hi=some (.int k zh)) (eh:zh=(h:Int)) (h2:h<=cap) :
 QOp P n L X o (.slice p h cap) :=
 QOp.mk (λa=>Instr.sliceAt t (a.eval x) none (some (a.eval hi)) none) (λa=>by simp[execOp,ho]) (λa w hk _=>by
  subst eh
  rw[hk.eval hx,hk.eval hhi]
  simp only[Instr.sliceAt,Instr.slice,Instr.sliceBounds,l5,AW ht,l7,l6,CG (P:=P) w rfl h2,hz]
  cases p<;>simp[Addr.add])
theorem Ew {t e:TypeId} {x hi:Operand} {b off len sz:Nat} {k:IntKind} {zh:Int} (h:Nat) (ho:o.op=.slice t x none (some hi) none) (ht:P.underlying t=some (.array len e)) (hz:∀w,(sizeOf e).run P w=.ok sz w)
 (hx:ev L x=some (.pointer (some ⟨b,off,none⟩))) (hhi:ev L hi=some (.int k zh)) (eh:zh=(h:Int)) (h2:h<=len) :
 QOp P n L X o (.slice (some ⟨b,off,none⟩) h len) :=
 QOp.mk (λa=>Instr.sliceAt t (a.eval x) none (some (a.eval hi)) none) (λa=>by simp[execOp,ho]) (λa w hk _=>by
  subst eh
  rw[hk.eval hx,hk.eval hhi]
  simp only[Instr.sliceAt,Instr.sureAddr,Instr.sliceBounds,l5,AW ht,l7,l6,CG (P:=P) w rfl h2,hz]
  simp[Addr.add])
theorem F0 {t e:TypeId} {x:Operand} {b off len sz:Nat} (ho:o.op=.slice t x none none none) (ht:P.underlying t=some (.array len e)) (hz:∀w,(sizeOf e).run P w=.ok sz w)
 (hx:ev L x=some (.pointer (some ⟨b,off,none⟩))) :
 QOp P n L X o (.slice (some ⟨b,off,none⟩) len len) :=
 QOp.mk (λa=>Instr.sliceAt t (a.eval x) none none none) (λa=>by simp[execOp,ho]) (λa w hk _=>by
  rw[hk.eval hx]
  simp only[Instr.sliceAt,Instr.sureAddr,Instr.sliceBounds,l5,AW ht,l7,l6,hz]
  simp[Addr.add])
theorem Wa {t:TypeId} {x:Operand} {b off:Nat} {v:Value} (ho:o.op=.load t x) (hg:∀w,(isAgg t).run P w=.ok false w) (hx:ev L x=some (.pointer (some ⟨b,off,none⟩)))
 (hc:∀w,X w->w.cell? ⟨b,off,none⟩=some v):QOp P n L X o v :=
 QOp.mk (λa=>Instr.loadAt t (a.eval x)) (λa=>by simp[execOp,ho]) (λa w hk hX=>by
  rw[hk.eval hx]; simp[Instr.loadAt,Instr.sureAddr,loadVar,hg,hc w hX])
theorem Er (b off:Nat) (w:World):∀(m i:Nat) (vs:List Value) (acc:Array Value),vs.length=m->(∀(j:Nat) (v:Value),vs[j]?=some v->w.cell? ⟨b,off+(i+j),none⟩=some v) ->
 (loadCellsFrom ⟨b,off,none⟩ i m acc).run P w=.ok (acc++vs.toArray) w
 |0,i,vs,acc,hl,h=>by
  have:vs=[]:=List.length_eq_zero_iff.1 hl
  subst this; simp[loadCellsFrom]
 |m+1,i,[],acc,hl,h=>by simp at hl
 |m+1,i,u::vs,acc,hl,h=>by
  have h0:=h 0 u rfl
  rw[nB] at h0
  simp only[loadCellsFrom,l5,BJ]
  rw[run_load]
  simp only[h0,l7]
  rw[Er b off w m (i+1) vs _ (by simpa using hl) (λj v hj=>by
   have:=h (j+1) v (by simpa using hj)
   rwa[show off+(i+(j+1))=off+(i+1+j) from by omega] at this)]
  simp
theorem Mm {t:TypeId} {x:Operand} {b off sz:Nat} {vs:List Value} (ho:o.op=.load t x) (hg:∀w,(isAgg t).run P w=.ok true w) (hz:∀w,(sizeOf t).run P w=.ok sz w) (hx:ev L x=some (.pointer (some ⟨b,off,none⟩))) (hl:vs.length=sz)
 (hc:∀w,X w->∀(j:Nat) (v:Value),vs[j]?=some v->w.cell? ⟨b,off+j,none⟩=some v):QOp P n L X o (.agg vs.toArray) :=
 QOp.mk (λa=>Instr.loadAt t (a.eval x)) (λa=>by simp[execOp,ho]) (λa w hk hX=>by
  rw[hk.eval hx]
  have:=Er (P:=P) b off w sz 0 vs #[] hl (λj v hj=>by rw[me]; exact hc w hX j v hj)
  simp[Instr.loadAt,Instr.sureAddr,loadVar,hg,hz,loadCells,this])
end
open Go.RowKit
structure Ent where
 b:Option Nat
 φ:Option Obj->Prop
def Ent.at (e:Ent) (w:World):Prop:=e.φ (e.b.bind (w.heap[·]?))
def dom (H:List Ent):List Nat:=H.filterMap Ent.b
structure HP (H:List Ent) (w:World):Prop where
 holds:∀e∈H,e.at w
 nodup:(dom H).Nodup
 lt:∀b∈dom H,b<w.heap.size
structure Keep (w0:World) (D:List Nat) (w:World):Prop where
 os:w.os=w0.os
 tape:w.tape=w0.tape
 output:w.output=w0.output
 size:w0.heap.size<=w.heap.size
 block:∀b,b<w0.heap.size->b∉D->w.heap[b]?=w0.heap[b]?
structure St (w0:World) (D:List Nat) (H:List Ent) (w:World):Prop where
 hp:HP H w
 dom:∀b∈dom H,b∈D\/w0.heap.size<=b
 keep:Keep w0 D w
theorem Keep.refl (w:World) (D:List Nat):Keep w D w:=⟨rfl,rfl,rfl,lJ _,λ_ _ _=>rfl⟩
theorem Keep.trans {a b c:World} {D D':List Nat} (h:Keep a D b) (h':Keep b D' c) (hs:∀k,k∈D'->k<a.heap.size->k∈D):Keep a D c :=
 ⟨h'.os.trans h.os,h'.tape.trans h.tape,h'.output.trans h.output,mf h.size h'.size,λk hk hD=>(h'.block k (nC hk h.size) (λe=>hD (hs k e hk))).trans (h.block k hk hD)⟩
theorem Keep.below {w0 w:World} (h:Keep w0 [] w):Below w0.heap.size w0 w:=⟨h.os,h.tape,h.output,h.size,λk hk=>h.block k hk (by simp)⟩
theorem St.below {w0 w:World} {H:List Ent} (h:St w0 [] H w):Below w0.heap.size w0 w:=h.keep.below
theorem St.init {H:List Ent} {w:World} (h:HP H w):St w (Sep.dom H) H w:=⟨h,λb hb=>.inl hb,Keep.refl _ _⟩
theorem HP.nil (w:World):HP [] w:=⟨λe h=>(by cases h),nD,λb h=>(by cases h)⟩
theorem St.nil (w:World):St w [] [] w:=St.init (HP.nil w)
theorem Ent.at_congr {e:Ent} {w w':World} (h:∀b,e.b=some b->w'.heap[b]?=w.heap[b]?) (he:e.at w):e.at w':=by
 unfold Ent.at at *
 cases hb:e.b with
 |none=>rw[hb] at he; exact he
 |some b=>rw[hb] at he; simpa [h b hb] using he
theorem St.drawn {w0:World} {D:List Nat} {H:List Ent}:Mk (St w0 D H):=λw m h =>
 ⟨⟨λe he=>Ent.at_congr (λ_ _=>rfl) (h.hp.holds e he),h.hp.nodup,h.hp.lt⟩,h.dom,⟨h.keep.os,h.keep.tape,h.keep.output,h.keep.size,h.keep.block⟩⟩
theorem St.drew {w0:World} {D:List Nat} {H:List Ent} {w:World} (h:St w0 D H w):St w0 D H w.drew:=St.drawn w _ h
theorem St.at {w0:World} {D:List Nat} {H:List Ent} {w:World} {e:Ent} (h:St w0 D H w) (i:Nat) (hi:H[i]?=some e):e.at w:=h.hp.holds e (mQ hi)
theorem St.sublist {w0:World} {D:List Nat} {H H':List Ent} {w:World} (s:H'.Sublist H) (h:St w0 D H w):St w0 D H' w :=
 ⟨⟨λe he=>h.hp.holds e (s.subset he),h.hp.nodup.sublist (s.filterMap _),λb hb=>h.hp.lt b ((s.filterMap _).subset hb)⟩,λb hb=>h.dom b ((s.filterMap _).subset hb),h.keep⟩
theorem St.perm {w0:World} {D:List Nat} {H H':List Ent} {w:World} (s:H.Perm H') (h:St w0 D H w):St w0 D H' w :=
 ⟨⟨λe he=>h.hp.holds e (s.mem_iff.2 he),(s.filterMap _).nodup_iff.1 h.hp.nodup,λb hb=>h.hp.lt b ((s.filterMap _).mem_iff.2 hb)⟩,λb hb=>h.dom b ((s.filterMap _).mem_iff.2 hb),h.keep⟩
theorem St.drop {w0:World} {D:List Nat} {e:Ent} {H:List Ent} {w:World} (h:St w0 D (e::H) w):St w0 D H w:=h.sublist (nE _ _)
theorem St.cut {w0:World} {D:List Nat} {H T:List Ent} {w:World} (h:St w0 D (H++T) w):St w0 D H w:=h.sublist (List.sublist_append_left _ _)
theorem St.kv {w0:World} {D:List Nat} {H:List Ent} {w:World} (h:St w0 D H w):St w0 D [] w:=h.sublist (nF _)
theorem St.head {w0:World} {D:List Nat} {e e':Ent} {H:List Ent} {w:World} (h:St w0 D (e::H) w) (hb:e'.b=e.b) (hi:e.at w->e'.at w):St w0 D (e'::H) w:=by
 have hd:Sep.dom (e'::H)=Sep.dom (e::H):=by simp only[Sep.dom,List.filterMap_cons,hb]
 refine⟨⟨λx hx=>?_,hd▸h.hp.nodup,hd▸h.hp.lt⟩,hd▸h.dom,h.keep⟩
 rcases kN.1 hx with rfl|hx
 .exact hi (h.hp.holds e (ns ..))
 .exact h.hp.holds x (nG _ hx)
theorem St.free {w0:World} {D:List Nat} {e e':Ent} {H:List Ent} {w:World} (h:St w0 D (e::H) w) (hb:e'.b=Option.none) (hi:e'.at w):St w0 D (e'::H) w:=by
 have h1:=h.drop
 have hd:Sep.dom (e'::H)=Sep.dom H:=by simp only[Sep.dom,List.filterMap_cons,hb]
 refine⟨⟨λx hx=>?_,hd▸h1.hp.nodup,hd▸h1.hp.lt⟩,hd▸h1.dom,h1.keep⟩
 rcases kN.1 hx with rfl|hx
 .exact hi
 .exact h1.hp.holds x hx
theorem St.add {w0:World} {D:List Nat} {e':Ent} {H:List Ent} {w:World} (h1:St w0 D H w) (hb:e'.b=Option.none) (hi:e'.at w):St w0 D (e'::H) w:=by
 have hd:Sep.dom (e'::H)=Sep.dom H:=by simp only[Sep.dom,List.filterMap_cons,hb]
 refine⟨⟨λx hx=>?_,hd▸h1.hp.nodup,hd▸h1.hp.lt⟩,hd▸h1.dom,h1.keep⟩
 rcases kN.1 hx with rfl|hx
 .exact hi
 .exact h1.hp.holds x hx
theorem St.alloc {w0:World} {D:List Nat} {H:List Ent} {w:World} {o:Obj} {φ:Option Obj->Prop} (h:St w0 D H w) (hφ:φ (some o)):St w0 D (⟨some w.heap.size,φ⟩::H) (w.alloc o):=by
 have hold:∀b,b<w.heap.size->(w.alloc o).heap[b]?=w.heap[b]?:=λb hb=>Below.heap_alloc w o b hb
 have hnew:(w.alloc o).heap[w.heap.size]?=some o:=by show (w.heap.push o)[_]?=_; simp
 have hsz:(w.alloc o).heap.size=w.heap.size+1:=Array.size_push ..
 refine⟨⟨λe he=>?_,?_,?_⟩,?_,⟨h.keep.os,h.keep.tape,h.keep.output,mf h.keep.size (by rw[hsz]; omega),λb hb hD=>(hold b (nC hb h.keep.size)).trans (h.keep.block b hb hD)⟩⟩
 .rcases kN.1 he with rfl|he
  .show φ ((w.alloc o).heap[w.heap.size]?); rw[hnew]; exact hφ
  .exact Ent.at_congr (λb hb=>hold b (h.hp.lt b (List.mem_filterMap.2 ⟨e,he,hb⟩))) (h.hp.holds e he)
 .show (w.heap.size::Sep.dom H).Nodup
  exact nH.2 ⟨λhm=>absurd (h.hp.lt _ hm) (Nat.lt_irrefl _),h.hp.nodup⟩
 .intro b hb
  have hb':b=w.heap.size\/b∈Sep.dom H:=kN.1 hb
  show b<(w.heap.push o).size
  rw[Array.size_push]
  rcases hb' with rfl|hb'
  .omega
  .have:=h.hp.lt b hb'; omega
 .intro b hb
  have hb':b=w.heap.size\/b∈Sep.dom H:=kN.1 hb
  rcases hb' with rfl|hb'
  .exact .inr h.keep.size
  .exact h.dom b hb'
theorem St.write {w0:World} {D:List Nat} {H:List Ent} {w w':World} {b:Nat} {φ φ':Option Obj->Prop} (h:St w0 D (⟨some b,φ⟩::H) w) (hos:w'.os=w.os) (ht:w'.tape=w.tape) (ho:w'.output=w.output) (hs:w'.heap.size=w.heap.size)
 (hb:∀k,k≠b->w'.heap[k]?=w.heap[k]?) (hφ:φ' w'.heap[b]?):St w0 D (⟨some b,φ'⟩::H) w':=by
 have hnd:b∉Sep.dom H/\(Sep.dom H).Nodup:=nH.1 h.hp.nodup
 refine⟨⟨λe he=>?_,h.hp.nodup,λk hk=>hs▸h.hp.lt k hk⟩,h.dom,⟨hos.trans h.keep.os,ht.trans h.keep.tape,ho.trans h.keep.output,hs▸h.keep.size,λk hk hD=>?_⟩⟩
 .rcases kN.1 he with rfl|he'
  .exact hφ
  .refine Ent.at_congr (λk hk=>hb k ?_) (h.hp.holds e (nG _ he'))
   rintro rfl
   exact hnd.1 (List.mem_filterMap.2 ⟨e,he',hk⟩)
 .refine (hb k ?_).trans (h.keep.block k hk hD)
  rintro rfl
  rcases h.dom k (ns ..) with hd|hd
  .exact hD hd
  .omega
def Con (P:Program) (f:FuncId) (vs:List Value) (E:World->Prop) (H:List Ent) {β:Type} (v:β->Value) (p:β->Prop) (H':β->List Ent):Prop :=
 ∀w,E w->HP H w->Calls P f vs.toArray w (λe w'=>∃b,e=.returned (v b)/\p b/\St w (dom H) (H' b) w')
theorem Con.frame {P:Program} {f:FuncId} {vs:List Value} {E:World->Prop} {H:List Ent} {β:Type} {v:β->Value} {p:β->Prop} {H':β->List Ent} (s:Con P f vs E H v p H') {w0:World} {D:List Nat} {F:List Ent} {w:World}
 (h:St w0 D (H++F) w) (hE:E w):Calls P f vs.toArray w (λe w'=>∃b,e=.returned (v b)/\p b/\St w0 D (H' b++F) w'):=by
 refine (s w hE h.cut.hp).mono ?_
 rintro e w' ⟨b,he,hp,h'⟩
 refine⟨b,he,hp,?_⟩
 have hdom:∀A B:List Ent,Sep.dom (A++B)=Sep.dom A++Sep.dom B:=λA B=>List.filterMap_append
 have hnd:=h.hp.nodup
 rw[hdom,nJ] at hnd
 obtain⟨n1,n2,n3⟩:=hnd
 have hF:∀k∈Sep.dom F,k<w.heap.size/\k∉Sep.dom H:=λk hk=>⟨h.hp.lt k (by rw[hdom]; exact nK _ hk),λhk'=>n3 _ hk' _ hk rfl⟩
 refine⟨⟨λx hx=>?_,?_,λk hk=>?_⟩,λk hk=>?_,h.keep.trans h'.keep (λk hk hlt=>?_)⟩
 .rcases mT.1 hx with hx|hx
  .exact h'.hp.holds x hx
  .refine Ent.at_congr (λk hk=>?_) (h.hp.holds x (nK _ hx))
   have:=hF k (List.mem_filterMap.2 ⟨x,hx,hk⟩)
   exact h'.keep.block k this.1 this.2
 .rw[hdom,nJ]
  refine⟨h'.hp.nodup,n2,λk hk j hj e=>?_⟩
  subst e
  have:=hF k hj
  rcases h'.dom k hk with hd|hd
  .exact this.2 hd
  .omega
 .rw[hdom] at hk
  rcases mT.1 hk with hk|hk
  .exact h'.hp.lt k hk
  .exact nC (hF k hk).1 h'.keep.size
 .rw[hdom] at hk
  rcases mT.1 hk with hk|hk
  .rcases h'.dom k hk with hd|hd
   .exact h.dom k (by rw[hdom]; exact lO _ hd)
   .exact .inr (mf h.keep.size hd)
  .exact h.dom k (by rw[hdom]; exact nK _ hk)
 .rcases h.dom k (by rw[hdom]; exact lO _ hk) with hd|hd
  .exact hd
  .omega
def Ad (b:Nat) (t:TypeId) (cs:List Value):Ent:=⟨some b,λo=>o=some (.cells cs.toArray t (0,0))⟩
theorem DT {b:Nat} {t:TypeId} {cs:List Value} {w:World} (h:(Ad b t cs).at w) {off:Nat} {v:Value} (hv:cs[off]?=some v):w.cell? ⟨b,off,none⟩=some v:=by
 have h':w.heap[b]?=some (.cells cs.toArray t (0,0)):=h
 unfold World.cell?
 simp only[h']
 simpa using hv
theorem Gm {b:Nat} {t:TypeId} {cs:List Value} {w:World} (h:(Ad b t cs).at w) (off:Nat):w.frozen? ⟨b,off,none⟩=false:=by
 have h':w.heap[b]?=some (.cells cs.toArray t (0,0)):=h
 unfold World.frozen?
 simp only[h']
 simp
structure Enc (α:Type) where
 sz:Nat
 f:α->List Value
 len:∀a,(f a).length=sz
 one:∀a u,u∈f a->u.oneCell'=true
 pos:0<sz
def AH (k:IntKind):Enc Int:=⟨1,λz=>[.int k z],λ_=>rfl,λa u h=>by simp at h; subst h; rfl,by decide⟩
def FB:Enc Bool:=⟨1,λz=>[.bool z],λ_=>rfl,λa u h=>by simp at h; subst h; rfl,by decide⟩
section flat
variable {α:Type} (E:Enc α)
def Enc.flat (l:List α):List Value:=l.flatMap E.f
theorem Enc.flat_nil:E.flat []=[]:=rfl
theorem Enc.kM (a:α) (l:List α):E.flat (a::l)=E.f a++E.flat l:=rfl
theorem Enc.kL (l m:List α):E.flat (l++m)=E.flat l++E.flat m:=List.flatMap_append
theorem Enc.kB:∀l:List α,(E.flat l).length=l.length*E.sz
 |[]=>by simp[Enc.flat_nil]
 |a::l=>by rw[E.kM,lp,E.len,Enc.kB l,kQ,lF]; omega
theorem Enc.flat_one (l:List α) (u:Value) (h:u∈E.flat l):u.oneCell'=true:=by
 obtain⟨a,_,hu⟩:=List.mem_flatMap.1 h
 exact E.one a u hu
theorem Enc.flat_get:∀(l:List α) (j k:Nat) (a:α) (u:Value),l[j]?=some a->(E.f a)[k]?=some u->(E.flat l)[j*E.sz+k]?=some u
 |[],j,k,a,u,h,hk=>by simp at h
 |c::l,0,k,a,u,h,hk=>by
  simp at h; subst h
  rw[E.kM,Nat.zero_mul,me,lq (by have:=(lR.1 hk).1; exact this)]
  exact hk
 |c::l,j+1,k,a,u,h,hk=>by
  have h':l[j]?=some a:=by simpa using h
  rw[E.kM,lx (by rw[E.len,lF]; omega),E.len]
  rw[show (j+1)*E.sz+k-E.sz=j*E.sz+k from by rw[lF]; omega]
  exact Enc.flat_get l j k a u h' hk
theorem Enc.flat_take:∀(l:List α) (j:Nat),(E.flat l).take (j*E.sz)=E.flat (l.take j)
 |[],j=>by simp[Enc.flat_nil]
 |c::l,0=>by simp[Enc.flat_nil]
 |c::l,j+1=>by
  rw[E.kM,kX,E.kM,lF,lX,mM,<-E.len c,nL,E.len,Enc.flat_take l j]
theorem Enc.flat_drop:∀(l:List α) (j:Nat),(E.flat l).drop (j*E.sz)=E.flat (l.drop j)
 |[],j=>by simp[Enc.flat_nil]
 |c::l,0=>by simp
 |c::l,j+1=>by
  rw[E.kM,mD,lF,lX,mM,<-E.len c,nM,E.len,Enc.flat_drop l j]
theorem set_mid {β:Type} (p q:List β) (x:β) (k:Nat) (h:k<q.length):(p++q).set (p.length+k) x=p++q.set k x:=by
 rw[m6 _ _ (by omega)]
 congr 2
 omega
theorem Enc.flat_set:∀(l:List α) (j k:Nat) (a:α) (c:α) (u:Value),l[j]?=some a->k<E.sz->(E.f a).set k u=E.f c->(E.flat l).set (j*E.sz+k) u=E.flat (l.set j c)
 |[],j,k,a,c,u,h,hk,hs=>by simp at h
 |d::l,0,k,a,c,u,h,hk,hs=>by
  simp at h; subst h
  rw[E.kM,m8,E.kM,Nat.zero_mul,me,nN _ _ (by rw[E.len]; exact hk),hs]
 |d::l,j+1,k,a,c,u,h,hk,hs=>by
  have h':l[j]?=some a:=by simpa using h
  rw[E.kM,nO,E.kM,m6 _ _ (by rw[E.len,lF]; omega),E.len,
   show (j+1)*E.sz+k-E.sz=j*E.sz+k from by rw[lF]; omega,Enc.flat_set l j k a c u h' hk hs]
end flat
def blk:Value->Nat
 |.slice (some a) _ _=>a.block
 |_=>0
def Fi:Value->Nat
 |.slice (some a) _ _=>a.off
 |_=>0
def vlen:Value->Nat
 |.slice _ n _=>n
 |_=>0
def vcap:Value->Nat
 |.slice _ _ c=>c
 |_=>0
def RdV {α:Type} (w:World) (v:Value) (E:Enc α) (l:List α):Prop :=
 ∃a c,v=.slice a l.length c/\l.length<=c/\(l=[]\/∃b off,a=some ⟨b,off,none⟩/\∀k u,(E.flat l)[k]?=some u->w.cell? ⟨b,off+k,none⟩=some u)
theorem RdV.congr {α:Type} {w w':World} {v:Value} {E:Enc α} {l:List α} (h:RdV w v E l) (hk:l≠[]->w'.heap[blk v]?=w.heap[blk v]?):RdV w' v E l:=by
 obtain⟨a,c,rfl,hc,h⟩:=h
 refine⟨a,c,rfl,hc,?_⟩
 rcases h with rfl|⟨b,off,rfl,h⟩
 .exact .inl rfl
 .by_cases hl:l=[]
  .exact .inl hl
  .exact .inr ⟨b,off,rfl,λk u hu=>by
    rw[<-h k u hu]
    exact World.cell?_of_block (w:=w) (hk hl)⟩
theorem RdV.lt {α:Type} {w:World} {v:Value} {E:Enc α} {l:List α} (h:RdV w v E l) (hl:l≠[]):blk v<w.heap.size:=by
 obtain⟨a,c,rfl,hc,h⟩:=h
 rcases h with h|⟨b,off,rfl,h⟩
 .exact absurd h hl
 .cases l with
  |nil=>exact absurd rfl hl
  |cons x l =>
   have hp:=E.pos
   have:0<(E.flat (x::l)).length:=by rw[E.kB]; simp; exact hp
   have h0:=h 0 _ (kY this)
   unfold World.cell? at h0
   show b<_
   rcases k6 b w.heap.size with hb|hb
   .exact hb
   .simp[mg hb] at h0
theorem RdV.keep {α:Type} {w0 w:World} {D:List Nat} {H:List Ent} {v:Value} {E:Enc α} {l:List α} (h:RdV w0 v E l) (s:St w0 D H w) (hD:blk v∉D):RdV w v E l :=
 h.congr (λhl=>s.keep.block _ (h.lt hl) hD)
theorem RdV.vlen {α:Type} {w:World} {v:Value} {E:Enc α} {l:List α} (h:RdV w v E l):Sep.vlen v=l.length:=by
 obtain⟨a,c,rfl,hc,h⟩:=h; rfl
theorem RdV.cap {α:Type} {w:World} {v:Value} {E:Enc α} {l:List α} (h:RdV w v E l):l.length<=Sep.vcap v:=by
 obtain⟨a,c,rfl,hc,h⟩:=h; exact hc
def ownB:Value->Option Nat
 |.slice (some a) _ c=>if c=0 then none else some a.block
 |_=>none
def Row {α:Type} (v:Value) (t:TypeId) (E:Enc α) (l:List α) (o:Option Obj):Prop :=
 (∃a,v=.slice a 0 0/\l=[]) \/
 ∃b cap pre post,v=.slice (some ⟨b,pre.length,none⟩) l.length cap/\0<cap/\o=some (.cells (pre++E.flat l++post).toArray t (0,0))/\l.length<=cap/\post.length=(cap-l.length)*E.sz
def AA {α:Type} (v:Value) (t:TypeId) (E:Enc α) (l:List α):Ent:=⟨ownB v,Row v t E l⟩
theorem BU {α:Type} {v:Value} {t:TypeId} {E:Enc α} {l:List α} {w:World} (h:(AA v t E l).at w):RdV w v E l:=by
 rcases h with⟨a,rfl,rfl⟩|⟨b,cap,pre,post,rfl,hc,ho,hl,hp⟩
 .exact⟨a,0,rfl,lJ _,.inl rfl⟩
 .refine⟨_,cap,rfl,hl,.inr ⟨b,pre.length,rfl,λk u hu=>?_⟩⟩
  have ho':w.heap[b]?=some (.cells (pre++E.flat l++post).toArray t (0,0)):=by
   have:ownB (.slice (some ⟨b,pre.length,none⟩) l.length cap)=some b:=by simp[ownB]; omega
   simpa [AA,this] using ho
  unfold World.cell?
  simp only[ho']
  have hk:=(lR.1 hu).1
  simp only[Option.isSome_none,ny,nz]
  rw[mL,mj,lx (by omega),lq (by omega)]
  rw[show pre.length+k-pre.length=k from by omega]
  exact hu
theorem St.rd {w0:World} {D:List Nat} {H:List Ent} {w:World} {α:Type} {v:Value} {t:TypeId} {E:Enc α} {l:List α} (h:St w0 D H w) (i:Nat) (hi:H[i]?=some (AA v t E l)):RdV w v E l:=BU (h.at i hi)
theorem EV {α:Type} {b:Nat} {t:TypeId} {cs:List Value} {w:World} (h:(Ad b t cs).at w) (E:Enc α) (l:List α) (off cap:Nat) (pre post:List Value) (hcs:cs=pre++E.flat l++post) (hoff:off=pre.length) (hc:l.length<=cap):RdV w (.slice (some ⟨b,off,none⟩) l.length cap) E l:=by
 subst hcs; subst hoff
 refine⟨_,cap,rfl,hc,.inr ⟨b,pre.length,rfl,λk u hu=>DT h ?_⟩⟩
 have hk:=(lR.1 hu).1
 rw[mj,lx (by omega),lq (by omega),show pre.length+k-pre.length=k from by omega]
 exact hu
theorem AY {α:Type} {b:Nat} {t:TypeId} {cs:List Value} {w:World} {n:Nat} (h:(Ad b t cs).at w) (E:Enc α) (l:List α) (hcs:cs=E.flat l) (hn:l.length=n):RdV w (.slice (some ⟨b,0,none⟩) n n) E l:=by
 subst hn
 exact EV h E l 0 l.length [] [] (by simpa using hcs) rfl (lJ _)
section
variable {P:Program} {n:Nat} {L:Env} {X:World->Prop} {o:Oper} {Q:Exit->Act->World->Prop} {K:Act->World->Prop}
theorem EOp.val {β:Type} (v:β->Value) (p:β->Prop) (X':β->World->Prop) {d:Nat} (hd:o.dst=some d) (hn:d.blt n)
 (hr:∀a w,Know n L a->X w->∃b w',(execOp a.eval o).run P w=.ok (.value (v b)) w'/\p b/\X' b w') (h:∀b,p b->Pre n ((d,v b)::L) (X' b) K):EOp P n L X o Q K:=λa w k x=>by
 obtain⟨b,w',hrun,hp,hx⟩:=hr a w k x
 show o.upon P a K Q ((execOp a.eval o).run P w)
 rw[hrun]
 show K (a.put o.dst (v b)) w'
 rw[hd]
 exact h b hp _ _ (k.put _ hn) hx
theorem EOp.val0 {β:Type} (v:β->Value) (p:β->Prop) (X':β->World->Prop) (hd:o.dst=none)
 (hr:∀a w,Know n L a->X w->∃b w',(execOp a.eval o).run P w=.ok (.value (v b)) w'/\p b/\X' b w') (h:∀b,p b->Pre n L (X' b) K):EOp P n L X o Q K:=λa w k x=>by
 obtain⟨b,w',hrun,hp,hx⟩:=hr a w k x
 show o.upon P a K Q ((execOp a.eval o).run P w)
 rw[hrun]
 show K (a.put o.dst (v b)) w'
 rw[hd]
 exact h b hp _ _ k hx
theorem EOp.skip (X':World->Prop) (hd:o.dst=none) (hr:∀a w,Know n L a->X w->∃w',(execOp a.eval o).run P w=.ok .skip w'/\X' w') (h:Pre n L X' K):EOp P n L X o Q K:=λa w k x=>by
 obtain⟨w',hrun,hx⟩:=hr a w k x
 show o.upon P a K Q ((execOp a.eval o).run P w)
 rw[hrun]
 show K (a.put o.dst undef) w'
 rw[hd]
 exact h _ _ k hx
def evs (L:Env):List Operand->Option (List Value)
 |[]=>some []
 |x::xs=>match ev L x,evs L xs with
  |some v,some vs=>some (v::vs)
  |_,_=>none
theorem Know.evals {a:Act} (k:Know n L a):∀{xs:List Operand} {vs:List Value},evs L xs=some vs->xs.map a.eval=vs
 |[],vs,h=>by cases h; rfl
 |x::xs,vs,h=>by
  simp only[evs] at h
  cases h1:ev L x with
  |none=>rw[h1] at h; cases h
  |some v =>
   cases h2:evs L xs with
   |none=>rw[h1,h2] at h; cases h
   |some us=>rw[h1,h2] at h; cases h; rw[ma,k.eval h1,k.evals h2]
def evParts (L:Env):List (Nat×Operand)->Option (List (Nat×Value))
 |[]=>some []
 |(i,x)::xs=>match ev L x,evParts L xs with
  |some v,some vs=>some ((i,v)::vs)
  |_,_=>none
theorem Know.evParts {a:Act} (k:Know n L a):∀{xs:List (Nat×Operand)} {vs:List (Nat×Value)},Sep.evParts L xs=some vs->xs.map (λ(i,x)=>(i,a.eval x))=vs
 |[],vs,h=>by cases h; rfl
 |(i,x)::xs,vs,h=>by
  simp only[Sep.evParts] at h
  cases h1:ev L x with
  |none=>rw[h1] at h; cases h
  |some v =>
   cases h2:Sep.evParts L xs with
   |none=>rw[h1,h2] at h; cases h
   |some us=>rw[h1,h2] at h; cases h; rw[ma,k.evParts h2]; simp only[k.eval h1]
theorem DO {β:Type} {v:β->Value} {p:β->Prop} {X':β->World->Prop} {f:FuncId} {xs:List Operand} {ts:Array TypeId} {d:Nat} {vs:List Value} (ho:o.op=.call ⟨.value (.func f),xs.toArray,ts⟩) (hd:o.dst=some d) (hn:d.blt n)
 (hc:∀us w,(callFunc f us).run P w=.ok (.enter f us) w) (hv:evs L xs=some vs)
 (hs:∀w,X w->Calls P f vs.toArray w (λe w'=>∃b,e=.returned (v b)/\p b/\X' b w')) (h:∀b,p b->Pre n ((d,v b)::L) (X' b) K):EOp P n L X o Q K:=λa w k x=>by
 have hargs:(xs.toArray.map a.eval)=vs.toArray:=by rw[l8,k.evals hv]
 have hrun:(execOp a.eval o).run P w=.ok (.enter f vs.toArray) w:=by
  have h0:∀us:Array Value,(callFunc f (#[]++us++#[])).run P w=.ok (.enter f us) w:=λus=>by simpa using hc us w
  simp only[execOp,ho,resolve,Act.eval,Deferred.ofValue,l5,l6,l7,invoke,hargs,h0]
 show o.upon P a K Q ((execOp a.eval o).run P w)
 rw[hrun]
 show Calls P f vs.toArray w _
 refine (hs w x).mono ?_
 rintro e w' ⟨b,rfl,hp,hx⟩
 show K (a.put o.dst (v b)) w'
 rw[hd]
 exact h b hp _ _ (k.put _ hn) hx
theorem F1 {β:Type} {v:β->Value} {p:β->Prop} {X':β->World->Prop} {g:Operand} {f:FuncId} {xs:List Operand} {ts:Array TypeId} {d:Nat} {vs us:List Value} (ho:o.op=.call ⟨.value g,xs.toArray,ts⟩) (hd:o.dst=some d) (hn:d.blt n)
 (hg:ev L g=some (.func (.func f) #[] us.toArray)) (hc:∀us w,(callFunc f us).run P w=.ok (.enter f us) w) (hv:evs L xs=some vs)
 (hs:∀w,X w->Calls P f (vs++us).toArray w (λe w'=>∃b,e=.returned (v b)/\p b/\X' b w')) (h:∀b,p b->Pre n ((d,v b)::L) (X' b) K):EOp P n L X o Q K:=λa w k x=>by
 have hargs:(xs.toArray.map a.eval)=vs.toArray:=by rw[l8,k.evals hv]
 have hrun:(execOp a.eval o).run P w=.ok (.enter f (vs++us).toArray) w:=by
  have h0:(callFunc f (#[]++vs.toArray++us.toArray)).run P w=.ok (.enter f (vs++us).toArray) w:=by simpa using hc (vs++us).toArray w
  simp only[execOp,ho,resolve,k.eval hg,Deferred.ofValue,l5,l6,l7,invoke,hargs,h0]
 show o.upon P a K Q ((execOp a.eval o).run P w)
 rw[hrun]
 show Calls P f (vs++us).toArray w _
 refine (hs w x).mono ?_
 rintro e w' ⟨b,rfl,hp,hx⟩
 show K (a.put o.dst (v b)) w'
 rw[hd]
 exact h b hp _ _ (k.put _ hn) hx
variable {w0:World} {D:List Nat} {H:List Ent}
theorem DP (e:TypeId) (cs:Array Value) (w:World):(newRow e cs).run P w=.ok ⟨w.heap.size,0,none⟩ (w.alloc (.cells cs e)):=by
 simp[newRow]
theorem Au {t:TypeId} {z:Value} {d:Nat} (ho:o.op=.alloc t) (hd:o.dst=some d) (hn:d.blt n) (hz:∀w,(zeroValue t).run P w=.ok z w)
 (h:∀b,Pre n ((d,.pointer (some ⟨b,0,none⟩))::L) (St w0 D (Ad b t z.cells.toList::H)) K):EOp P n L (St w0 D H) o Q K :=
 EOp.val (β:=Nat) (λb=>.pointer (some ⟨b,0,none⟩)) (λ_=>True) (λb=>St w0 D (Ad b t z.cells.toList::H)) hd hn (λa w k x =>
  ⟨w.heap.size,_,by simp only[execOp,ho,Instr.alloc,l5,hz,l7,newVar,DP,l6],trivial,x.alloc rfl⟩) (λb _=>h b)
theorem AT {t:TypeId} {y:Operand} {v:Value} {d:Nat} (ho:o.op=.box t y) (hd:o.dst=some d) (hn:d.blt n) (hy:ev L y=some v)
 (h:∀b,Pre n ((d,.pointer (some ⟨b,0,none⟩))::L) (St w0 D (Ad b t v.cells.toList::H)) K):EOp P n L (St w0 D H) o Q K :=
 EOp.val (β:=Nat) (λb=>.pointer (some ⟨b,0,none⟩)) (λ_=>True) (λb=>St w0 D (Ad b t v.cells.toList::H)) hd hn (λa w k x =>
  ⟨w.heap.size,_,by simp only[execOp,ho,Instr.box,k.eval hy,l5,l7,newVar,DP,l6],trivial,x.alloc rfl⟩) (λb _=>h b)
theorem Nr {t e:TypeId} {m sz:Nat} {ps:List (Nat×Operand)} {vs:List (Nat×Value)} {zs cs:Array Value} {d:Nat} (ho:o.op=.buildSlice t m ps.toArray) (hd:o.dst=some d) (hn:d.blt n) (ht:P.underlying t=some (.slice e))
 (hs:∀w,(sizeOf e).run P w=.ok sz w) (hsm:(m*sz).ble 16777216) (hz:∀w,(if m*sz=0 then pure #[] else do pure (<-zeroValue e).cells:Sem (Array Value)).run P w=.ok zs w) (hv:evParts L ps=some vs)
 (hf:Instr.fill (λi=>some (i*sz,sz)) ((Array.range (m*sz)).map (zs[·%zs.size]!)) vs=some cs)
 (h:∀b,Pre n ((d,.slice (some ⟨b,0,none⟩) m m)::L) (St w0 D (Ad b e cs.toList::H)) K):EOp P n L (St w0 D H) o Q K :=
 EOp.val (β:=Nat) (λb=>.slice (some ⟨b,0,none⟩) m m) (λ_=>True) (λb=>St w0 D (Ad b e cs.toList::H)) hd hn (λa w k x =>
  ⟨w.heap.size,w.alloc (.cells cs e),by
   have hle:¬(m*sz>2^24):=by have:=ng hsm; omega
   have hp:(ps.toArray.map λ(i,x)=>(i,a.eval x))=vs.toArray:=by rw[l8,k.evParts hv]
   have hz':=hz w
   have hb:(Instr.buildSlice t m vs.toArray).run P w=.ok (.slice (some ⟨w.heap.size,0,none⟩) m m) (w.alloc (.cells cs e)):=by
    unfold Instr.buildSlice
    simp only[l5,AW ht,hs,l7,lz hle]
    by_cases h0:m*sz=0
    .rw[lu h0] at hz' ⊢
     simp only[l6,Result.ok.injEq,and_true] at hz'
     subst hz'
     simp only[l5,l6,l7]
     rw[hf]
     simp only[l5,DP,l7,l6]
    .rw[lz h0] at hz' ⊢
     simp only[l5,l6,l7] at hz' ⊢
     cases hzz:(zeroValue e).run P w with
     |halt a w1=>rw[hzz] at hz'; cases hz'
     |ok zv w1 =>
      rw[hzz] at hz'
      simp only[l7,Result.ok.injEq] at hz' ⊢
      obtain⟨rfl,rfl⟩:=hz'
      rw[hf]
      simp only[l5,DP,l7,l6]
   simp only[execOp,ho,hp,l5,hb,l7,l6],trivial,x.alloc (by simp)⟩) (λb _=>h b)
def Nt:Nat->List Operand->List (Nat×Operand)
 |_,[]=>[]
 |i,x::xs=>(i,x)::Nt (i+1) xs
def H5:Nat->List Value->List (Nat×Value)
 |_,[]=>[]
 |i,x::xs=>(i,x)::H5 (i+1) xs
theorem Jt:∀(xs:List Operand) (i:Nat) (vs:List Value),evs L xs=some vs->evParts L (Nt i xs)=some (H5 i vs)
 |[],i,vs,h=>by cases h; rfl
 |x::xs,i,vs,h=>by
  simp only[evs] at h
  cases h1:ev L x with
  |none=>rw[h1] at h; cases h
  |some v =>
   cases h2:evs L xs with
   |none=>rw[h1,h2] at h; cases h
   |some us=>rw[h1,h2] at h; cases h; simp only[Nt,evParts,H5,h1,Jt xs (i+1) us h2]
def cellsOf (vs:List Value):List Value:=vs.flatMap (λv=>v.cells.toList)
theorem OP (off:Nat):∀(vs:List Value) (k:Nat) (arr:Array Value),off+k+vs.length<=arr.size ->
 ((vs.zipIdx k).foldl (λcs (x:Value×Nat)=>cs.setIfInBounds (off+x.2) x.1) arr).toList=arr.toList.take (off+k)++vs++arr.toList.drop (off+k+vs.length)
 |[],k,arr,h=>by simp
 |v::vs,k,arr,h=>by
  simp only[kQ] at h
  rw[List.zipIdx_cons,List.foldl_cons,OP off vs (k+1) _ (by simp; omega)]
  have hlt:off+k<arr.toList.length:=by rw[mX]; omega
  rw[Array.toList_setIfInBounds,List.drop_set_of_lt (by omega),show off+(k+1)=off+k+1 from rfl,m7 (by simp; omega),nP,List.set_eq_of_length_le (by simp; omega)]
  simp only[List.getElem_set_self,mj,kP,mw,kQ]
  rw[show off+k+1+vs.length=off+k+(vs.length+1) from by omega]
theorem OQ (sz:Nat):∀(vs:List Value) (i:Nat) (arr:Array Value),(vs.all (λv=>v.cells.size == sz))=true->arr.size=(i+vs.length)*sz ->
 ∃cs,Instr.fill (λi=>some (i*sz,sz)) arr (H5 i vs)=some cs/\cs.toList=arr.toList.take (i*sz)++cellsOf vs
 |[],i,arr,h,ha=>⟨arr,rfl,by simp[cellsOf]; rw[lI (by simp[ha])]⟩
 |v::vs,i,arr,h,ha=>by
  simp only[List.all_cons,mz,nm] at h
  simp only[kQ] at ha
  have hmul:(i+(vs.length+1))*sz=i*sz+sz+vs.length*sz:=by rw[lF,lF,lX]; omega
  have hl:v.cells.toList.length=sz:=by rw[mX,h.1]
  have hf:=OP (i*sz) v.cells.toList 0 arr (by rw[hl]; omega)
  have hz:v.cells.zipIdx.foldl (λcs (x:Value×Nat)=>cs.setIfInBounds (i*sz+x.2) x.1) arr=(v.cells.toList.zipIdx 0).foldl (λcs (x:Value×Nat)=>cs.setIfInBounds (i*sz+x.2) x.1) arr:=by
   rw[<-Array.foldl_toList,Array.toList_zipIdx]
  obtain⟨cs,h1,h2⟩:=OQ sz vs (i+1) (v.cells.zipIdx.foldl (λcs (x:Value×Nat)=>cs.setIfInBounds (i*sz+x.2) x.1) arr) h.2 (by
   rw[hz,<-mX,hf]; simp only[lp,k9,lk,mX,hl]; rw[show i+1+vs.length=i+(vs.length+1) from by omega,hmul]; omega)
  refine⟨cs,?_,?_⟩
  .simp only[H5,Instr.fill]
   rw[lz (by simp[h.1]; omega)]
   exact h1
  .rw[h2,hz,hf,hl,nB]
   have e1:(i+1)*sz=(arr.toList.take (i*sz)++v.cells.toList).length:=by
    rw[lp,k9,hl,mX,lF,lX]; omega
   rw[e1]
   simp only[nB]
   rw[nQ]
   simp[cellsOf]
theorem Ax {t e:TypeId} {m sz:Nat} {vs:List Value} {z:Value} {d:Nat} (xs:List Operand) (ho:o.op=.buildSlice t m (Nt 0 xs).toArray) (hd:o.dst=some d) (hn:d.blt n) (hv:evs L xs=some vs) (hm:vs.length=m) (ht:P.underlying t=some (.slice e))
 (hs:∀w,(sizeOf e).run P w=.ok sz w) (hsm:(m*sz).ble 16777216) (hz:∀w,(zeroValue e).run P w=.ok z w) (hc:(vs.all (λv=>v.cells.size == sz))=true)
 (h:∀b,Pre n ((d,.slice (some ⟨b,0,none⟩) m m)::L) (St w0 D (Ad b e (cellsOf vs)::H)) K):EOp P n L (St w0 D H) o Q K:=by
 obtain⟨cs,h1,h2⟩:=OQ sz vs 0 ((Array.range (m*sz)).map ((if m*sz=0 then #[] else z.cells)[·%(if m*sz=0 then #[] else z.cells).size]!)) hc (by simp[hm])
 rw[Nat.zero_mul,List.take_zero,mw] at h2
 refine Nr (sz:=sz) (zs:=if m*sz=0 then #[] else z.cells) ho hd hn ht hs hsm (λw=>?_) (Jt xs 0 vs hv) h1 (λb=>by rw[h2]; exact h b)
 split
 .rfl
 .simp[hz]
theorem BR {α:Type} (E:Enc α) (a0:α) (m:Nat) {t e:TypeId} {i:TypeInfo} {x y:Operand} {z:Value} {d:Nat} {j k:IntKind} {p q:Int} (ho:o.op=.makeSlice t x y) (hd:o.dst=some d) (hn:d.blt n) (ht:P.underlying t=some (.slice e))
 (hi:P.info? e=some i) (hs:i.size=E.sz) (hz:i.zero=some z) (hzc:z.cells.toList=E.f a0) (hx:ev L x=some (.int j p)) (hy:ev L y=some (.int k q)) (hp:p=(m:Int)) (hq:q=(m:Int)) (hm:m*i.bytes<=281474976710656) (hm2:m<=9223372036854775807)
 (h:∀v,Pre n ((d,v)::L) (St w0 D (AA v e E (List.replicate m a0)::H)) K):EOp P n L (St w0 D H) o Q K :=
 EOp.val (β:=Value) (λv=>v) (λ_=>True) (λv=>St w0 D (AA v e E (List.replicate m a0)::H)) hd hn (λa w kn x=>by
  subst hp; subst hq
  have hflat:∀m:Nat,((Array.range (m*E.sz)).map (z.cells[·%z.cells.size]!)).toList=E.flat (List.replicate m a0):=λm=>by
   have hzl:z.cells.size=E.sz:=by rw[<-mX,hzc,E.len]
   refine lY (λc=>?_)
   by_cases hc:c<m*E.sz
   .have hmod:c%E.sz<E.sz:=lM _ E.pos
    have hdiv:c/E.sz<m:=(Nat.div_lt_iff_lt_mul E.pos).2 hc
    have e1:c=c/E.sz*E.sz+c%E.sz:=by rw[lL]; exact (Nat.div_add_mod c E.sz).symm
    have hg:=E.flat_get (List.replicate m a0) (c/E.sz) (c%E.sz) a0 _ (by simp[hdiv]) (kY (by rw[E.len]; exact hmod))
    rw[<-e1] at hg
    rw[hg]
    have h2:z.cells[c%z.cells.size]! = (E.f a0)[c%E.sz]'(by rw[E.len]; exact hmod):=by
     rw[getElem!_pos z.cells (c%z.cells.size) (by rw[hzl]; exact hmod)]
     have:z.cells.toList[c%z.cells.size]'(by rw[mX,hzl]; exact hmod)=(E.f a0)[c%E.sz]'(by rw[E.len]; exact hmod):=by simp only[hzc,hzl]
     simpa using this
    rw[<-h2]
    simp[hc]
   .rw[k8 (by simp; omega),k8 (by rw[E.kB]; simp; omega)]
  have hw1:IntKind.i64.wrap (m:Int)=(m:Int):=Ch (by omega)
  have hzn:∀w,(if m*E.sz=0 then pure #[] else do pure (<-zeroValue e).cells:Sem (Array Value)).run P w=.ok (if m*E.sz=0 then #[] else z.cells) w:=λw=>by
   split<;>simp[zeroValue,typeInfo,hi,hz]
  have hrun:(Instr.makeSlice t (.int j (m:Int)) (.int k (m:Int))).run P w=.ok (.slice (some ⟨w.heap.size,0,none⟩) m m) (w.alloc (.cells ((Array.range (m*E.sz)).map (z.cells[·%z.cells.size]!)) e)):=by
   have h1:¬((m:Int)<0):=by omega
   have h2:¬((i.bytes:Int)*(m:Int)>2^48):=by
    have h4:i.bytes*m<=281474976710656:=by rw[lL]; exact hm
    have h5:((i.bytes*m:Nat):Int)<=281474976710656:=by omega
    rw[nR] at h5
    omega
   have h3:¬((m:Int)>(m:Int)):=by omega
   have hzv:(zeroValue e).run P w=.ok z w:=by simp[zeroValue,typeInfo,hi,hz]
   unfold Instr.makeSlice
   simp only[l5,AW ht,l7,asInt,asIntOf,l6,Sem.run_map,typeInfo,run_program,hi,hw1]
   simp only[mS,h1,h2,h3,decide_false,Bool.or_self,ny,nz,l5,run_askRoom,l7,sizeOf,typeInfo,run_program,hi,l6,Sem.run_map,hs,mV]
   by_cases h0:m*E.sz=0
   .have hr0:∀f:Nat->Value,(Array.range 0).map f=#[]:=λf=>by simp
    simp[h0,DP,hr0]
   .simp[h0,hzv,DP]
  refine⟨.slice (some ⟨w.heap.size,0,none⟩) m m,w.alloc (.cells ((Array.range (m*E.sz)).map (z.cells[·%z.cells.size]!)) e),by simp only[execOp,ho,kn.eval hx,kn.eval hy,l5,hrun,l7,l6],trivial,?_⟩
  by_cases h0:m=0
  .subst h0
   exact (x.alloc (φ:=λ_=>True) trivial).free rfl (.inl ⟨_,rfl,rfl⟩)
  .have hb:ownB (.slice (some ⟨w.heap.size,0,none⟩) m m)=some w.heap.size:=by simp[ownB,h0]
   have h1:=x.alloc (φ:=Row (.slice (some ⟨w.heap.size,0,none⟩) m m) e E (List.replicate m a0)) (o:=.cells ((Array.range (m*E.sz)).map (z.cells[·%z.cells.size]!)) e) (.inr ⟨w.heap.size,m,[],[],by simp,by omega,by
    rw[<-hflat m,mw,nS,Array.toArray_toList],by simp,by simp⟩)
   rw[<-hb] at h1
   exact h1) (λv _=>h v)
theorem AP {t:TypeId} {ps:List (Nat×Operand)} {pv:List (Nat×Value)} (vs:List Value) (ho:o.op=.build t ps.toArray) (hv:evParts L ps=some pv) (hr:∀w,(Instr.build t pv.toArray).run P w=.ok (.agg vs.toArray) w):QOp P n L X o (.agg vs.toArray) :=
 QOp.mk (λa=>Instr.build t (ps.toArray.map λ(i,x)=>(i,a.eval x))) (λa=>by simp[execOp,ho]) (λa w hk _=>by
  have hp:(ps.toArray.map λ(i,x)=>(i,a.eval x))=pv.toArray:=by rw[l8,hk.evParts hv]
  rw[hp]; exact hr w)
theorem LY {b off:Nat} {t:TypeId} {cs:List Value} {w:World} (h:w.heap[b]?=some (.cells cs.toArray t (0,0))) (v:Value):(w.setCell ⟨b,off,none⟩ v).heap[b]?=some (.cells (cs.set off v).toArray t (0,0)):=by
 simp only[World.setCell,Array.getElem?_modify,mA]
 rw[h]
 simp
theorem Hq {b off:Nat} {t:TypeId} {cs:List Value} {w:World} {v:Value} (h:St w0 D (Ad b t cs::H) w) (hlt:off<cs.length) (hv:v.oneCell') :
 ∃w',(store ⟨b,off,none⟩ v).run P w=.ok () w'/\St w0 D (Ad b t (cs.set off v)::H) w':=by
 have hat:(Ad b t cs).at w:=h.at 0 rfl
 refine⟨w.setCell ⟨b,off,none⟩ v,?_,?_⟩
 .rw[run_store _ _ _ _ _ hv,DT hat (kY hlt),Gm hat]
  rfl
 .exact h.write rfl rfl rfl (by simp[World.setCell]) (λk hk=>Below.heap_setCell _ _ _ _ hk) (LY hat v)
theorem AG {t T:TypeId} {x y:Operand} {b off:Nat} {cs:List Value} {v:Value} (ho:o.op=.store t x y) (hd:o.dst=none) (hs:∀w,(sizeOf t).run P w=.ok 1 w) (hx:ev L x=some (.pointer (some ⟨b,off,none⟩))) (hy:ev L y=some v) (hv:v.oneCell')
 (hlt:off<cs.length) (h:Pre n L (St w0 D (Ad b T (cs.set off v)::H)) K):EOp P n L (St w0 D (Ad b T cs::H)) o Q K :=
 EOp.skip _ hd (λa w k hX=>by
  obtain⟨w',hr,h'⟩:=Hq (P:=P) hX hlt hv
  have hc:v.cells=#[v]:=by cases v<;>first|rfl|(cases hv; done)
  refine⟨w',?_,h'⟩
  simp[execOp,ho,k.eval hx,k.eval hy,Instr.storeAt,Instr.sureAddr,storeVar,hs,hc,storeCells,BJ,hr]) h
def splice (cs:List Value) (off:Nat):List Value->List Value
 |[]=>cs
 |v::vs=>splice (cs.set off v) (off+1) vs
theorem splice_eq:∀(vs cs:List Value) (off:Nat),off+vs.length<=cs.length->splice cs off vs=cs.take off++vs++cs.drop (off+vs.length)
 |[],cs,off,h=>by simp[splice]
 |v::vs,cs,off,h=>by
  simp only[kQ] at h
  have hlt:off<cs.length:=by omega
  rw[splice,splice_eq vs _ _ (by simp; omega)]
  rw[nP,List.drop_set_of_lt (by omega),nT,kY hlt,m6 _ _ (by simp; omega)]
  simp only[k9,Option.toList_some]
  rw[show off-min off cs.length=0 from by omega]
  simp only[m8,mj,kP,mw,kQ]
  rw[show off+1+vs.length=off+(vs.length+1) from by omega]
theorem Hr:∀(vs cs:List Value) (off:Nat),(splice cs off vs).length=cs.length
 |[],cs,off=>rfl
 |v::vs,cs,off=>by rw[splice,Hr vs,nU]
theorem B6 {b off:Nat} {t:TypeId}:∀(vs cs:List Value) (i:Nat) {w:World},St w0 D (Ad b t cs::H) w->off+i+vs.length<=cs.length->(∀v∈vs,v.oneCell'=true) ->
 ∃w',(storeCells ⟨b,off,none⟩ vs i).run P w=.ok () w'/\St w0 D (Ad b t (splice cs (off+i) vs)::H) w'
 |[],cs,i,w,h,hl,h1=>⟨w,rfl,h⟩
 |v::vs,cs,i,w,h,hl,h1=>by
  simp only[kQ] at hl
  obtain⟨w1,hr1,h'1⟩:=Hq (P:=P) h (off:=off+i) (by omega) (h1 v (ns ..))
  obtain⟨w2,hr2,h'2⟩:=B6 (b:=b) (off:=off) vs _ (i+1) h'1 (by simp; omega) (λu hu=>h1 u (nG _ hu))
  refine⟨w2,?_,h'2⟩
  simp only[storeCells,BJ,l5,hr1,l7,hr2]
theorem Az {t T:TypeId} {x y:Operand} {b off sz:Nat} {cs vs:List Value} (ho:o.op=.store t x y) (hd:o.dst=none) (hs:∀w,(sizeOf t).run P w=.ok sz w) (hx:ev L x=some (.pointer (some ⟨b,off,none⟩))) (hy:ev L y=some (.agg vs.toArray)) (hsz:vs.length=sz) (hv:∀v∈vs,v.oneCell'=true)
 (hlt:off+vs.length<=cs.length) (h:Pre n L (St w0 D (Ad b T (splice cs off vs)::H)) K):EOp P n L (St w0 D (Ad b T cs::H)) o Q K :=
 EOp.skip _ hd (λa w k hX=>by
  obtain⟨w',hr,h'⟩:=B6 (P:=P) vs cs 0 hX (by simpa using hlt) hv
  refine⟨w',?_,h'⟩
  simp[execOp,ho,k.eval hx,k.eval hy,Instr.storeAt,Instr.sureAddr,storeVar,hs,Value.cells,hsz,hr]) h
theorem Gn {α:Type} {v:Value} {e:TypeId} {E:Enc α} {l:List α} {w:World} (h:St w0 D (AA v e E l::H) w) (hl:0<l.length) :
 ∃b cap pre post,v=.slice (some ⟨b,pre.length,none⟩) l.length cap/\l.length<=cap/\post.length=(cap-l.length)*E.sz/\St w0 D (Ad b e (pre++E.flat l++post)::H) w:=by
 have hat:Row v e E l ((ownB v).bind (w.heap[·]?)):=h.at 0 rfl
 rcases hat with⟨a,rfl,rfl⟩|⟨b,cap,pre,post,rfl,hc,ho,hlc,hp⟩
 .cases hl
 .refine⟨b,cap,pre,post,rfl,hlc,hp,h.head ?_ (λ_=>?_)⟩
  .simp[Ad,AA,ownB]; omega
  .have:ownB (.slice (some ⟨b,pre.length,none⟩) l.length cap)=some b:=by simp[ownB]; omega
   rw[this] at ho
   exact ho
theorem CW {α:Type} {b cap:Nat} {e:TypeId} {E:Enc α} {l:List α} {pre post:List Value} {w:World} (h:St w0 D (Ad b e (pre++E.flat l++post)::H) w) (hc:0<cap) (hl:l.length<=cap) (hp:post.length=(cap-l.length)*E.sz) :
 St w0 D (AA (.slice (some ⟨b,pre.length,none⟩) l.length cap) e E l::H) w:=by
 have hb:ownB (.slice (some ⟨b,pre.length,none⟩) l.length cap)=some b:=by simp[ownB]; omega
 refine h.head hb (λhat=>.inr ⟨b,cap,pre,post,rfl,hc,?_,hl,hp⟩)
 have hat':w.heap[b]?=some (.cells (pre++E.flat l++post).toArray e (0,0)):=hat
 simp only[AA,hb]
 exact hat'
theorem Ct {α:Type} {E:Enc α} {l:List α} {t e:TypeId} {x y:Operand} {v u:Value} {off:Nat} (j k:Nat) (c:α) {a:α} (ho:o.op=.store t x y) (hd:o.dst=none) (hs:∀w,(sizeOf t).run P w=.ok 1 w) (hx:ev L x=some (.pointer (some ⟨blk v,off,none⟩))) (hoff:off=Fi v+j*E.sz+k) (hy:ev L y=some u)
 (ha:l[j]?=some a) (hk:k<E.sz) (hc:(E.f a).set k u=E.f c) (h:Pre n L (St w0 D (AA v e E (l.set j c)::H)) K):EOp P n L (St w0 D (AA v e E l::H)) o Q K :=
 EOp.skip _ hd (λac w kn hX=>by
  have hj:=(lR.1 ha).1
  have hu:u.oneCell'=true:=E.one c u (by rw[<-hc]; exact List.mem_set (by rw[E.len]; exact hk) u)
  obtain⟨b,cap,pre,post,rfl,hlc,hp,h1⟩:=Gn hX (by omega)
  have hlen:=E.kB l
  have hmul:(j+1)*E.sz<=l.length*E.sz:=lW _ (by omega)
  rw[lF,lX] at hmul
  obtain⟨w',hr,h'⟩:=Hq (P:=P) h1 (off:=off) (by subst hoff; simp only[Fi,lp,hlen]; omega) hu
  have I8:(pre++E.flat l++post).set off u=pre++E.flat (l.set j c)++post:=by
   subst hoff
   simp only[Fi]
   rw[show pre.length+j*E.sz+k=pre.length+(j*E.sz+k) from by omega,mj,set_mid _ _ _ _ (by rw[lp,hlen]; omega),nN _ _ (by rw[hlen]; omega),E.flat_set l j k a c u ha hk hc,mj]
  rw[I8] at h'
  have hc2:u.cells=#[u]:=by cases u<;>first|rfl|(cases hu; done)
  refine⟨w',by simp[execOp,ho,kn.eval hx,kn.eval hy,Instr.storeAt,Instr.sureAddr,storeVar,hs,hc2,storeCells,BJ,blk]; simp[hr],?_⟩
  have:=CW (cap:=cap) h' (by omega) (by simpa using hlc) (by simpa using hp)
  simpa using this) h
theorem Ex {α:Type} {E:Enc α} {l:List α} {t e:TypeId} {x y:Operand} {v:Value} {off:Nat} (j:Nat) (c:α) {us:List Value} (ho:o.op=.store t x y) (hd:o.dst=none) (hs:∀w,(sizeOf t).run P w=.ok E.sz w) (hx:ev L x=some (.pointer (some ⟨blk v,off,none⟩))) (hoff:off=Fi v+j*E.sz) (hy:ev L y=some (.agg us.toArray))
 (hc:us=E.f c) (hj:j<l.length) (h:Pre n L (St w0 D (AA v e E (l.set j c)::H)) K):EOp P n L (St w0 D (AA v e E l::H)) o Q K :=
 EOp.skip _ hd (λac w kn hX=>by
  subst hc
  obtain⟨b,cap,pre,post,rfl,hlc,hp,h1⟩:=Gn hX (by omega)
  have hlen:=E.kB l
  have hmul:(j+1)*E.sz<=l.length*E.sz:=lW _ (by omega)
  rw[lF,lX] at hmul
  have hfit:off+0+(E.f c).length<=(pre++E.flat l++post).length:=by subst hoff; simp only[Fi,lp,hlen,E.len]; omega
  obtain⟨w',hr,h'⟩:=B6 (P:=P) (off:=off) (E.f c) _ 0 h1 hfit (E.one c)
  have I8:splice (pre++E.flat l++post) (off+0) (E.f c)=pre++E.flat (l.set j c)++post:=by
   rw[splice_eq _ _ _ (by simpa using hfit)]
   subst hoff
   simp only[Fi,nB,E.len]
   have e1:l.set j c=l.take j++[c]++l.drop (j+1):=by
    rw[nV]; simp[hj]
   rw[e1,E.kL,E.kL,<-E.flat_take,<-E.flat_drop,lF,lX,E.kM,E.flat_nil,nS]
   have t1:(pre++E.flat l++post).take (pre.length+j*E.sz)=pre++(E.flat l).take (j*E.sz):=by
    rw[mj,nL,nX (by rw[hlen]; omega)]
   have t2:(pre++E.flat l++post).drop (pre.length+j*E.sz+E.sz)=(E.flat l).drop (j*E.sz+E.sz)++post:=by
    rw[mj,mq,nM,nY (by rw[hlen]; omega)]
   rw[t1,t2]
   simp only[mj]
  rw[I8] at h'
  refine⟨w',by simp[execOp,ho,kn.eval hx,kn.eval hy,Instr.storeAt,Instr.sureAddr,storeVar,hs,Value.cells,E.len,blk]; simp[hr],?_⟩
  have:=CW (cap:=cap) h' (by omega) (by simpa using hlc) (by simpa using hp)
  simpa using this) h
end
section
variable {P:Program} {n:Nat} {L:Env} {X:World->Prop} {o:Oper} {Q:Exit->Act->World->Prop} {K:Act->World->Prop} {α:Type} {E:Enc α} {l:List α} {v:Value}
theorem AJ {x:Operand} {t e:TypeId} (ho:o.op=.call ⟨.builtin .len,#[x],#[t]⟩) (ht:P.underlying t=some (.slice e)) (hx:ev L x=some v) (hr:∀w,X w->RdV w v E l):QOp P n L X o (.int .i64 (l.length:Int)):=λa w hk hX=>by
 obtain⟨ad,c,rfl,_⟩:=hr w hX
 exact EL (X:=X) ho ht hx a w hk hX
theorem Ar {t e:TypeId} {x i:Operand} {k:IntKind} {p:Int} (j:Nat) (ho:o.op=.indexAddr t x i) (ht:P.underlying t=some (.slice e)) (hz:∀w,(sizeOf e).run P w=.ok E.sz w)
 (hx:ev L x=some v) (hr:∀w,X w->RdV w v E l) (hi:ev L i=some (.int k p)) (hp:p=(j:Int)) (hj:j<l.length:=by omega):QOp P n L X o (.pointer (some ⟨blk v,Fi v+j*E.sz,none⟩)):=λa w hk hX=>by
 obtain⟨ad,c,rfl,_,h⟩:=hr w hX
 rcases h with rfl|⟨b,off,rfl,h⟩
 .simp at hj
 .exact Gl (X:=X) j ho ht hz hx hi hp hj a w hk hX
theorem JS {w:World} (hr:RdV w v E l) (hn:0<l.length):∃b off c,v=.slice (some ⟨b,off,none⟩) l.length c:=by
 obtain⟨ad,c,rfl,_,h⟩:=hr
 rcases h with rfl|⟨b,off,rfl,h⟩
 .simp at hn
 .exact⟨b,off,c,rfl⟩
theorem Nu {w:World} (hr:RdV w v E l) {j k:Nat} {a:α} {u:Value} (ha:l[j]?=some a) (hv:(E.f a)[k]?=some u):w.cell? ⟨blk v,Fi v+j*E.sz+k,none⟩=some u:=by
 obtain⟨ad,c,rfl,_,h⟩:=hr
 rcases h with rfl|⟨b,off,rfl,h⟩
 .simp at ha
 .have:=h _ _ (E.flat_get l j k a u ha hv)
  rwa[<-mq] at this
theorem AI {t:TypeId} {x:Operand} {u:Value} {off:Nat} (j k:Nat) {a:α} (ho:o.op=.load t x) (hg:∀w,(isAgg t).run P w=.ok false w) (hx:ev L x=some (.pointer (some ⟨blk v,off,none⟩))) (hoff:off=Fi v+j*E.sz+k)
 (hr:∀w,X w->RdV w v E l) (ha:l[j]?=some a) (hv:(E.f a)[k]?=some u):QOp P n L X o u:=by
 subst hoff
 exact Wa ho hg hx (λw hX=>Nu (hr w hX) ha hv)
theorem Ez {t:TypeId} {x:Operand} {off sz:Nat} (j k:Nat) {a:α} (ho:o.op=.load t x) (hg:∀w,(isAgg t).run P w=.ok true w) (hz:∀w,(sizeOf t).run P w=.ok sz w) (hx:ev L x=some (.pointer (some ⟨blk v,off,none⟩))) (hoff:off=Fi v+j*E.sz+k)
 (hr:∀w,X w->RdV w v E l) (ha:l[j]?=some a) (hk:k+sz<=E.sz):QOp P n L X o (.agg (((E.f a).drop k).take sz).toArray):=by
 subst hoff
 refine Mm ho hg hz hx (by rw[k9,lk,E.len]; omega) (λw hX i u hu=>?_)
 have h1:(E.f a)[k+i]?=some u:=by
  rw[lr] at hu
  split at hu
  .rwa[ly] at hu
  .cases hu
 rw[mq]
 exact Nu (hr w hX) ha h1
theorem AV {t:TypeId} {x:Operand} {off:Nat} (j:Nat) {a:α} (ho:o.op=.load t x) (hg:∀w,(isAgg t).run P w=.ok true w) (hz:∀w,(sizeOf t).run P w=.ok E.sz w) (hx:ev L x=some (.pointer (some ⟨blk v,off,none⟩))) (hoff:off=Fi v+j*E.sz)
 (hr:∀w,X w->RdV w v E l) (ha:l[j]?=some a):QOp P n L X o (.agg (E.f a).toArray):=by
 have:=Ez (P:=P) (n:=n) (E:=E) (v:=v) (l:=l) j 0 ho hg hz hx (by rw[nB]; exact hoff) hr ha (by omega)
 rw[lE,lI (by rw[E.len]; exact lJ _)] at this
 exact this
theorem Al {t T:TypeId} {x:Operand} {b off:Nat} {cs:List Value} {u:Value} (ho:o.op=.load t x) (hg:∀w,(isAgg t).run P w=.ok false w) (hx:ev L x=some (.pointer (some ⟨b,off,none⟩))) (hr:∀w,X w->(Ad b T cs).at w) (hv:cs[off]?=some u):QOp P n L X o u :=
 Wa ho hg hx (λw hX=>DT (hr w hX) hv)
theorem AQ {t T:TypeId} {x:Operand} {b off sz:Nat} {cs:List Value} (vs:List Value) (ho:o.op=.load t x) (hg:∀w,(isAgg t).run P w=.ok true w) (hz:∀w,(sizeOf t).run P w=.ok sz w) (hx:ev L x=some (.pointer (some ⟨b,off,none⟩))) (hr:∀w,X w->(Ad b T cs).at w)
 (hv:(cs.drop off).take sz=vs) (hl:vs.length=sz):QOp P n L X o (.agg vs.toArray) :=
 Mm ho hg hz hx hl (λw hX i u hu=>DT (hr w hX) (by
  subst hv
  rw[lr] at hu
  split at hu
  .rwa[ly] at hu
  .cases hu))
def vsl:Value->Nat->Nat->Nat->Value
 |.slice a _ c,sz,lo,hi=>.slice (if c=lo then a else a.map (·.add (lo*sz))) (hi-lo) (c-lo)
 |v,_,_,_=>v
theorem CH {w:World} (h:RdV w v E l) {lo hi:Nat} (h1:lo<=hi) (h2:hi<=l.length):RdV w (vsl v E.sz lo hi) E ((l.take hi).drop lo):=by
 obtain⟨a,c,rfl,hc,h⟩:=h
 have hlen:((l.take hi).drop lo).length=hi-lo:=by rw[lk,k9]; omega
 refine⟨(if c=lo then a else a.map (·.add (lo*E.sz))),c-lo,by rw[vsl,hlen],by omega,?_⟩
 by_cases hd:hi=lo
 .exact .inl (lA (by omega))
 .rcases h with rfl|⟨b,off,rfl,h⟩
  .simp at h2; omega
  .refine .inr ⟨b,off+lo*E.sz,?_,λk u hu=>?_⟩
   .rw[lz (by omega)]; simp[BJ]
   .rw[<-E.flat_drop,<-E.flat_take,ly,lr] at hu
    split at hu
    .have:=h _ _ hu; rwa[<-mq] at this
    .cases hu
theorem OR {t e:TypeId} {x lo hi:Operand} {k k':IntKind} {zl zh:Int} (i j:Nat) (ho:o.op=.slice t x (some lo) (some hi) none) (ht:P.underlying t=some (.slice e)) (hz:∀w,(sizeOf e).run P w=.ok E.sz w)
 (hx:ev L x=some v) (hr:∀w,X w->RdV w v E l) (hlo:ev L lo=some (.int k zl)) (hhi:ev L hi=some (.int k' zh)) (el:zl=(i:Int)) (eh:zh=(j:Int)) (h1:i<=j) (h2:j<=l.length) :
 QOp P n L X o (vsl v E.sz i j):=λa w hk hX=>by
 obtain⟨ad,c,rfl,hc,_⟩:=hr w hX
 subst el; subst eh
 have hjc:j<=c:=by omega
 have:=QOp.mk (P:=P) (n:=n) (L:=L) (X:=X) (o:=o) (v:=vsl (.slice ad l.length c) E.sz i j) (λa=>Instr.sliceAt t (a.eval x) (some (a.eval lo)) (some (a.eval hi)) none) (λa=>by simp[execOp,ho]) (λa w hk _=>by
  rw[hk.eval hx,hk.eval hlo,hk.eval hhi]
  simp only[Instr.sliceAt,Instr.slice,Instr.sliceBounds,l5,AW ht,l7,l6,CG (P:=P) w rfl hjc,CG (P:=P) w rfl h1,hz,vsl])
 exact this a w hk hX
theorem Ef {t e:TypeId} {x lo:Operand} {k:IntKind} {zl:Int} (i:Nat) (ho:o.op=.slice t x (some lo) none none) (ht:P.underlying t=some (.slice e)) (hz:∀w,(sizeOf e).run P w=.ok E.sz w)
 (hx:ev L x=some v) (hr:∀w,X w->RdV w v E l) (hlo:ev L lo=some (.int k zl)) (el:zl=(i:Int)) (h1:i<=l.length) :
 QOp P n L X o (vsl v E.sz i l.length):=λa w hk hX=>by
 obtain⟨ad,c,rfl,hc,_⟩:=hr w hX
 subst el
 have:=QOp.mk (P:=P) (n:=n) (L:=L) (X:=X) (o:=o) (v:=vsl (.slice ad l.length c) E.sz i l.length) (λa=>Instr.sliceAt t (a.eval x) (some (a.eval lo)) none none) (λa=>by simp[execOp,ho]) (λa w hk _=>by
  rw[hk.eval hx,hk.eval hlo]
  simp only[Instr.sliceAt,Instr.slice,Instr.sliceBounds,l5,AW ht,l7,l6,CG (P:=P) w rfl h1,hz,vsl])
 exact this a w hk hX
theorem FH {t e:TypeId} {x hi:Operand} {k':IntKind} {zh:Int} (j:Nat) (ho:o.op=.slice t x none (some hi) none) (ht:P.underlying t=some (.slice e)) (hz:∀w,(sizeOf e).run P w=.ok E.sz w)
 (hx:ev L x=some v) (hr:∀w,X w->RdV w v E l) (hhi:ev L hi=some (.int k' zh)) (eh:zh=(j:Int)) (h2:j<=l.length) :
 QOp P n L X o (vsl v E.sz 0 j):=λa w hk hX=>by
 obtain⟨ad,c,rfl,hc,_⟩:=hr w hX
 subst eh
 have hjc:j<=c:=by omega
 have:=QOp.mk (P:=P) (n:=n) (L:=L) (X:=X) (o:=o) (v:=vsl (.slice ad l.length c) E.sz 0 j) (λa=>Instr.sliceAt t (a.eval x) none (some (a.eval hi)) none) (λa=>by simp[execOp,ho]) (λa w hk _=>by
  rw[hk.eval hx,hk.eval hhi]
  simp only[Instr.sliceAt,Instr.slice,Instr.sliceBounds,l5,AW ht,l7,l6,CG (P:=P) w rfl hjc,hz,vsl])
 exact this a w hk hX
theorem IK {w:World} (h:RdV w v E l):(Builtin.lenOf v).run P w=.ok l.length w:=by
 obtain⟨a,c,rfl,_⟩:=h; rfl
theorem Eg {w:World} (h:RdV w v E l):(Builtin.firstCells E.sz l.length v).run P w=.ok (E.flat l).toArray w:=by
 obtain⟨a,c,rfl,_,h⟩:=h
 rcases h with rfl|⟨b,off,rfl,h⟩
 .cases a<;>simp[Builtin.firstCells,loadCells,loadCellsFrom,Enc.flat_nil]
 .simp only[Builtin.firstCells,loadCells]
  have:=Er (P:=P) b off w (l.length*E.sz) 0 (E.flat l) #[] (E.kB l) (λj u hu=>by rw[me]; exact h j u hu)
  simpa using this
theorem RdV.drew {w:World} (h:RdV w v E l):RdV w.drew v E l:=h.congr (λ_=>rfl)
variable {w0:World} {D:List Nat} {H:List Ent}
theorem St.row0 {w:World} (e:TypeId) (E:Enc α) (a:Option Addr) (h:St w0 D H w):St w0 D (AA (.slice a 0 0) e E []::H) w :=
 h.add (by cases a<;>simp[AA,ownB]) (.inl ⟨a,rfl,rfl⟩)
theorem St.rowLit {w:World} {b m:Nat} {e:TypeId} {cs:List Value} (E:Enc α) (l:List α) (hl:l.length=m) (hcs:cs=E.flat l) (h:St w0 D (Ad b e cs::H) w):St w0 D (AA (.slice (some ⟨b,0,none⟩) m m) e E l::H) w:=by
 subst hl; subst hcs
 by_cases h0:l=[]
 .subst h0
  exact h.drop.row0 e E _
 .have hp:0<l.length:=nZ.2 h0
  have h1:St w0 D (Ad b e ([]++E.flat l++[])::H) w:=by simpa using h
  exact CW (cap:=l.length) h1 hp (lJ _) (by simp)
theorem Q6 {t tx e e':TypeId} {i:TypeInfo} {z x:Value} {m:List α} {ty:TypeId} {w:World} (ht:P.underlying t=some (.slice e)) (htx:P.underlying tx=some (.slice e')) (hi:P.info? e=some i) (hs:i.size=E.sz) (hz:i.zero=some z) (hzc:z.cells.size=E.sz)
 (h:St w0 D (AA v e E l::H) w) (hx:RdV w x E m) (hb:(l.length+m.length)*i.bytes<=140737488355328) (hn:l.length+m.length<=9223372036854775807) :
 ∃v' w',(Builtin.append_ #[t,tx] ty #[v,x]).run P w=.ok v' w'/\St w0 D (AA v' e E (l++m)::H) w':=by
 have hrd:RdV w v E l:=BU (h.at 0 rfl)
 have hvl:=hrd
 obtain⟨a,c,rfl,hc,_⟩:=hvl
 have hsz:∀w,(sizeOf e).run P w=.ok E.sz w:=λw=>by simp[sizeOf,typeInfo,hi,hs]
 have hti:∀w,(typeInfo e).run P w=.ok i w:=λw=>by simp[typeInfo,hi]
 have hzv:∀w,(zeroValue e).run P w=.ok z w:=λw=>by simp[zeroValue,typeInfo,hi,hz]
 have hlen:=IK (P:=P) hx
 by_cases hroom:l.length+m.length<=c
 ·-- there is room
  have hrun:(Builtin.append_ #[t,tx] ty #[.slice a l.length c,x]).run P w=(Sem.run P (match a with|some a=>storeCells (a.add (l.length*E.sz)) (E.flat m)|none=>pure ():Sem Unit) w).andThen (λ_ w'=>.ok (.slice a (l.length+m.length) c) w'):=by
   have hf:=Eg (P:=P) hx
   cases a<;>simp[Builtin.append_,AW ht,AW htx,hsz,hlen,hroom,hf]
  by_cases hm:m=[]
  .subst hm
   refine⟨.slice a l.length c,w,?_,by simpa using h⟩
   rw[hrun]
   cases a<;>simp[Enc.flat_nil,storeCells]
  .have hmp:0<m.length:=nZ.2 hm
   have hat:Row (.slice a l.length c) e E l ((ownB (.slice a l.length c)).bind (w.heap[·]?)):=h.at 0 rfl
   rcases hat with⟨a',he,rfl⟩|⟨b,cap,pre,post,he,hcp,ho,hlc,hpost⟩
   .cases he; simp at hroom; exact absurd hroom hm
   .cases he
    have hown:ownB (.slice (some ⟨b,pre.length,none⟩) l.length c)=some b:=by simp[ownB]; omega
    have h1:St w0 D (Ad b e (pre++E.flat l++post)::H) w:=h.head hown.symm (λ_=>by rw[hown] at ho; exact ho)
    have hl1:=E.kB l
    have hl2:=E.kB m
    have hmul:(l.length+m.length)*E.sz<=c*E.sz:=lW _ hroom
    have hsub:(c-l.length)*E.sz=c*E.sz-l.length*E.sz:=n6 ..
    rw[lF] at hmul
    have hfit:pre.length+l.length*E.sz+0+(E.flat m).length<=(pre++E.flat l++post).length:=by
     simp only[lp]; omega
    obtain⟨w',hr,h'⟩:=B6 (P:=P) (off:=pre.length+l.length*E.sz) (E.flat m) _ 0 h1 hfit (λu hu=>E.flat_one m u hu)
    refine⟨.slice (some ⟨b,pre.length,none⟩) (l.length+m.length) c,w',?_,?_⟩
    .rw[hrun]
     simp only[BJ,hr,l7]
    .rw[splice_eq _ _ _ (by simpa using hfit)] at h'
     have t1:(pre++E.flat l++post).take (pre.length+l.length*E.sz+0)=pre++E.flat l:=by
      rw[nB,<-hl1,<-lp,nQ]
     rw[t1] at h'
     have e2:pre++E.flat l++E.flat m=pre++E.flat (l++m):=by rw[E.kL,mj]
     rw[e2] at h'
     have:=CW (cap:=c) h' (by omega) (by simpa using hroom) (by
      simp only[lk,lp,nB]
      have hs2:(c-(l.length+m.length))*E.sz=c*E.sz-(l.length*E.sz+m.length*E.sz):=by rw[n6,lF]
      rw[hs2]
      omega)
     simpa using this
 ·-- a new block
  have hgt:c<l.length+m.length:=by omega
  have h64:¬(9223372036854775807<((l.length:Int)+(m.length:Int))):=by omega
  have hfits:=growslice_fits hgt hb
  have h48:¬(281474976710656<Builtin.nextslicecap (l.length+m.length) c*i.bytes):=by omega
  have hf1:=Eg (P:=P) hrd.drew
  have hf2:=Eg (P:=P) hx.drew
  have hrun:(Builtin.append_ #[t,tx] ty #[.slice a l.length c,x]).run P w=.ok (.slice (some ⟨w.heap.size,0,none⟩) (l.length+m.length) (grownCap w (l.length+m.length) c e))
   (w.drew.alloc (.cells ((E.flat l).toArray++(E.flat m).toArray++Builtin.zeroCells z.cells (grownCap w (l.length+m.length) c e-(l.length+m.length))) e)):=by
   simp[Builtin.append_,AW ht,AW htx,hsz,hti,hzv,hlen,hroom,h64,h48,Question.forced,hf1,hf2,newRow,grownCap,<-Array.append_assoc]
  refine⟨_,_,hrun,?_⟩
  have hge:=grownCap_ge w (l.length+m.length) c e
  have hb2:ownB (.slice (some ⟨w.heap.size,0,none⟩) (l.length+m.length) (grownCap w (l.length+m.length) c e))=some w.heap.size:=by simp[ownB]; omega
  have h1:=(h.drop.drew).alloc (o:=.cells ((E.flat l).toArray++(E.flat m).toArray++Builtin.zeroCells z.cells (grownCap w (l.length+m.length) c e-(l.length+m.length))) e)
   (φ:=Row (.slice (some ⟨w.heap.size,0,none⟩) (l.length+m.length) (grownCap w (l.length+m.length) c e)) e E (l++m)) (.inr ⟨w.heap.size,grownCap w (l.length+m.length) c e,[],(Builtin.zeroCells z.cells (grownCap w (l.length+m.length) c e-(l.length+m.length))).toList,by simp,by omega,by
    congr 2
    apply n7.1
    simp[E.kL],by simp; omega,by
    rw[mX,n9,hzc,lp]⟩)
  show St w0 D (⟨ownB _,_⟩::H) _
  rw[hb2]
  exact h1
theorem BT {t tx e e':TypeId} {i:TypeInfo} {z xv:Value} {s x:Operand} {m:List α} {d:Nat} (ho:o.op=.call ⟨.builtin .append,#[s,x],#[t,tx]⟩) (hd:o.dst=some d) (hnn:d.blt n) (ht:P.underlying t=some (.slice e)) (htx:P.underlying tx=some (.slice e')) (hi:P.info? e=some i) (hs:i.size=E.sz) (hz:i.zero=some z) (hzc:z.cells.size=E.sz)
 (hsv:ev L s=some v) (hxv:ev L x=some xv) (hx:∀w,St w0 D (AA v e E l::H) w->RdV w xv E m) (hb:(l.length+m.length)*i.bytes<=140737488355328) (hn:l.length+m.length<=9223372036854775807)
 (h:∀v',Pre n ((d,v')::L) (St w0 D (AA v' e E (l++m)::H)) K):EOp P n L (St w0 D (AA v e E l::H)) o Q K :=
 EOp.val (β:=Value) (λv=>v) (λ_=>True) (λv'=>St w0 D (AA v' e E (l++m)::H)) hd hnn (λa w kn hX=>by
  obtain⟨v',w',hr,h'⟩:=Q6 (P:=P) (ty:=o.type) ht htx hi hs hz hzc hX (hx w hX) hb hn
  exact⟨v',w',by simp[execOp,ho,resolve,invoke,builtin,kn.eval hsv,kn.eval hxv,hr],trivial,h'⟩) (λv' _=>h v')
variable {F:Act->World->Prop} {a b c d e f g h i:Ent}
theorem AM (k:Pre n L (St w0 D (b::a::H)) F):Pre n L (St w0 D (a::b::H)) F:=k.world _ (λw s=>s.perm (.swap b a H))
theorem AX (k:Pre n L (St w0 D (c::a::b::H)) F):Pre n L (St w0 D (a::b::c::H)) F:=k.world _ (λw s=>s.perm (.trans (.cons a (.swap c b H)) (.swap c a (b::H))))
theorem D3 (k:Pre n L (St w0 D (d::a::b::c::H)) F):Pre n L (St w0 D (a::b::c::d::H)) F:=k.world _ (λw s=>s.perm (.trans (.cons a (.cons b (.swap d c H))) (.trans (.cons a (.swap d b (c::H))) (.swap d a (b::c::H)))))
theorem C0 (k:Pre n L (St w0 D (e::a::b::c::d::H)) F):Pre n L (St w0 D (a::b::c::d::e::H)) F:=k.world _ (λw s=>s.perm (oa (l₁:=[a,b,c,d]) (l₂:=H)))
theorem EM (k:Pre n L (St w0 D (f::a::b::c::d::e::H)) F):Pre n L (St w0 D (a::b::c::d::e::f::H)) F:=k.world _ (λw s=>s.perm (oa (l₁:=[a,b,c,d,e]) (l₂:=H)))
theorem Ed (k:Pre n L (St w0 D (g::a::b::c::d::e::f::H)) F):Pre n L (St w0 D (a::b::c::d::e::f::g::H)) F:=k.world _ (λw s=>s.perm (oa (l₁:=[a,b,c,d,e,f]) (l₂:=H)))
theorem Av (k:Pre n L (St w0 D H) F):Pre n L (St w0 D (a::H)) F:=k.world _ (λw s=>s.drop)
theorem BW {w:World} {e:TypeId} (h:(AA v e E l).at w):∃a c,v=.slice a l.length c:=by
 obtain⟨a,c,h,_⟩:=BU h; exact⟨a,c,h⟩
theorem FI {w:World} (h:RdV w v E l):∃a c,v=.slice a l.length c:=by
 obtain⟨a,c,h,_⟩:=h; exact⟨a,c,h⟩
theorem EP {w:World} {n c:Nat} (h:RdV w (.slice none n c) E l):l=[]:=by
 obtain⟨a,c',e,_,h⟩:=h
 cases e
 rcases h with h|⟨b,off,e,_⟩
 .exact h
 .cases e
theorem AR {F:Act->World->Prop} {b:Nat} {t:TypeId} {cs cs':List Value} (he:cs=cs') (k:Pre n L (St w0 D (Ad b t cs'::H)) F):Pre n L (St w0 D (Ad b t cs::H)) F:=he▸k
theorem Bt {F:Act->World->Prop} {v:Value} {t:TypeId} {E:Enc α} {l l':List α} (he:l=l') (k:Pre n L (St w0 D (AA v t E l'::H)) F):Pre n L (St w0 D (AA v t E l::H)) F:=he▸k
theorem row0 {F:Act->World->Prop} (e:TypeId) (E:Enc α) (a:Option Addr) (k:Pre n L (St w0 D (AA (.slice a 0 0) e E []::H)) F):Pre n L (St w0 D H) F:=k.world _ (λw s=>s.row0 e E a)
theorem rowLit {F:Act->World->Prop} {b m:Nat} {e:TypeId} {cs:List Value} (E:Enc α) (l:List α) (hl:l.length=m) (hcs:cs=E.flat l) (k:Pre n L (St w0 D (AA (.slice (some ⟨b,0,none⟩) m m) e E l::H)) F):Pre n L (St w0 D (Ad b e cs::H)) F:=k.world _ (λw s=>s.rowLit E l hl hcs)
end
section
variable {P:Program} {n:Nat} {L:Env} {o:Oper} {Q:Exit->Act->World->Prop} {K:Act->World->Prop} {w0:World} {D:List Nat}
theorem AZ {β:Type} {v:β->Value} {p:β->Prop} {E:World->Prop} {F:List Ent} {y0:β->Ent} {f:FuncId} {xs:List Operand} {ts:Array TypeId} {d:Nat} {vs:List Value} (s:Con P f vs E [] v p (λb=>[y0 b])) (ho:o.op=.call ⟨.value (.func f),xs.toArray,ts⟩) (hd:o.dst=some d) (hn:d.blt n)
 (hc:∀us w,(callFunc f us).run P w=.ok (.enter f us) w) (hv:evs L xs=some vs) (hE:∀w,St w0 D (F) w->E w) (h:∀b,p b->Pre n ((d,v b)::L) (St w0 D (y0 b::F)) K):EOp P n L (St w0 D (F)) o Q K :=
 DO ho hd hn hc hv (λw h=>s.frame (F:=F) h (hE w h)) h
theorem Mn {β:Type} {v:β->Value} {p:β->Prop} {E:World->Prop} {F:List Ent} {y0 y1:β->Ent} {f:FuncId} {xs:List Operand} {ts:Array TypeId} {d:Nat} {vs:List Value} (s:Con P f vs E [] v p (λb=>[y0 b,y1 b])) (ho:o.op=.call ⟨.value (.func f),xs.toArray,ts⟩) (hd:o.dst=some d) (hn:d.blt n)
 (hc:∀us w,(callFunc f us).run P w=.ok (.enter f us) w) (hv:evs L xs=some vs) (hE:∀w,St w0 D (F) w->E w) (h:∀b,p b->Pre n ((d,v b)::L) (St w0 D (y0 b::y1 b::F)) K):EOp P n L (St w0 D (F)) o Q K :=
 DO ho hd hn hc hv (λw h=>s.frame (F:=F) h (hE w h)) h
theorem Ui {β:Type} {v:β->Value} {p:β->Prop} {E:World->Prop} {F:List Ent} {y0 y1 y2:β->Ent} {f:FuncId} {xs:List Operand} {ts:Array TypeId} {d:Nat} {vs:List Value} (s:Con P f vs E [] v p (λb=>[y0 b,y1 b,y2 b])) (ho:o.op=.call ⟨.value (.func f),xs.toArray,ts⟩) (hd:o.dst=some d) (hn:d.blt n)
 (hc:∀us w,(callFunc f us).run P w=.ok (.enter f us) w) (hv:evs L xs=some vs) (hE:∀w,St w0 D (F) w->E w) (h:∀b,p b->Pre n ((d,v b)::L) (St w0 D (y0 b::y1 b::y2 b::F)) K):EOp P n L (St w0 D (F)) o Q K :=
 DO ho hd hn hc hv (λw h=>s.frame (F:=F) h (hE w h)) h
theorem EW {β:Type} {v:β->Value} {p:β->Prop} {E:World->Prop} {F:List Ent} {y0 y1 y2 y3:β->Ent} {f:FuncId} {xs:List Operand} {ts:Array TypeId} {d:Nat} {vs:List Value} (s:Con P f vs E [] v p (λb=>[y0 b,y1 b,y2 b,y3 b])) (ho:o.op=.call ⟨.value (.func f),xs.toArray,ts⟩) (hd:o.dst=some d) (hn:d.blt n)
 (hc:∀us w,(callFunc f us).run P w=.ok (.enter f us) w) (hv:evs L xs=some vs) (hE:∀w,St w0 D (F) w->E w) (h:∀b,p b->Pre n ((d,v b)::L) (St w0 D (y0 b::y1 b::y2 b::y3 b::F)) K):EOp P n L (St w0 D (F)) o Q K :=
 DO ho hd hn hc hv (λw h=>s.frame (F:=F) h (hE w h)) h
theorem Bf {β:Type} {v:β->Value} {p:β->Prop} {E:World->Prop} {F:List Ent} {x0:Ent} {y0:β->Ent} {f:FuncId} {xs:List Operand} {ts:Array TypeId} {d:Nat} {vs:List Value} (s:Con P f vs E [x0] v p (λb=>[y0 b])) (ho:o.op=.call ⟨.value (.func f),xs.toArray,ts⟩) (hd:o.dst=some d) (hn:d.blt n)
 (hc:∀us w,(callFunc f us).run P w=.ok (.enter f us) w) (hv:evs L xs=some vs) (hE:∀w,St w0 D (x0::F) w->E w) (h:∀b,p b->Pre n ((d,v b)::L) (St w0 D (y0 b::F)) K):EOp P n L (St w0 D (x0::F)) o Q K :=
 DO ho hd hn hc hv (λw h=>s.frame (F:=F) h (hE w h)) h
theorem IL {β:Type} {v:β->Value} {p:β->Prop} {E:World->Prop} {F:List Ent} {x0:Ent} {y0 y1:β->Ent} {f:FuncId} {xs:List Operand} {ts:Array TypeId} {d:Nat} {vs:List Value} (s:Con P f vs E [x0] v p (λb=>[y0 b,y1 b])) (ho:o.op=.call ⟨.value (.func f),xs.toArray,ts⟩) (hd:o.dst=some d) (hn:d.blt n)
 (hc:∀us w,(callFunc f us).run P w=.ok (.enter f us) w) (hv:evs L xs=some vs) (hE:∀w,St w0 D (x0::F) w->E w) (h:∀b,p b->Pre n ((d,v b)::L) (St w0 D (y0 b::y1 b::F)) K):EOp P n L (St w0 D (x0::F)) o Q K :=
 DO ho hd hn hc hv (λw h=>s.frame (F:=F) h (hE w h)) h
theorem Uj {β:Type} {v:β->Value} {p:β->Prop} {E:World->Prop} {F:List Ent} {x0 x1:Ent} {y0:β->Ent} {f:FuncId} {xs:List Operand} {ts:Array TypeId} {d:Nat} {vs:List Value} (s:Con P f vs E [x0,x1] v p (λb=>[y0 b])) (ho:o.op=.call ⟨.value (.func f),xs.toArray,ts⟩) (hd:o.dst=some d) (hn:d.blt n)
 (hc:∀us w,(callFunc f us).run P w=.ok (.enter f us) w) (hv:evs L xs=some vs) (hE:∀w,St w0 D (x0::x1::F) w->E w) (h:∀b,p b->Pre n ((d,v b)::L) (St w0 D (y0 b::F)) K):EOp P n L (St w0 D (x0::x1::F)) o Q K :=
 DO ho hd hn hc hv (λw h=>s.frame (F:=F) h (hE w h)) h
theorem GP {β:Type} {v:β->Value} {p:β->Prop} {E:World->Prop} {F:List Ent} {x0 x1:Ent} {y0 y1:β->Ent} {f:FuncId} {xs:List Operand} {ts:Array TypeId} {d:Nat} {vs:List Value} (s:Con P f vs E [x0,x1] v p (λb=>[y0 b,y1 b])) (ho:o.op=.call ⟨.value (.func f),xs.toArray,ts⟩) (hd:o.dst=some d) (hn:d.blt n)
 (hc:∀us w,(callFunc f us).run P w=.ok (.enter f us) w) (hv:evs L xs=some vs) (hE:∀w,St w0 D (x0::x1::F) w->E w) (h:∀b,p b->Pre n ((d,v b)::L) (St w0 D (y0 b::y1 b::F)) K):EOp P n L (St w0 D (x0::x1::F)) o Q K :=
 DO ho hd hn hc hv (λw h=>s.frame (F:=F) h (hE w h)) h
theorem BN {β:Type} {v:β->Value} {p:β->Prop} {E:World->Prop} {F:List Ent} {x0 x1 x2:Ent} {y0 y1 y2:β->Ent} {f:FuncId} {xs:List Operand} {ts:Array TypeId} {d:Nat} {vs:List Value} (s:Con P f vs E [x0,x1,x2] v p (λb=>[y0 b,y1 b,y2 b])) (ho:o.op=.call ⟨.value (.func f),xs.toArray,ts⟩) (hd:o.dst=some d) (hn:d.blt n)
 (hc:∀us w,(callFunc f us).run P w=.ok (.enter f us) w) (hv:evs L xs=some vs) (hE:∀w,St w0 D (x0::x1::x2::F) w->E w) (h:∀b,p b->Pre n ((d,v b)::L) (St w0 D (y0 b::y1 b::y2 b::F)) K):EOp P n L (St w0 D (x0::x1::x2::F)) o Q K :=
 DO ho hd hn hc hv (λw h=>s.frame (F:=F) h (hE w h)) h
theorem Mp {β:Type} {v:β->Value} {p:β->Prop} {E:World->Prop} {F:List Ent} {x0 x1 x2:Ent} {y0 y1 y2 y3:β->Ent} {f:FuncId} {xs:List Operand} {ts:Array TypeId} {d:Nat} {vs:List Value} (s:Con P f vs E [x0,x1,x2] v p (λb=>[y0 b,y1 b,y2 b,y3 b])) (ho:o.op=.call ⟨.value (.func f),xs.toArray,ts⟩) (hd:o.dst=some d) (hn:d.blt n)
 (hc:∀us w,(callFunc f us).run P w=.ok (.enter f us) w) (hv:evs L xs=some vs) (hE:∀w,St w0 D (x0::x1::x2::F) w->E w) (h:∀b,p b->Pre n ((d,v b)::L) (St w0 D (y0 b::y1 b::y2 b::y3 b::F)) K):EOp P n L (St w0 D (x0::x1::x2::F)) o Q K :=
 DO ho hd hn hc hv (λw h=>s.frame (F:=F) h (hE w h)) h
end
section
variable {P:Program} {n:Nat} {L:Env} {X:World->Prop} {Q:Exit->Act->World->Prop}
theorem A0 {A1:Type} {c:Code} (Lv:A1->Env) (Xv:A1->World->Prop) (p:A1->Prop) (μ:A1->Nat) (z1:A1) (h0:p z1) (hL:Sub (Lv z1) L) (hX:∀w,X w->Xv z1 w)
 (round:∀a1,p a1->Pre n (Lv a1) (Xv a1) (c.wp P (Exit.then (Jq n (λx:A1=>μ x) (λx=>Lv x) (λx=>Xv x) (λx=>p x) (μ a1)) Q))):Pre n L X ((Code.loop c).wp P Q) :=
 IG (α:=A1) (λx=>Lv x) (λx=>Xv x) (λx=>p x) (λx=>μ x) z1 h0 hL hX (λx hp=>round x hp)
theorem GQ {A1:Type} {c:Code} {K:Act->World->Prop} (Lv:A1->Env) (Xv:A1->World->Prop) (p:A1->Prop) (h1:Pre n L X (c.wp P (Exit.then (ZN n (λx:A1=>Lv x) (λx=>Xv x) (λx=>p x)) Q))) (h2:∀a1,p a1->Pre n (Lv a1) (Xv a1) K):Pre n L X (c.wp P (Exit.then K Q)) :=
 λa w k x=>wp_mono (h1 a w k x) (λe a' w' hq=>by
  cases e<;>first|(obtain⟨b,hp,hk,hx⟩:=hq; exact h2 _ hp a' w' hk hx)|exact hq)
theorem Cy {A1 A2:Type} {c:Code} (Lv:A1->A2->Env) (Xv:A1->A2->World->Prop) (p:A1->A2->Prop) (μ:A1->A2->Nat) (z1:A1) (z2:A2) (h0:p z1 z2) (hL:Sub (Lv z1 z2) L) (hX:∀w,X w->Xv z1 z2 w)
 (round:∀a1 a2,p a1 a2->Pre n (Lv a1 a2) (Xv a1 a2) (c.wp P (Exit.then (Jq n (λx:A1×A2=>μ (x.1) (x.2)) (λx=>Lv (x.1) (x.2)) (λx=>Xv (x.1) (x.2)) (λx=>p (x.1) (x.2)) (μ a1 a2)) Q))):Pre n L X ((Code.loop c).wp P Q) :=
 IG (α:=A1×A2) (λx=>Lv (x.1) (x.2)) (λx=>Xv (x.1) (x.2)) (λx=>p (x.1) (x.2)) (λx=>μ (x.1) (x.2)) (z1,z2) h0 hL hX (λx hp=>round (x.1) (x.2) hp)
theorem Dw {A1 A2:Type} {c:Code} {K:Act->World->Prop} (Lv:A1->A2->Env) (Xv:A1->A2->World->Prop) (p:A1->A2->Prop) (h1:Pre n L X (c.wp P (Exit.then (ZN n (λx:A1×A2=>Lv (x.1) (x.2)) (λx=>Xv (x.1) (x.2)) (λx=>p (x.1) (x.2))) Q))) (h2:∀a1 a2,p a1 a2->Pre n (Lv a1 a2) (Xv a1 a2) K):Pre n L X (c.wp P (Exit.then K Q)) :=
 λa w k x=>wp_mono (h1 a w k x) (λe a' w' hq=>by
  cases e<;>first|(obtain⟨b,hp,hk,hx⟩:=hq; exact h2 _ _ hp a' w' hk hx)|exact hq)
theorem Fp {A1 A2 A3:Type} {c:Code} (Lv:A1->A2->A3->Env) (Xv:A1->A2->A3->World->Prop) (p:A1->A2->A3->Prop) (μ:A1->A2->A3->Nat) (z1:A1) (z2:A2) (z3:A3) (h0:p z1 z2 z3) (hL:Sub (Lv z1 z2 z3) L) (hX:∀w,X w->Xv z1 z2 z3 w)
 (round:∀a1 a2 a3,p a1 a2 a3->Pre n (Lv a1 a2 a3) (Xv a1 a2 a3) (c.wp P (Exit.then (Jq n (λx:A1×A2×A3=>μ (x.1) (x.2.1) (x.2.2)) (λx=>Lv (x.1) (x.2.1) (x.2.2)) (λx=>Xv (x.1) (x.2.1) (x.2.2)) (λx=>p (x.1) (x.2.1) (x.2.2)) (μ a1 a2 a3)) Q))):Pre n L X ((Code.loop c).wp P Q) :=
 IG (α:=A1×A2×A3) (λx=>Lv (x.1) (x.2.1) (x.2.2)) (λx=>Xv (x.1) (x.2.1) (x.2.2)) (λx=>p (x.1) (x.2.1) (x.2.2)) (λx=>μ (x.1) (x.2.1) (x.2.2)) (z1,z2,z3) h0 hL hX (λx hp=>round (x.1) (x.2.1) (x.2.2) hp)
theorem ZP {A1 A2 A3:Type} {c:Code} {K:Act->World->Prop} (Lv:A1->A2->A3->Env) (Xv:A1->A2->A3->World->Prop) (p:A1->A2->A3->Prop) (h1:Pre n L X (c.wp P (Exit.then (ZN n (λx:A1×A2×A3=>Lv (x.1) (x.2.1) (x.2.2)) (λx=>Xv (x.1) (x.2.1) (x.2.2)) (λx=>p (x.1) (x.2.1) (x.2.2))) Q))) (h2:∀a1 a2 a3,p a1 a2 a3->Pre n (Lv a1 a2 a3) (Xv a1 a2 a3) K):Pre n L X (c.wp P (Exit.then K Q)) :=
 λa w k x=>wp_mono (h1 a w k x) (λe a' w' hq=>by
  cases e<;>first|(obtain⟨b,hp,hk,hx⟩:=hq; exact h2 _ _ _ hp a' w' hk hx)|exact hq)
theorem SI {A1 A2 A3 A4:Type} {c:Code} (Lv:A1->A2->A3->A4->Env) (Xv:A1->A2->A3->A4->World->Prop) (p:A1->A2->A3->A4->Prop) (μ:A1->A2->A3->A4->Nat) (z1:A1) (z2:A2) (z3:A3) (z4:A4) (h0:p z1 z2 z3 z4) (hL:Sub (Lv z1 z2 z3 z4) L) (hX:∀w,X w->Xv z1 z2 z3 z4 w)
 (round:∀a1 a2 a3 a4,p a1 a2 a3 a4->Pre n (Lv a1 a2 a3 a4) (Xv a1 a2 a3 a4) (c.wp P (Exit.then (Jq n (λx:A1×A2×A3×A4=>μ (x.1) (x.2.1) (x.2.2.1) (x.2.2.2)) (λx=>Lv (x.1) (x.2.1) (x.2.2.1) (x.2.2.2)) (λx=>Xv (x.1) (x.2.1) (x.2.2.1) (x.2.2.2)) (λx=>p (x.1) (x.2.1) (x.2.2.1) (x.2.2.2)) (μ a1 a2 a3 a4)) Q))):Pre n L X ((Code.loop c).wp P Q) :=
 IG (α:=A1×A2×A3×A4) (λx=>Lv (x.1) (x.2.1) (x.2.2.1) (x.2.2.2)) (λx=>Xv (x.1) (x.2.1) (x.2.2.1) (x.2.2.2)) (λx=>p (x.1) (x.2.1) (x.2.2.1) (x.2.2.2)) (λx=>μ (x.1) (x.2.1) (x.2.2.1) (x.2.2.2)) (z1,z2,z3,z4) h0 hL hX (λx hp=>round (x.1) (x.2.1) (x.2.2.1) (x.2.2.2) hp)
theorem SJ {A1 A2 A3 A4 A5:Type} {c:Code} (Lv:A1->A2->A3->A4->A5->Env) (Xv:A1->A2->A3->A4->A5->World->Prop) (p:A1->A2->A3->A4->A5->Prop) (μ:A1->A2->A3->A4->A5->Nat) (z1:A1) (z2:A2) (z3:A3) (z4:A4) (z5:A5) (h0:p z1 z2 z3 z4 z5) (hL:Sub (Lv z1 z2 z3 z4 z5) L) (hX:∀w,X w->Xv z1 z2 z3 z4 z5 w)
 (round:∀a1 a2 a3 a4 a5,p a1 a2 a3 a4 a5->Pre n (Lv a1 a2 a3 a4 a5) (Xv a1 a2 a3 a4 a5) (c.wp P (Exit.then (Jq n (λx:A1×A2×A3×A4×A5=>μ (x.1) (x.2.1) (x.2.2.1) (x.2.2.2.1) (x.2.2.2.2)) (λx=>Lv (x.1) (x.2.1) (x.2.2.1) (x.2.2.2.1) (x.2.2.2.2)) (λx=>Xv (x.1) (x.2.1) (x.2.2.1) (x.2.2.2.1) (x.2.2.2.2)) (λx=>p (x.1) (x.2.1) (x.2.2.1) (x.2.2.2.1) (x.2.2.2.2)) (μ a1 a2 a3 a4 a5)) Q))):Pre n L X ((Code.loop c).wp P Q) :=
 IG (α:=A1×A2×A3×A4×A5) (λx=>Lv (x.1) (x.2.1) (x.2.2.1) (x.2.2.2.1) (x.2.2.2.2)) (λx=>Xv (x.1) (x.2.1) (x.2.2.1) (x.2.2.2.1) (x.2.2.2.2)) (λx=>p (x.1) (x.2.1) (x.2.2.1) (x.2.2.2.1) (x.2.2.2.2)) (λx=>μ (x.1) (x.2.1) (x.2.2.1) (x.2.2.2.1) (x.2.2.2.2)) (z1,z2,z3,z4,z5) h0 hL hX (λx hp=>round (x.1) (x.2.1) (x.2.2.1) (x.2.2.2.1) (x.2.2.2.2) hp)
theorem ZQ {A1 A2 A3 A4 A5 A6 A7 A8 A9:Type} {c:Code} (Lv:A1->A2->A3->A4->A5->A6->A7->A8->A9->Env) (Xv:A1->A2->A3->A4->A5->A6->A7->A8->A9->World->Prop) (p:A1->A2->A3->A4->A5->A6->A7->A8->A9->Prop) (μ:A1->A2->A3->A4->A5->A6->A7->A8->A9->Nat) (z1:A1) (z2:A2) (z3:A3) (z4:A4) (z5:A5) (z6:A6) (z7:A7) (z8:A8) (z9:A9) (h0:p z1 z2 z3 z4 z5 z6 z7 z8 z9) (hL:Sub (Lv z1 z2 z3 z4 z5 z6 z7 z8 z9) L) (hX:∀w,X w->Xv z1 z2 z3 z4 z5 z6 z7 z8 z9 w)
 (round:∀a1 a2 a3 a4 a5 a6 a7 a8 a9,p a1 a2 a3 a4 a5 a6 a7 a8 a9->Pre n (Lv a1 a2 a3 a4 a5 a6 a7 a8 a9) (Xv a1 a2 a3 a4 a5 a6 a7 a8 a9) (c.wp P (Exit.then (Jq n (λx:A1×A2×A3×A4×A5×A6×A7×A8×A9=>μ (x.1) (x.2.1) (x.2.2.1) (x.2.2.2.1) (x.2.2.2.2.1) (x.2.2.2.2.2.1) (x.2.2.2.2.2.2.1) (x.2.2.2.2.2.2.2.1) (x.2.2.2.2.2.2.2.2)) (λx=>Lv (x.1) (x.2.1) (x.2.2.1) (x.2.2.2.1) (x.2.2.2.2.1) (x.2.2.2.2.2.1) (x.2.2.2.2.2.2.1) (x.2.2.2.2.2.2.2.1) (x.2.2.2.2.2.2.2.2)) (λx=>Xv (x.1) (x.2.1) (x.2.2.1) (x.2.2.2.1) (x.2.2.2.2.1) (x.2.2.2.2.2.1) (x.2.2.2.2.2.2.1) (x.2.2.2.2.2.2.2.1) (x.2.2.2.2.2.2.2.2)) (λx=>p (x.1) (x.2.1) (x.2.2.1) (x.2.2.2.1) (x.2.2.2.2.1) (x.2.2.2.2.2.1) (x.2.2.2.2.2.2.1) (x.2.2.2.2.2.2.2.1) (x.2.2.2.2.2.2.2.2)) (μ a1 a2 a3 a4 a5 a6 a7 a8 a9)) Q))):Pre n L X ((Code.loop c).wp P Q) :=
 IG (α:=A1×A2×A3×A4×A5×A6×A7×A8×A9) (λx=>Lv (x.1) (x.2.1) (x.2.2.1) (x.2.2.2.1) (x.2.2.2.2.1) (x.2.2.2.2.2.1) (x.2.2.2.2.2.2.1) (x.2.2.2.2.2.2.2.1) (x.2.2.2.2.2.2.2.2)) (λx=>Xv (x.1) (x.2.1) (x.2.2.1) (x.2.2.2.1) (x.2.2.2.2.1) (x.2.2.2.2.2.1) (x.2.2.2.2.2.2.1) (x.2.2.2.2.2.2.2.1) (x.2.2.2.2.2.2.2.2)) (λx=>p (x.1) (x.2.1) (x.2.2.1) (x.2.2.2.1) (x.2.2.2.2.1) (x.2.2.2.2.2.1) (x.2.2.2.2.2.2.1) (x.2.2.2.2.2.2.2.1) (x.2.2.2.2.2.2.2.2)) (λx=>μ (x.1) (x.2.1) (x.2.2.1) (x.2.2.2.1) (x.2.2.2.2.1) (x.2.2.2.2.2.1) (x.2.2.2.2.2.2.1) (x.2.2.2.2.2.2.2.1) (x.2.2.2.2.2.2.2.2)) (z1,z2,z3,z4,z5,z6,z7,z8,z9) h0 hL hX (λx hp=>round (x.1) (x.2.1) (x.2.2.1) (x.2.2.2.1) (x.2.2.2.2.1) (x.2.2.2.2.2.1) (x.2.2.2.2.2.2.1) (x.2.2.2.2.2.2.2.1) (x.2.2.2.2.2.2.2.2) hp)
end
open Go.Proofs.YtloldofjddbjoaaGreat
theorem Wb {α:Type} {w:World} {B:Nat} {A:Option Addr} {E:Enc α} {l:List α} {c:Nat} (h:Rd w B A (E.flat l)) (hc:l.length<=c):RdV w (.slice A l.length c) E l:=by
 refine⟨A,c,rfl,hc,?_⟩
 by_cases h0:E.flat l=[]
 .left
  have h1:=E.kB l
  rw[h0,ob] at h1
  have:=E.pos
  rcases lZ.1 h1.symm with h2|h2
  .exact lA h2
  .omega
 .right
  obtain⟨b,off,e,_,hk⟩:=h h0
  exact⟨b,off,e,hk⟩
theorem ZR {α:Type} (E:Enc α) {ks:List Sc} {W:α->Prop} (hk:ks.length=E.sz) (one:∀cs,Kinds ks cs->∃a,cs=E.f a/\W a):∀(n:Nat) (xs:List Value),xs.length=n*ks.length->(∀i,i<n->Kinds ks ((xs.drop (i*ks.length)).take ks.length))->∃l:List α,xs=E.flat l/\l.length=n/\∀a∈l,W a
 |0,xs,h,_=>⟨[],lA (by simpa using h),rfl,by simp⟩
 |n+1,xs,h,hc=>by
  obtain⟨a,ha,hw⟩:=one _ (hc 0 (by omega))
  rw[Nat.zero_mul,lE] at ha
  obtain⟨l,hl,hn,hW⟩:=ZR E hk one n (xs.drop ks.length) (by rw[lk,h,lF]; omega) (λi hi=>by
   have:=hc (i+1) (by omega)
   rw[lG]
   rwa[show ks.length+i*ks.length=(i+1)*ks.length from by rw[lF]; omega])
  refine⟨a::l,?_,by simp[hn],λb hb=>by rcases kN.1 hb with rfl|hb; exact hw; exact hW b hb⟩
  rw[E.kM,<-hl,<-ha,my]
theorem Mq {α:Type} (E:Enc α) (f:α->Value) (hE:∀a,E.f a=[f a]) (l:List α):E.flat l=l.map f:=by
 induction l with
 |nil=>rfl
 |cons a l ih=>rw[E.kM,hE,ih]; rfl
theorem wf_u8 {a:Int} (h:(Lit.int .u8 a).wf):0<=a/\a<=255:=by
 simp only[Lit.wf,mz,mS] at h
 exact⟨h.1,h.2⟩
theorem wf_u64 {a:Int} (h:(Lit.int .u64 a).wf):0<=a/\a<=18446744073709551615:=by
 simp only[Lit.wf,mz,mS] at h
 exact⟨h.1,h.2⟩
theorem Wc {α:Type} {w:World} {a:Option Addr} {c:Nat} (E:Enc α):RdV w (.slice a 0 c) E ([]:List α):=⟨a,c,rfl,lK _,.inl rfl⟩
def rdE {α:Type} (w0:World) (s:Bool) (v:Value) (t:TypeId) (E:Enc α) (l:List α):Ent:=if s then AA v t E l else⟨none,λ_=>RdV w0 v E l⟩
theorem St.rdE {α:Type} {w0 w:World} {H:List Ent} {s:Bool} {v:Value} {t:TypeId} {E:Enc α} {l:List α} (h:St w0 [] H w) (i:Nat) (hi:H[i]?=some (Sep.rdE w0 s v t E l)):RdV w v E l:=by
 have hat:=h.at i hi
 cases s with
 |true=>exact BU hat
 |false=>exact RdV.keep (hat:RdV w0 v E l) h (by simp)
theorem Wd {P:Program} {f:FuncId} {vs:List Value} {E:World->Prop} {w:World} (s:Con P f vs E [] (λ_:Unit=>.bool true) (λ_=>True) (λ_=>[])) (hE:E w):Calls P f vs.toArray w (λe w'=>e=.returned (.bool true)/\Go.RowKit.Below w.heap.size w w') :=
 (s w hE (HP.nil w)).mono (λe w' ⟨b,he,_,h⟩=>⟨he,St.below h⟩)
open Go.RowKit Go.Proofs.YtloldofjddbjoaaGreat
open Go.Instr
section
variable {P:Program} {n:Nat} {L:Env} {X:World->Prop} {o:Oper}
theorem H6 {t:TypeId} {x:Operand} {v:Value} {d:TypeDesc} (ho:o.op=.makeInterface t x) (ht:P.underlying t=some d) (hd:∀ms,d≠.interface ms) (hx:ev L x=some v):QOp P n L X o (.iface t v) :=
 QOp.mk (λa=>Instr.makeInterface t (a.eval x)) (λa=>by simp[execOp,ho]) (λa w hk _=>by
  rw[hk.eval hx]
  unfold Instr.makeInterface
  simp only[l5,AW ht]
  cases d with
  |interface ms=>exact absurd rfl (hd ms)
  |_=>rfl)
theorem Cz {t u:TypeId} {x:Operand} {v:Value} {d:TypeDesc} (ho:o.op=.typeAssert x t u true) (ht:P.underlying u=some d) (hd:∀ms,d≠.interface ms) (hx:ev L x=some (.iface u v)):QOp P n L X o (.tuple #[v,.bool true]) :=
 QOp.mk (λa=>Instr.typeAssert (a.eval x) t u true) (λa=>by simp[execOp,ho]) (λa w hk _=>by
  rw[hk.eval hx]
  unfold Instr.typeAssert
  simp only[l5,AW ht]
  cases d with
  |interface ms=>exact absurd rfl (hd ms)
  |_=>simp)
theorem CN {t u s:TypeId} {x:Operand} {v z:Value} {d:TypeDesc} (ho:o.op=.typeAssert x t u true) (ht:P.underlying u=some d) (hd:∀ms,d≠.interface ms) (hx:ev L x=some (.iface s v)) (hs:s≠u) (hz:∀w,(zeroValue u).run P w=.ok z w):QOp P n L X o (.tuple #[z,.bool false]) :=
 QOp.mk (λa=>Instr.typeAssert (a.eval x) t u true) (λa=>by simp[execOp,ho]) (λa w hk _=>by
  rw[hk.eval hx]
  unfold Instr.typeAssert
  simp only[l5,AW ht]
  cases d with
  |interface ms=>exact absurd rfl (hd ms)
  |_=>simp[hs,hz w])
variable {Q:Exit->Act->World->Prop} {K:Act->World->Prop}
theorem ZS {β:Type} {v:β->Value} {p:β->Prop} {X':β->World->Prop} {f:FuncId} {d:Nat} {vs:List Value} (hd:o.dst=some d) (hn:d.blt n)
 (hrun:∀a w,Know n L a->X w->(execOp a.eval o).run P w=.ok (.enter f vs.toArray) w)
 (hs:∀w,X w->Calls P f vs.toArray w (λe w'=>∃b,e=.returned (v b)/\p b/\X' b w')) (h:∀b,p b->Pre n ((d,v b)::L) (X' b) K):EOp P n L X o Q K:=λa w k x=>by
 show o.upon P a K Q ((execOp a.eval o).run P w)
 rw[hrun a w k x]
 show Calls P f vs.toArray w _
 refine (hs w x).mono ?_
 rintro e w' ⟨b,rfl,hp,hx⟩
 show K (a.put o.dst (v b)) w'
 rw[hd]
 exact h b hp _ _ (k.put _ hn) hx
theorem Q7 {r:Operand} {name:String} {xs:List Operand} {ts:Array TypeId} {t:TypeId} {x:Value} {us:List Value} {f:FuncId} {vs:List Value} (ho:o.op=.call ⟨.invoke r name,xs.toArray,ts⟩) (hr:ev L r=some (.iface t x)) (hv:evs L xs=some us)
 (hm:∀w,(callMethod (.iface t x) name us.toArray).run P w=.ok (.enter f vs.toArray) w) (a:Act) (w:World) (k:Know n L a):(execOp a.eval o).run P w=.ok (.enter f vs.toArray) w:=by
 have hargs:(xs.toArray.map a.eval)=us.toArray:=by rw[l8,k.evals hv]
 have hx:((#[Value.iface t x]++us.toArray).extract 1 (#[Value.iface t x]++us.toArray).size)=us.toArray:=by simp
 have h0:(#[Value.iface t x]++us.toArray)[0]?=some (.iface t x):=by simp
 simp only[execOp,ho,resolve,l5,l6,l7,invoke,hargs,k.eval hr,h0,hx,hm]
end
end Go.Sep
namespace Go.Proofs.YtloldofjddbjoaaGreat
open Go.Sep Go.RowKit
variable {l:Nat} {J:Act->World->Prop}
section
variable {P:Program} {n:Nat} {L:Env} {X:World->Prop} {Q:Exit->Act->World->Prop}
theorem GR {c rest:Code} (l:Nat) (hf:findLabel c l=some rest) (h:Pre n L X (c.wp P (Exit.jump l (rest.wp P (Exit.noGoto Q)) Q))):Pre n L X ((Code.scope c).wp P Q):=λa w k x =>
 wp_scope_jumps l _ (λ_ _=>0) hf (h a w k x) (λa w hJ=>wp_mono hJ (λe a' w' hq=>by
  cases e<;>first|exact hq|exact hq.elim))
theorem SK (h:Pre n L X (Q .normal)):Pre n L X ((Code.label l).wp P Q):=λa w k x=>wp_label (h a w k x)
theorem F2 (h:Pre n L X (Q (.goto l))):Pre n L X ((Code.goto l).wp P Q):=λa w k x=>wp_goto (h a w k x)
theorem CO {K:Act->World->Prop} (h:Pre n L X (Q (.goto l))):Pre n L X (Exit.then K Q (.goto l)):=h
theorem CA {id:Nat} (h:Pre n L X (Q (.goto l))):Pre n L X (Exit.inBlock id Q (.goto l)):=h
theorem CP (h:Pre n L X J):Pre n L X (Exit.jump l J Q (.goto l)):=λa w k x=>⟨rfl,h a w k x⟩
theorem Kf (h:Pre n L X (Q .ret)):Pre n L X (Exit.jump l J Q .ret):=h
theorem CD (h:Pre n L X (Q .ret)):Pre n L X (Exit.noGoto Q .ret):=h
theorem F3 (h:EK Q):EK (Exit.jump l J Q):=λc a d v w hq=>h c a d v w hq
end
end Go.Proofs.YtloldofjddbjoaaGreat
namespace Go.Sep
section tail
variable {P:Program} {ops:Array Oper} {Q:Exit->Act->World->Prop} {md:Region.Mode} {S:World->Prop} {T:List Nat}
def Fq (md:Region.Mode) (ops:Array Oper) (T:List Nat):Bool:=T.all (λt=>(List.range ops.size).all (λi=>T.contains i||Gk md ops i 8 t))
theorem Nv {listed:Array Bool} (h:Fq md ops T) (hc:EF md ops listed) {t i:Nat} (ht:T.contains t) (hi:T.contains i=false) (hlt:i<ops.size) (hr:t∈Region.ready md ops listed):listed.getD i false=true:=by
 have h1:=np.1 (np.1 h t (by simpa using ht)) i (lQ.2 hlt)
 rw[hi,Bool.false_or] at h1
 obtain⟨_,ot,hot,hall⟩:=mem_ready.1 hr
 exact FY hc 8 t h1 (λo ho=>by rw[hot] at ho; cases ho; exact hall)
theorem LZ {i:Nat} {oi:Oper} {v:Value} (hi:ops[i]?=some oi) (hT:Fq md ops T) (hiT:T.contains i=false) (hsel:∀(j:Nat) (o:Oper) cs b,ops[j]?=some o->o.op≠.select cs b)
 (hQ:∀c a w,Q (.panic c) (a.put oi.dst v) w->Q (.panic c) a w) :
 ∀(fuel:Nat) (listed:Array Bool) (a:Act) (w:World),EF md ops listed ->
  (∀j oj,ops[j]?=some oj->j≠i->listed.getD j true=false->(∀e∈oj.after,Region.binds md e=true->e.on≠i)->oi.apart ops oj=true) ->
  i∈Region.ready md ops listed->YieldsIf P ops S oi v a->S w ->
  DD P md ops Q S T fuel (listed.setIfInBounds i true) (a.put oi.dst v) w->DD P md ops Q S T (fuel+1) listed a w:=by
 intro fuel
 induction fuel with
 |zero =>
  intro listed a w _ _ hr hy hS H
  refine⟨λh=>(by rw[h] at hr; cases hr),λj hj=>?_⟩
  by_cases hji:j=i
  .subst hji; exact hy.wpOp hi hS ⟨λ_=>hS,H⟩
  .have:=ready_mono hj hji
   rw[H.1] at this
   cases this
 |succ fuel ih =>
  intro listed a w hcl hfree hr hy hS H
  refine⟨λh=>(by rw[h] at hr; cases hr),λj hj=>?_⟩
  by_cases hji:j=i
  .subst hji; exact hy.wpOp hi hS ⟨λ_=>hS,H⟩
  .have h1:=H.2 j (ready_mono hj hji)
   obtain⟨hjun,oj,hoj,hall⟩:=mem_ready.1 hj
   have hnl:listed.getD i false≠true:=λh1=>by
    have h0:=(mem_ready.1 hr).1
    rcases k6 i listed.size with h'|h'
    .simp[h'] at h0 h1; rw[h0] at h1; cases h1
    .simp[mg h'] at h1
   have hnot:∀e∈oj.after,Region.binds md e=true->e.on≠i:=λe he hb heq=>hnl (heq▸hall e he hb)
   have hjT:T.contains j=false:=by
    cases hc:T.contains j with
    |false=>rfl
    |true=>exact absurd (Nv hT hcl hc hiT (lH.1 hi).1 hj) hnl
   have h2:=wpOp_putIf hoj (hfree j oj hoj hji hjun hnot) (λcs b=>hsel i oi cs b hi) (λcs b=>hsel j oj cs b hoj) hQ hy h1
   have hfree':∀k ok,ops[k]?=some ok->k≠i->(listed.setIfInBounds j true).getD k true=false ->
    (∀e∈ok.after,Region.binds md e=true->e.on≠i)->oi.apart ops ok=true:=λk ok hk hki hun hno=>by
    refine hfree k ok hk hki ?_ hno
    by_cases hjk:j=k
    .subst hjk; exact hjun
    .rw[getD_set_ne true hjk] at hun; exact hun
   refine wpOp_mono (λa' w' h3=>⟨h3.2.1,ih (listed.setIfInBounds j true) a' w' (Cj hcl hj) hfree' (ready_mono hr (nj hji)) h3.1 (h3.2.1 hjT) ?_⟩) h2
   rw[Array.setIfInBounds_comm _ _ hji]
   exact h3.2.2
end tail
theorem Uk {P:Program} {ops:Array Oper} {Q:Exit->Act->World->Prop} {S:World->Prop} {T:List Nat} {i:Nat} {oi:Oper} {v:Value} {fuel:Nat} {listed:Array Bool} {a:Act} {w:World} (hcl:EF .any ops listed) (hi:ops[i]?=some oi) (hT:Fq .any ops T) (hiT:T.contains i=false)
 (hs:Region.noSelect ops) (hf:Region.free .any ops listed i) (hr:(Region.ready .any ops listed).contains i)
 (hQ:∀c a w,Q (.panic c) (a.put oi.dst v) w->Q (.panic c) a w) (hy:YieldsIf P ops S oi v a) (hS:S w)
 (h:DD P .any ops Q S T fuel (listed.setIfInBounds i true) (a.put oi.dst v) w):DD P .any ops Q S T (fuel+1) listed a w :=
 LZ hi hT hiT (Region.noSelect_spec hs) hQ fuel listed a w hcl (Region.free_spec hi hf) (by simpa using hr) hy hS h
theorem OS {P:Program} {ops:Array Oper} {Q:Exit->Act->World->Prop} {S:World->Prop} {T:List Nat} {i:Nat} {fuel:Nat} {listed:Array Bool} {a:Act} {w:World} (hr:Region.ready .any ops listed=[i])
 (h:wpOp P ops Q i (λa' w'=>(T.contains i=false->S w')/\DD P .any ops Q S T fuel (listed.setIfInBounds i true) a' w') a w):DD P .any ops Q S T (fuel+1) listed a w :=
 ⟨λh0=>(by rw[h0] at hr; cases hr),λj hj=>by rw[hr] at hj; simp only[nq] at hj; subst hj; exact h⟩
theorem DQ {P:Program} {ops:Array Oper} {Q:Exit->Act->World->Prop} (hB:EK Q) {S:World->Prop} {T:List Nat} (hT:Fq .any ops T) (hs:Region.noSelect ops):∀(ord:List (Nat×DE)) (l:List (Oper×DE)) (listed:Array Bool) (a:Act) (w:World),
 l.map (λx=>some x.1)=ord.map (λx=>ops[x.1]?)->l.map (·.2)=ord.map (·.2)->CL ops T ord listed=true->EF .any ops listed->(S w\/(ord.all (λx=>match x.2 with|none=>true|_=>false))=true)->wpD P ops Q S l a w->DD P .any ops Q S T ord.length listed a w
 |[],l,listed,a,w,h1,h2,h3,hcl,hS,hw=>by
  cases l with
  |nil=>exact⟨by simpa [CL] using h3,hw⟩
  |cons x l=>simp at h1
 |(i,q)::ord,[],listed,a,w,h1,h2,h3,hcl,hS,hw=>by simp at h1
 |(i,q)::ord,(o,q')::l,listed,a,w,h1,h2,h3,hcl,hS,hw=>by
  simp only[ma,List.cons.injEq] at h1 h2
  obtain⟨ho,h1⟩:=h1
  obtain⟨rfl,h2⟩:=h2
  match q',h2,h3,hS,hw with
  |some true,h2,h3,hS,hw =>
   simp only[CL,mz,nr] at h3
   obtain⟨⟨⟨hiT,hf⟩,hr⟩,h3⟩:=h3
   have hS':S w:=hS.resolve_right (by simp)
   obtain⟨v,hy,hw⟩:=hw
   have hri:i∈Region.ready .any ops listed:=by simpa using hr
   exact Uk hcl ho.symm hT hiT hs hf hr (λc a w h=>hB c a _ _ w h) hy hS' (DQ hB hT hs ord l _ _ _ h1 h2 h3 (Cj hcl hri) (.inl hS') hw)
  |some false,h2,h3,hS,hw =>
   simp only[CL,mz,nm] at h3
   obtain⟨hr,h3⟩:=h3
   have hS':S w:=hS.resolve_right (by simp)
   have hri:i∈Region.ready .any ops listed:=by rw[hr]; exact ns ..
   refine OS hr ?_
   unfold wpOp
   rw[<-ho]
   simp only
   unfold wpD at hw
   split
   .rename_i hq
    rw[lu hq] at hw
    exact .inl (Oper.wp_mono (λa w h=>⟨λ_=>h.1,DQ hB hT hs ord l _ _ _ h1 h2 h3 (Cj hcl hri) (.inl h.1) h.2⟩) hw)
   .rename_i hq
    rw[lz hq] at hw
    exact⟨λ_=>hS',DQ hB hT hs ord l _ _ _ h1 h2 h3 (Cj hcl hri) (.inl hS') hw⟩
  |none,h2,h3,hS,hw =>
   simp only[CL,mz,nm] at h3
   obtain⟨⟨⟨hiT,hr⟩,hall⟩,h3⟩:=h3
   have hri:i∈Region.ready .any ops listed:=by rw[hr]; exact ns ..
   refine OS hr ?_
   unfold wpOp
   rw[<-ho]
   simp only
   unfold wpD at hw
   split
   .rename_i hq
    rw[lu hq] at hw
    exact .inl (Oper.wp_mono (λa w h=>⟨λhc=>(by rw[hiT] at hc; cases hc),DQ hB hT hs ord l _ _ _ h1 h2 h3 (Cj hcl hri) (.inr hall) h⟩) hw)
   .rename_i hq
    rw[lz hq] at hw
    exact⟨λhc=>(by rw[hiT] at hc; cases hc),DQ hB hT hs ord l _ _ _ h1 h2 h3 (Cj hcl hri) (.inr hall) hw⟩
section region
variable {P:Program} {n:Nat} {L:Env} {X:World->Prop} {Q:Exit->Act->World->Prop} {ops:Array Oper}
theorem GS {id:Nat} {l0:List Oper} (ord:List (Nat×DE)) (T:List Nat) (l:List (Oper×DE)) (S:World->Prop) (hB:EK Q) (hm:P.follows .mixedOrders) (hs:Region.noSelect l0.toArray) (hT:Fq .any l0.toArray T) (hl:ord.length=l0.length)
 (h1:l.map (λx=>some x.1)=ord.map (λx=>l0[x.1]?)) (h2:l.map (·.2)=ord.map (·.2)) (hok:CL l0.toArray T ord (Array.replicate l0.length false))
 (hd:Mk X) (hS:∀w,X w->S w) (h:Pre n L X (wpD P l0.toArray Q S l)):Pre n L X ((Code.region id l0.toArray true).wp P Q):=λa w k x=>by
 refine wp_region_any hm (Ho (S:=S) (T:=T) _ _ _ _ ?_)
 have h1':l.map (λx=>some x.1)=ord.map (λx=>l0.toArray[x.1]?):=by simpa using h1
 rw[List.size_toArray,<-hl]
 exact DQ hB hT hs ord l _ a _ h1' h2 (by rw[hl]; exact hok) (by rw[hl]; simpa using Js (ops:=l0.toArray)) (.inl (hS _ (hd w _ x))) (h a _ k (hd w _ x))
end region
section anyC
variable {P:Program} {n:Nat} {L:Env} {X:World->Prop} {Q:Exit->Act->World->Prop} {S:World->Prop} {T:List Nat} {l:List Oper} {listed:Array Bool} {k:Nat}
end anyC
section
variable {P:Program} {n:Nat} {L:Env} {X:World->Prop} {o:Oper}
theorem q_addS {t u:TypeId} {x y:Operand} {p q:ByteArray} (ho:o.op=.binOp .add t x y u) (hx:ev L x=some (.string p)) (hy:ev L y=some (.string q)) (hb:p.size+q.size<=9223372036854775807):QOp P n L X o (.string (p++q)) :=
 CV ho hx hy (λw _=>by
  have h:(binOp .add t (.string p) (.string q)).run P w=.ok (.string (p++q)) w:=by
   have hb':¬((p.size+q.size:Nat):Int)>IntKind.i64.max:=by
    show ¬((p.size+q.size:Nat):Int)>9223372036854775807
    omega
   show (Go.Op.stringOp .add p q).run P w=_
   unfold Go.Op.stringOp
   simp only[lz hb']; rfl
  exact D1 rfl h)
end
theorem I.{u} {α:Sort u} {a:α}:a=a:=rfl
section short
variable {P:Program} {n:Nat} {L:Env} {X:World->Prop} {Q:Exit->Act->World->Prop} {ops:Array Oper} {o:Oper} {rest:List Oper} {restD:List (Oper×DE)} {S:World->Prop} {v:Value} {d:Nat} {x:Operand} {p:Addr}
theorem Lq (h:(o.dst,B0 ops L o,d.blt n)=(some d,some true,true)) (hq:QOp P n L X o v) (k:Pre n ((d,v)::L) X (wpL P ops Q rest)):Pre n L X (wpL P ops Q (o::rest)):=by
 simp only[Prod.mk.injEq] at h
 exact l_q h.1 hq h.2.1 h.2.2 k
theorem Lm (h:(o.dst,o.op,ev L x,B0 ops L o,d.blt n)=(some d,Op.move x,some v,some true,true)) (k:Pre n ((d,v)::L) X (wpL P ops Q rest)):Pre n L X (wpL P ops Q (o::rest)):=by
 simp only[Prod.mk.injEq] at h
 exact l_q h.1 (Bi h.2.1 h.2.2.1) h.2.2.2.1 h.2.2.2.2 k
theorem Las (h:(o.dst,o.op,ev L x,B0 ops L o,d.blt n)=(some d,Op.assign x,some v,some true,true)) (k:Pre n ((d,v)::L) X (wpL P ops Q rest)):Pre n L X (wpL P ops Q (o::rest)):=by
 simp only[Prod.mk.injEq] at h
 exact l_q h.1 (AF h.2.1 h.2.2.1) h.2.2.2.1 h.2.2.2.2 k
theorem Lc (h:(o.dst,o.op,ev L x,B0 ops L o,d.blt n)=(some d,Op.nilCheck x,some (.pointer (some p)),some true,true)) (k:Pre n ((d,.pointer (some p))::L) X (wpL P ops Q rest)):Pre n L X (wpL P ops Q (o::rest)):=by
 simp only[Prod.mk.injEq] at h
 exact l_q h.1 (Bw h.2.1 h.2.2.1) h.2.2.2.1 h.2.2.2.2 k
theorem Dq (h:(o.dst,B0 ops L o,d.blt n)=(some d,some true,true)) (hq:QOp P n L S o v) (k:Pre n ((d,v)::L) X (wpD P ops Q S restD)):Pre n L X (wpD P ops Q S ((o,some true)::restD)):=by
 simp only[Prod.mk.injEq] at h
 exact d_q h.1 hq h.2.1 h.2.2 k
theorem Dm (h:(o.dst,o.op,ev L x,B0 ops L o,d.blt n)=(some d,Op.move x,some v,some true,true)) (k:Pre n ((d,v)::L) X (wpD P ops Q S restD)):Pre n L X (wpD P ops Q S ((o,some true)::restD)):=by
 simp only[Prod.mk.injEq] at h
 exact d_q h.1 (Bi h.2.1 h.2.2.1) h.2.2.2.1 h.2.2.2.2 k
theorem Das (h:(o.dst,o.op,ev L x,B0 ops L o,d.blt n)=(some d,Op.assign x,some v,some true,true)) (k:Pre n ((d,v)::L) X (wpD P ops Q S restD)):Pre n L X (wpD P ops Q S ((o,some true)::restD)):=by
 simp only[Prod.mk.injEq] at h
 exact d_q h.1 (AF h.2.1 h.2.2.1) h.2.2.2.1 h.2.2.2.2 k
theorem Dc (h:(o.dst,o.op,ev L x,B0 ops L o,d.blt n)=(some d,Op.nilCheck x,some (.pointer (some p)),some true,true)) (k:Pre n ((d,.pointer (some p))::L) X (wpD P ops Q S restD)):Pre n L X (wpD P ops Q S ((o,some true)::restD)):=by
 simp only[Prod.mk.injEq] at h
 exact d_q h.1 (Bw h.2.1 h.2.2.1) h.2.2.2.1 h.2.2.2.2 k
theorem Cr {id:Nat} {l:List Oper} (hl:ops=l.toArray) (h:Pre n L X (wpL P ops Q l)):Pre n L X ((Code.region id ops false).wp P Q):=OM l hl h
theorem Cs {id:Nat} {l:List Oper} {c:Code} (hl:ops=l.toArray) (h:Pre n L X (wpL P ops (Exit.then (c.wp P Q) Q) l)):Pre n L X ((Code.seq (Code.region id ops false) c).wp P Q):=Af (OM l hl h)
theorem Kt {K:Act->World->Prop} (h:Pre n L X K):Pre n L X (Exit.then K Q .normal):=h
theorem Ks {c e:Code} (h:Pre n L X (c.wp P (Exit.then (e.wp P Q) Q))):Pre n L X (Exit.then ((Code.seq c e).wp P Q) Q .normal):=Kd (Af h)
theorem Nk {K:Act->World->Prop} (h:Pre n L X K):Pre n L X (wpL P ops (Exit.then K Q) []):=AB (Kd h)
theorem Ns {c e:Code} (h:Pre n L X (c.wp P (Exit.then (e.wp P Q) Q))):Pre n L X (wpL P ops (Exit.then ((Code.seq c e).wp P Q) Q) []):=AB (Kd (Af h))
theorem Ak {K:Act->World->Prop} (h:(o.dst,o.op,ev L x,B0 ops L o,d.blt n)=(some d,Op.assign x,some v,some true,true)) (k:Pre n ((d,v)::L) X K):Pre n L X (wpL P ops (Exit.then K Q) [o]):=Las h (AB (Kd k))
theorem Sb {F:Act->World->Prop} (t:Nat) (c:Bool) {b:Bool} (hl:look L t=some (.bool b)) (e:b=c) (h:Pre n ((t,.bool c)::L) X F):Pre n L X F:=Pre.setB hl e h
theorem Sv' {F:Act->World->Prop} (t:Nat) (c:Value) {b:Value} (hl:look L t=some b) (e:b=c) (h:Pre n ((t,c)::L) X F):Pre n L X F:=Pre.setV hl e h
theorem Hat {w0:World} {D:List Nat} {H:List Ent} {e:Ent} (i:Nat) (hi:H[i]?=some e):∀w,St w0 D H w->e.at w:=λ_ h=>h.at i hi
theorem Hrd {w0:World} {D:List Nat} {H:List Ent} {α:Type} {v:Value} {t:TypeId} {E:Enc α} {l:List α} (i:Nat) (hi:H[i]?=some (AA v t E l)):∀w,St w0 D H w->RdV w v E l:=λ_ h=>h.rd i hi
abbrev O:DE:=some true
abbrev V:DE:=some false
abbrev W:DE:=none
theorem D8 {id:Nat} {l0:List Oper} (ord:List (Nat×DE)) (T:List Nat) (l:List (Oper×DE)) (S:World->Prop) (hm:P.follows .mixedOrders) (hl:ord.length=l0.length)
 (h1:l.map (λx=>some x.1)=ord.map (λx=>l0[x.1]?)) (h2:l.map (·.2)=ord.map (·.2)) (hd:Mk X) (hS:∀w,X w->S w) (h:Pre n L X (wpD P l0.toArray Q S l)) (hB:EK Q:=by repeat (first|exact DN|refine Ck ?_|refine CZ ?_)) (hs:Region.noSelect l0.toArray=true:=by kernel_rfl) (hT:Fq .any l0.toArray T=true:=by kernel_rfl) (hok:CL l0.toArray T ord (Array.replicate l0.length false)=true:=by kernel_rfl):Pre n L X ((Code.region id l0.toArray true).wp P Q):=GS ord T l S hB hm hs hT hl h1 h2 hok hd hS h
theorem B4:(∀(p:Prop) [Decidable p],(decide p=true)=p)/\(∀(p:Prop) [Decidable p],(decide p=false)=¬p)/\(∀b:Bool,((!b)=true)=(b=false))/\(∀b:Bool,((!b)=false)=(b=true)):=⟨λp _=>by simp,λp _=>by simp,λb=>by simp,λb=>by simp⟩
theorem Ih {α:Type} {p:α->Prop}:∀w,p w->p w:=λ_ h=>h
theorem Tt {α:Type} {p:α->Prop}:∀w,p w->True:=λ_ _=>trivial
theorem H2 {w0:World} {D:List Nat} {H:List Ent} {e f:Ent} (i j:Nat) (h:(H[i]?,H[j]?)=(some e,some f)):∀w,St w0 D H w->e.at w/\f.at w:=λ_ x=>by
 simp only[Prod.mk.injEq] at h
 exact⟨x.at i h.1,x.at j h.2⟩
theorem Sn {t:Nat} {v:Value} {A B:Env} (hl:look B t=some v) (h:Sub A B):Sub ((t,v)::A) B:=Sub.cons hl h
theorem Lfa {s:TypeId} {i b off:Nat} {fs:List Field} {f:Field} {sz:Nat} (hs:P.underlying s=some (.struct fs.toArray)) (h:(o.dst,o.op,fs[i]?,ev L x,B0 ops L o,d.blt n)=(some d,Op.fieldAddr s x i,some f,some (.pointer (some ⟨b,off,none⟩)),some true,true)) (hz:∀w,(sizeOf f.type).run P w=.ok sz w) (hnz:sz.beq 0=false) (k:Pre n ((d,.pointer (some ⟨b,off+f.offset,none⟩))::L) X (wpL P ops Q rest)):Pre n L X (wpL P ops Q (o::rest)):=by
 simp only[Prod.mk.injEq] at h
 exact l_q h.1 (Ba h.2.1 hs h.2.2.1 hz hnz h.2.2.2.1) h.2.2.2.2.1 h.2.2.2.2.2 k
theorem Dfa {s:TypeId} {i b off:Nat} {fs:List Field} {f:Field} {sz:Nat} (hs:P.underlying s=some (.struct fs.toArray)) (h:(o.dst,o.op,fs[i]?,ev L x,B0 ops L o,d.blt n)=(some d,Op.fieldAddr s x i,some f,some (.pointer (some ⟨b,off,none⟩)),some true,true)) (hz:∀w,(sizeOf f.type).run P w=.ok sz w) (hnz:sz.beq 0=false) (k:Pre n ((d,.pointer (some ⟨b,off+f.offset,none⟩))::L) X (wpD P ops Q S restD)):Pre n L X (wpD P ops Q S ((o,some true)::restD)):=by
 simp only[Prod.mk.injEq] at h
 exact d_q h.1 (Ba h.2.1 hs h.2.2.1 hz hnz h.2.2.2.1) h.2.2.2.2.1 h.2.2.2.2.2 k
theorem Lo {w0:World} {D:List Nat} {H:List Ent} {t T:TypeId} {b off:Nat} {cs:List Value} (hg:∀w,(isAgg t).run P w=.ok false w) (i:Nat) (h:(o.dst,o.op,ev L x,H[i]?,cs[off]?,B0 ops L o,d.blt n)=(some d,Op.load t x,some (.pointer (some ⟨b,off,none⟩)),some (Ad b T cs),some v,some true,true)) (k:Pre n ((d,v)::L) (St w0 D H) (wpL P ops Q rest)):Pre n L (St w0 D H) (wpL P ops Q (o::rest)):=by
 simp only[Prod.mk.injEq] at h
 exact l_q h.1 (Al h.2.1 hg h.2.2.1 (λ_ x=>x.at i h.2.2.2.1) h.2.2.2.2.1) h.2.2.2.2.2.1 h.2.2.2.2.2.2 k
section any
variable {l:List Oper} {listed:Array Bool} {k:Nat} {T:List Nat}
theorem Aq (i:Nat) (hi:(l[i]?,o.dst,B0 l.toArray L o,d.blt n)=(some o,some d,some true,true)) (hXS:∀w,X w->S w) (hq:QOp P n L S o v)
 (h:Pre n ((d,v)::L) X (wpAnyH P .any l.toArray Q S k (listed.setIfInBounds i true))) (hB:EK Q:=by repeat (first|exact DN|refine Ck ?_|refine CZ ?_)) (hs:Region.noSelect l.toArray=true:=by kernel_rfl) (hf:Region.free .any l.toArray listed i=true:=by kernel_rfl) (hr:(Region.ready .any l.toArray listed).contains i=true:=by kernel_rfl):Pre n L X (wpAnyH P .any l.toArray Q S (k+1) listed):=by
 simp only[Prod.mk.injEq] at hi
 exact a_q hB i hi.1 hs hf hr hXS hi.2.1 hq hi.2.2.1 hi.2.2.2 h
end any
end short
section short
variable {P:Program} {n:Nat} {L:Env} {X:World->Prop} {Q:Exit->Act->World->Prop} {ops:Array Oper} {o:Oper} {rest:List Oper} {restD:List (Oper×DE)} {S:World->Prop} {v u:Value} {d:Nat} {x y z:Operand} {t s:TypeId} {K:Act->World->Prop} {w0:World} {D:List Nat} {H:List Ent} {k:IntKind} {p q:Int} {F:Act->World->Prop} {b:Bool}
theorem Ey {f:Nat} {fn:Func} {c:Code} {vs:List Value} {w:World} {R:Ending->World->Prop} (hf:P.funcs[f]?=some fn) (hb:(fn.body,fn.ntmps,vs.length.ble n)=(some c,n,true)) (hX:HP H w) (h:Pre n (Hk 0 vs) (St w (dom H) H) (c.wp P (bodyPost P fn R))):Calls P f vs.toArray w R:=by
 simp only[Prod.mk.injEq] at hb
 exact enter (St w (dom H) H) hf hb.1 hb.2.1 hb.2.2 (St.init hX) h
theorem E0 {f:Nat} {fn:Func} {c:Code} {vs:List Value} {w:World} {R:Ending->World->Prop} (hf:P.funcs[f]?=some fn) (hb:(fn.body,fn.ntmps,vs.length.ble n)=(some c,n,true)) (hX:HP [] w) (h:Pre n (Hk 0 vs) (St w [] []) (c.wp P (bodyPost P fn R))):Calls P f vs.toArray w R:=by
 simp only[Prod.mk.injEq] at hb
 exact enter (St w [] []) hf hb.1 hb.2.1 hb.2.2 (St.init hX) h
theorem Ce {b:Nat} {cs:List Value} (cs':List Value) (he:cs=cs') (k:Pre n L (St w0 D (Ad b t cs'::H)) F):Pre n L (St w0 D (Ad b t cs::H)) F:=AR he k
theorem Pw (X':World->Prop) (h:Pre n L X' F) (s:∀w,X w->X' w:=by exact λ_ h=>h):Pre n L X F:=h.world _ s
theorem Qe (h:(o.op,ev L x,ev L y)=(.binOp .eql t x y s,some (.int k p),some (.int k q))):QOp P n L X o (.bool (decide (p=q))):=by simp only[Prod.mk.injEq] at h; exact dG h.1 h.2.1 h.2.2
theorem Qn (h:(o.op,ev L x,ev L y)=(.binOp .neq t x y s,some (.int k p),some (.int k q))):QOp P n L X o (.bool (!decide (p=q))):=by simp only[Prod.mk.injEq] at h; exact dH h.1 h.2.1 h.2.2
theorem Ql (h:(o.op,ev L x,ev L y)=(.binOp .lss t x y s,some (.int k p),some (.int k q))):QOp P n L X o (.bool (decide (p<q))):=by simp only[Prod.mk.injEq] at h; exact dI h.1 h.2.1 h.2.2
theorem Qg (h:(o.op,ev L x,ev L y)=(.binOp .geq t x y s,some (.int k p),some (.int k q))):QOp P n L X o (.bool (decide (q<=p))):=by simp only[Prod.mk.injEq] at h; exact dJ h.1 h.2.1 h.2.2
theorem Qt (h:(o.op,ev L x)=(.unOp .not t x,some (.bool b))):QOp P n L X o (.bool (!b)):=by simp only[Prod.mk.injEq] at h; exact dK h.1 h.2
theorem Qy (h:(o.op,ev L x,ev L y)=(.pick x y z,some (.bool true),some v)):QOp P n L X o v:=by simp only[Prod.mk.injEq] at h; exact ON h.1 h.2.1 h.2.2
theorem Qz (h:(o.op,ev L x,ev L z)=(.pick x y z,some (.bool false),some v)):QOp P n L X o v:=by simp only[Prod.mk.injEq] at h; exact OO h.1 h.2.1 h.2.2
theorem Qi {p:Nat} (h:(o.op,ev L x,ev L y)=(.binOp .add t x y s,some (.int .i64 (p:Int)),some (.int .i64 1))) (hb:p<9223372036854775807:=by omega):QOp P n L X o (.int .i64 ((p+1:Nat):Int)):=by simp only[Prod.mk.injEq] at h; exact im h.1 h.2.1 h.2.2 hb
theorem Qx {i:Nat} {vs:List Value} (h:(o.op,ev L x,vs[i]?)=(.extract x i,some (.tuple vs.toArray),some v)):QOp P n L X o v:=by simp only[Prod.mk.injEq] at h; exact Ml h.1 h.2.1 h.2.2
theorem Cq {T:TypeId} {b off sz:Nat} {cs:List Value} (vs:List Value) (hg:∀w,(isAgg t).run P w=.ok true w) (hz:∀w,(sizeOf t).run P w=.ok sz w) (j:Nat) (h:(o.op,ev L x,H[j]?)=(.load t x,some (.pointer (some ⟨b,off,none⟩)),some (Ad b T cs))) (hv:(cs.drop off).take sz=vs) (hl:vs.length=sz):QOp P n L (St w0 D H) o (.agg vs.toArray):=by
 simp only[Prod.mk.injEq] at h
 exact AQ vs h.1 hg hz h.2.1 (λ_ x=>x.at j h.2.2) hv hl
theorem SA {T:TypeId} {b off sz:Nat} {cs vs:List Value} (hs:∀w,(sizeOf t).run P w=.ok sz w) (h1:(o.op,o.dst,ev L x,ev L y,vs.length,(off+vs.length).ble cs.length)=(.store t x y,none,some (.pointer (some ⟨b,off,none⟩)),some (.agg vs.toArray),sz,true)) (hv:∀v∈vs,v.oneCell'=true)
 (h:Pre n L (St w0 D (Ad b T (splice cs off vs)::H)) K):EOp P n L (St w0 D (Ad b T cs::H)) o Q K:=by
 simp only[Prod.mk.injEq] at h1
 exact Az h1.1 h1.2.1 hs h1.2.2.1 h1.2.2.2.1 h1.2.2.2.2.1 hv (ng h1.2.2.2.2.2) h
theorem Sf {a:Prop} [Decidable a] (t:Nat) (hl:look L t=some (.bool (decide a))) (e:¬a) (h:Pre n ((t,.bool false)::L) X F):Pre n L X F:=Pre.setB hl (oc e) h
theorem St' {a:Prop} [Decidable a] (t:Nat) (hl:look L t=some (.bool (decide a))) (e:a) (h:Pre n ((t,.bool true)::L) X F):Pre n L X F:=Pre.setB hl (od e) h
def OT (H:List Ent):List Nat->Option (List Ent)
 |[]=>some H
 |i::l=>match H[i]? with
  |some x=>match OT (H.eraseIdx i) l with
   |some r=>some (x::r)
   |none=>none
  |none=>none
theorem SL:∀{H:List Ent} {i:Nat} {x:Ent},H[i]?=some x->H.Perm (x::H.eraseIdx i)
 |[],i,x,h=>by simp at h
 |y::H,0,x,h=>by simp at h; subst h; exact oe _
 |y::H,i+1,x,h=>((SL (H:=H) (i:=i) (x:=x) (by simpa using h)).cons y).trans (List.Perm.swap x y _)
theorem Kg:∀{l:List Nat} {H H':List Ent},OT H l=some H'->H.Perm H'
 |[],H,H',h=>by cases h; exact oe _
 |i::l,H,H',h=>by
  unfold OT at h
  cases hx:H[i]? with
  |none=>rw[hx] at h; cases h
  |some x =>
   rw[hx] at h
   dsimp only at h
   cases hr:OT (H.eraseIdx i) l with
   |none=>rw[hr] at h; cases h
   |some r =>
    rw[hr] at h
    cases h
    have h1:=Kg hr
    exact (SL hx).trans (h1.cons _)
theorem Pm {H':List Ent} (l:List Nat) (hp:OT H l=some H') (h:Pre n L (St w0 D H') F):Pre n L (St w0 D H) F:=h.world _ (λ_ s=>s.perm (Kg hp))
theorem Ee {β:Type} {v:β->Value} {p:β->Prop} {E:World->Prop} {HA:List Ent} {HB:β->List Ent} {f:FuncId} {xs:List Operand} {ts:Array TypeId} {d:Nat} {vs:List Value} (pre:List Ent) (s:Con P f vs E HA v p HB)
 (h1:(o.op,o.dst,d.blt n,evs L xs)=(.call ⟨.value (.func f),xs.toArray,ts⟩,some d,true,some vs)) (hc:∀us w,(callFunc f us).run P w=.ok (.enter f us) w) (hE:∀w,St w0 D (pre++HA) w->E w) (h:∀b,p b->Pre n ((d,v b)::L) (St w0 D (pre++HB b)) K):EOp P n L (St w0 D (pre++HA)) o Q K:=by
 simp only[Prod.mk.injEq] at h1
 exact DO h1.1 h1.2.1 h1.2.2.1 hc h1.2.2.2 (λw x=>(s.frame (F:=pre) (x.perm og) (hE w x)).mono (λe w' ⟨b,he,hp,h'⟩=>⟨b,he,hp,h'.perm og⟩)) h
theorem E1 {β:Type} {v:β->Value} {p:β->Prop} {E:World->Prop} {f:FuncId} {xs:List Operand} {ts:Array TypeId} {d:Nat} {vs:List Value} (s:Con P f vs E [] v p (λ_=>[]))
 (h1:(o.op,o.dst,d.blt n,evs L xs)=(.call ⟨.value (.func f),xs.toArray,ts⟩,some d,true,some vs)) (hc:∀us w,(callFunc f us).run P w=.ok (.enter f us) w) (hE:∀w,St w0 D H w->E w) (h:∀b,p b->Pre n ((d,v b)::L) (St w0 D H) K):EOp P n L (St w0 D H) o Q K:=by
 simp only[Prod.mk.injEq] at h1
 exact DO h1.1 h1.2.1 h1.2.2.1 hc h1.2.2.2 (λw x=>(s.frame (F:=H) x (hE w x)).mono (λe w' ⟨b,he,hp,h'⟩=>⟨b,he,hp,h'⟩)) h
def kq:Nat->Nat->List DE
 |0,_=>[]
 |n+1,c=>(if c%3=0 then some true else if c%3=1 then some false else none)::kq n (c/3)
def mkl (l0:List Oper):List Nat->List DE->Option (List (Oper×DE))
 |[],[]=>some []
 |i::is,k::ks=>match l0[i]? with
  |some o=>match mkl l0 is ks with
   |some r=>some ((o,k)::r)
   |none=>none
  |none=>none
 |_,_=>none
theorem Q8 {l0:List Oper}:∀{is:List Nat} {ks:List DE} {l:List (Oper×DE)},mkl l0 is ks=some l->l.map (λx=>some x.1)=(is.zip ks).map (λx=>l0[x.1]?)/\l.map (·.2)=(is.zip ks).map (·.2)
 |[],[],l,h=>by cases h; exact⟨rfl,rfl⟩
 |i::is,k::ks,l,h=>by
  unfold mkl at h
  cases hx:l0[i]? with
  |none=>rw[hx] at h; cases h
  |some o =>
   rw[hx] at h
   dsimp only at h
   cases hr:mkl l0 is ks with
   |none=>rw[hr] at h; cases h
   |some r =>
    rw[hr] at h
    cases h
    obtain⟨h1,h2⟩:=Q8 hr
    exact⟨by simp[hx,h1],by simp[h2]⟩
 |[],k::ks,l,h=>by cases h
 |i::is,[],l,h=>by cases h
abbrev tz (is:List Nat) (ks:List DE):List Nat:=((is.zip ks).filter (λx=>x.2.isNone)).map (·.1)
theorem Do8 {id:Nat} {l0:List Oper} {l:List (Oper×DE)} (is:List Nat) (c:Nat) (S:World->Prop) (h1:(P.follows .mixedOrders,(is.zip (kq is.length c)).length,mkl l0 is (kq is.length c))=(true,l0.length,some l)) (hd:Mk X) (hS:∀w,X w->S w) (h:Pre n L X (wpD P l0.toArray Q S l)) (hB:EK Q:=by repeat (first|exact DN|refine Ck ?_|refine CZ ?_)) (hs:Region.noSelect l0.toArray=true:=by kernel_rfl) (hT:Fq .any l0.toArray (tz is (kq is.length c))=true:=by kernel_rfl) (hok:CL l0.toArray (tz is (kq is.length c)) (is.zip (kq is.length c)) (Array.replicate l0.length false)=true:=by kernel_rfl):Pre n L X ((Code.region id l0.toArray true).wp P Q):=by
 simp only[Prod.mk.injEq] at h1
 exact GS _ _ l S hB h1.1 hs hT h1.2.1 (Q8 h1.2.2).1 (Q8 h1.2.2).2 hok hd hS h
abbrev rg:Nat->List Nat:=List.range
theorem Si:∀{L' L:Env},L'.map (λp=>look L p.1)=L'.map (λp=>some p.2)->Sub L' L
 |[],_,_=>Sub.nil
 |(i,v)::L',L,h=>by
  simp only[ma,List.cons.injEq] at h
  exact Sub.cons h.1 (Si h.2)
class BD (b:Bool) (p q:outParam Prop):Prop where
 t:b=true->p
 f:b=false->q
instance (priority:=100) {b:Bool}:BD b (b=true) (b=false):=⟨id,id⟩
instance {p:Prop} [Decidable p]:BD (decide p) p (¬p):=⟨oh,of_decide_eq_false⟩
instance (priority:=500) {b:Bool}:BD (!b) (b=false) (b=true):=⟨λh=>(by simpa using h),λh=>(by simpa using h)⟩
instance {p:Prop} [Decidable p]:BD (!decide p) (¬p) p:=⟨λh=>(by simpa using h),λh=>(by simpa using h)⟩
theorem CB {b:Bool} {p q:Prop} [i:BD b p q] (t:Nat) (hl:look L t=some (.bool b)) (h1:p->Pre n ((t,.bool true)::L) X F) (h2:q->Pre n ((t,.bool false)::L) X F):Pre n L X F:=Pre.caseB t hl (λh=>h1 (i.t h)) (λh=>h2 (i.f h))
theorem Ap {α:Type} {E:Enc α} {l m:List α} {v xv z:Value} {s x:Operand} {t tx e e':TypeId} {i:TypeInfo} {d:Nat} (ht:P.underlying t=some (.slice e)) (htx:P.underlying tx=some (.slice e')) (hi:P.info? e=some i) (h1:(o.op,o.dst,d.blt n,i.size,i.zero,z.cells.size,ev L s,ev L x,i.bytes.ble 1024)=(.call ⟨.builtin .append,#[s,x],#[t,tx]⟩,some d,true,E.sz,some z,E.sz,some v,some xv,true)) (hx:∀w,St w0 D (AA v e E l::H) w->RdV w xv E m) (hb:l.length+m.length<=137438953472)
 (h:∀v',Pre n ((d,v')::L) (St w0 D (AA v' e E (l++m)::H)) K):EOp P n L (St w0 D (AA v e E l::H)) o Q K:=by
 simp only[Prod.mk.injEq] at h1
 obtain⟨a1,a2,a3,a4,a5,a6,a7,a8,a9⟩:=h1
 exact BT a1 a2 a3 ht htx hi a4 a5 a6 a7 a8 hx (mf (Nat.mul_le_mul hb (ng a9)) (by decide)) (mf hb (by decide)) h
theorem Df {p:Prop} [Decidable p] (h:¬p:=by omega):decide p=false:=oc h
theorem Dt {p:Prop} [Decidable p] (h:p:=by omega):decide p=true:=od h
abbrev Tr {α:Type}:α->Prop:=λ_=>True
abbrev Eb (b:Bool):Ending:=.returned (.bool b)
abbrev Ei (z:Int):Ending:=.returned (.int .i64 z)
theorem Hb {e:Ent} {α:Type} {v:Value} {t:TypeId} {E:Enc α} {l:List α} (i j:Nat) (h:(H[i]?,H[j]?)=(some e,some (AA v t E l))):∀w,St w0 D H w->e.at w/\RdV w v E l:=λ_ x=>by
 simp only[Prod.mk.injEq] at h
 exact⟨x.at i h.1,x.rd j h.2⟩
theorem Hc {e f g:Ent} (i j k:Nat) (h:(H[i]?,H[j]?,H[k]?)=(some e,some f,some g)):∀w,St w0 D H w->e.at w/\f.at w/\g.at w:=λ_ x=>by
 simp only[Prod.mk.injEq] at h
 exact⟨x.at i h.1,x.at j h.2.1,x.at k h.2.2⟩
theorem RdV.kp {α:Type} {v:Value} {E:Enc α} {l:List α} (h:RdV w0 v E l) (hD:blk v∉D:=by simp[dom]):∀w,St w0 D H w->RdV w v E l:=λ_ s=>h.keep s hD
theorem SW {T:TypeId} {b sz:Nat} {cs vs:List Value} (hs:∀w,(sizeOf t).run P w=.ok sz w) (h1:(o.op,o.dst,ev L x,ev L y,vs.length,vs.length.ble cs.length,cs.length.ble vs.length)=(.store t x y,none,some (.pointer (some ⟨b,0,none⟩)),some (.agg vs.toArray),sz,true,true)) (hv:∀v∈vs,v.oneCell'=true) (h:Pre n L (St w0 D (Ad b T vs::H)) K):EOp P n L (St w0 D (Ad b T cs::H)) o Q K:=by
 simp only[Prod.mk.injEq] at h1
 obtain⟨a1,a2,a3,a4,a5,a6,a7⟩:=h1
 have e:vs.length=cs.length:=Nat.le_antisymm (ng a6) (ng a7)
 exact Az a1 a2 hs a3 a4 a5 hv (by omega) (AR (by rw[splice_eq _ _ _ (by omega)]; simp[e]) h)
abbrev pV (b:Nat):Value:=.pointer (some ⟨b,0,none⟩)
theorem gE {α:Type} (l:List α) (i:Nat) (h:i<l.length:=by omega):∃x,l[i]?=some x:=⟨_,kY h⟩
theorem T0:True:=trivial
theorem Hd {e:Ent} {p:World->Prop} (i:Nat) (h:H[i]?=some e) (k:∀w,St w0 D H w->p w):∀w,St w0 D H w->e.at w/\p w:=λw s=>⟨s.at i h,k w s⟩
def SM (L:Env):Op->Option Value
 |.move x=>ev L x
 |.assign x=>ev L x
 |.nilCheck x=>match ev L x with
  |some (.pointer (some a))=>some (.pointer (some a))
  |_=>none
 |.extract x i=>match ev L x with
  |some (.tuple vs)=>vs.toList[i]?
  |_=>none
 |.pick c x y=>match ev L c with
  |some (.bool true)=>ev L x
  |some (.bool false)=>ev L y
  |_=>none
 |.unOp .not _ x=>match ev L x with
  |some (.bool b)=>some (.bool (!b))
  |_=>none
 |.binOp .eql _ x y _=>match ev L x,ev L y with
  |some (.int k p),some (.int k' q)=>if k=k' then some (.bool (decide (p=q))) else none
  |_,_=>none
 |.binOp .neq _ x y _=>match ev L x,ev L y with
  |some (.int k p),some (.int k' q)=>if k=k' then some (.bool (!decide (p=q))) else none
  |_,_=>none
 |.binOp .lss _ x y _=>match ev L x,ev L y with
  |some (.int k p),some (.int k' q)=>if k=k' then some (.bool (decide (p<q))) else none
  |_,_=>none
 |.binOp .geq _ x y _=>match ev L x,ev L y with
  |some (.int k p),some (.int k' q)=>if k=k' then some (.bool (decide (q<=p))) else none
  |_,_=>none
 |_=>none
theorem OU {L:Env} {v:Value} (h:SM L o.op=some v):QOp P n L X o v:=by
 unfold SM at h
 split at h
 .rename_i e; exact Bi e h
 .rename_i e; exact AF e h
 .rename_i e; split at h
  .rename_i a; cases h; exact Bw e a
  .cases h
 .rename_i e; split at h
  .rename_i vs a
   obtain⟨l⟩:=vs
   exact Ml e a h
  .cases h
 .rename_i e; split at h
  .rename_i a; exact ON e a h
  .rename_i a; exact OO e a h
  .cases h
 .rename_i e; split at h
  .rename_i a; cases h; exact dK e a
  .cases h
 any_goals (cases h; done)
 all_goals
  rename_i e; split at h
  .rename_i a b; split at h
   .rename_i hk; subst hk; cases h; first|exact dG e a b|exact dH e a b|exact dI e a b|exact dJ e a b
   .cases h
  .cases h
def kG (ops:Array Oper) (n:Nat):Nat->List Oper->Env->Option (List Oper×Env)
 |0,r,L=>some (r,L)
 |_+1,[],_=>none
 |k+1,o::r,L=>match o.dst,B0 ops L o,SM L o.op with
  |some d,some true,some v=>if d.blt n=true then kG ops n k r ((d,v)::L) else none
  |some d,some false,_=>if d.blt n=true then kG ops n k r ((d,undef)::L) else none
  |_,_,_=>none
theorem Nw:∀(k:Nat) {r r':List Oper} {L L':Env},kG ops n k r L=some (r',L')->Pre n L' X (wpL P ops Q r')->Pre n L X (wpL P ops Q r)
 |0,r,r',L,L',h,g=>by cases h; exact g
 |k+1,[],r',L,L',h,g=>by cases h
 |k+1,o::r,r',L,L',h,g=>by
  unfold kG at h
  split at h
  .rename_i d v h1 h2 h3
   split at h
   .rename_i hd; exact l_q h1 (OU h3) h2 hd (Nw k h g)
   .cases h
  .rename_i d v h1 h2
   split at h
   .rename_i hd; exact ig h1 h2 hd (Nw k h g)
   .cases h
  .cases h
theorem Mv (k:Nat) {r r':List Oper} {L L':Env} (h:kG ops n k r L=some (r',L')) (g:Pre n L' X (wpL P ops Q r')):Pre n L X (wpL P ops Q r):=Nw k h g
def We (ops:Array Oper) (n:Nat):Nat->List (Oper×DE)->Env->Option (List (Oper×DE)×Env)
 |0,r,L=>some (r,L)
 |_+1,[],_=>none
 |k+1,(o,q)::r,L=>match q,o.dst,B0 ops L o,SM L o.op with
  |some true,some d,some true,some v=>if d.blt n=true then We ops n k r ((d,v)::L) else none
  |_,some d,some false,_=>if d.blt n=true then We ops n k r ((d,undef)::L) else none
  |_,_,_,_=>none
theorem Nx:∀(k:Nat) {r r':List (Oper×DE)} {L L':Env},We ops n k r L=some (r',L')->Pre n L' X (wpD P ops Q S r')->Pre n L X (wpD P ops Q S r)
 |0,r,r',L,L',h,g=>by cases h; exact g
 |k+1,[],r',L,L',h,g=>by cases h
 |k+1,(o,q)::r,r',L,L',h,g=>by
  unfold We at h
  split at h
  .rename_i d v h1 h2 h3
   split at h
   .rename_i hd; exact d_q h1 (OU h3) h2 hd (Nx k h g)
   .cases h
  .rename_i d v h1 h2 h3
   split at h
   .rename_i hd; exact ij (by assumption) (by assumption) hd (Nx k h g)
   .cases h
  .cases h
theorem Md (k:Nat) {r r':List (Oper×DE)} {L L':Env} (h:We ops n k r L=some (r',L')) (g:Pre n L' X (wpD P ops Q S r')):Pre n L X (wpD P ops Q S r):=Nx k h g
section any
variable {l:List Oper} {listed:Array Bool} {k:Nat}
theorem Ay {o1:Oper} (i1:Nat) (h:(l[i1]?,B0 l.toArray L o1)=(some o1,some true)) (g1:EOp P n L X o1 Q (DZ P l Q S k listed i1)) (hr:Region.ready .any l.toArray listed=[i1]:=by kernel_rfl):Pre n L X (wpAnyH P .any l.toArray Q S (k+1) listed):=by
 simp only[Prod.mk.injEq] at h
 exact eF i1 hr h.1 h.2 g1
theorem Ay2 {o1 o2:Oper} (i1 i2:Nat) (h:(l[i1]?,l[i2]?,B0 l.toArray L o1,B0 l.toArray L o2)=(some o1,some o2,some true,some true)) (g1:EOp P n L X o1 Q (DZ P l Q S k listed i1)) (g2:EOp P n L X o2 Q (DZ P l Q S k listed i2)) (hr:Region.ready .any l.toArray listed=[i1,i2]:=by kernel_rfl):Pre n L X (wpAnyH P .any l.toArray Q S (k+1) listed):=by
 simp only[Prod.mk.injEq] at h
 exact eG i1 i2 hr h.1 h.2.1 h.2.2.1 h.2.2.2 g1 g2
theorem An (h:Pre n L X (Q .normal)) (hr:Region.ready .any l.toArray listed=[]:=by kernel_rfl):Pre n L X (wpAnyH P .any l.toArray Q S k listed):=ik hr h
end any
end short
end Go.Sep
