/- Part 1 of the proof: texts of my own, laid behind one another. No condition. -/
import Derived.WalkKit
import Derived.Laws.BitsAllLaws
import Derived.ProofKit
import Derived.OpenShut
import Derived.Deep.Slices
import Derived.Deep.Draws
import Derived.Maps.AppendAt
import Derived.RegionTactic
import Derived.OwnWalk
import Derived.Laws.BytesArg
import Derived.Test.YtloldofjddbjoaaGreatChecked
import Derived.Lib.Hide
import Derived.Deep.QuietTactic
import Derived.BigQuiet
import Derived.WalkSpells
import Derived.DeepKeys5
import Derived.Laws.CopyOwn
import Derived.Deep.RegionHeld3
import Derived.Deep.RegionWith
import Derived.Laws.IdiomStrings
import Derived.OrdersHeld
import Derived.IntWalk
import Derived.Below
import Derived.ScopeJumps
import Derived.Test.YtloldofjddbjoaaGreatProg
import Derived.Lib.Overlaps
import Derived.Laws.Externs
import Derived.WideKeyRuns
import Derived.MapKept
import Derived.Maps.RangeRun
import Derived.Lib.Bytealg
set_option linter.unusedVariables false
set_option linter.unusedSimpArgs false
namespace Go
abbrev fq:=@List.mem_cons
abbrev ft:=@Int.ediv_ediv_of_nonneg
abbrev fu:=@List.cons_append
abbrev fv:=@List.length_cons
abbrev fw:=@Go.IntKind.wrap_u64
abbrev fy:=@Int.eq_ofNat_of_zero_le
abbrev fz:=@Nat.pow_le_pow_right
abbrev fA:=@List.drop_eq_getElem_cons
abbrev fC:=@List.take_succ_cons
abbrev fD:=@List.getElem?_eq_getElem
abbrev fF:=@List.mem_of_mem_take
abbrev fG:=@Nat.lt_or_ge
abbrev fH:=@List.getElem_mem
abbrev fI:=@List.getElem?_eq_none
abbrev fJ:=@List.length_take
abbrev fK:=@List.length_drop
abbrev fL:=@List.length_append
abbrev fM:=@List.getElem?_append_left
abbrev fN:=@List.getElem?_take
abbrev fO:=@if_pos
abbrev fP:=@List.getElem?_append_right
abbrev fQ:=@List.getElem?_drop
abbrev fR:=@if_neg
abbrev fS:=@List.eq_nil_of_length_eq_zero
abbrev fT:=@List.replicate_succ
abbrev fU:=@List.flatten_cons
abbrev fV:=@List.drop_zero
abbrev fW:=@Nat.add_mul
abbrev fX:=@List.drop_drop
abbrev fY:=@Array.getElem?_eq_some_iff
abbrev fZ:=@List.take_of_length_le
abbrev ga:=@Nat.le_refl
abbrev gb:=@Nat.zero_le
abbrev gf:=@Nat.mul_comm
abbrev gg:=@Nat.mod_lt
abbrev gh:=@Nat.eq_zero_or_pos
abbrev gi:=@List.mem_append_left
abbrev gj:=@List.mem_map
abbrev gk:=@List.mem_range
abbrev gl:=@List.getElem?_eq_some_iff
abbrev gm:=@List.getElem?_map
abbrev gn:=@List.getElem?_range
abbrev gp:=@Option.map_some
abbrev gq:=@Option.getD_some
abbrev gr:=@Nat.mul_le_mul_right
abbrev gu:=@Nat.one_mul
abbrev gv:=@List.ext_getElem?
abbrev gw:=@Nat.mul_eq_zero
abbrev gx:=@Go.Sem.run_bind
abbrev gy:=@Go.Sem.run_pure
abbrev gz:=@Go.Result.andThen_ok
abbrev gA:=@List.map_toArray
abbrev gB:=@List.map_cons
abbrev gC:=@List.map_nil
abbrev gD:=@Go.heap_alloc_new
abbrev gE:=@Nat.zero_add
abbrev gF:=@Nat.le_trans
abbrev gG:=@Array.getElem?_eq_none
abbrev gI:=@Go.Lib.hid
abbrev gJ:=@Int.le_of_lt
abbrev gK:=@List.append_assoc
abbrev gL:=@List.map_append
abbrev gM:=@Nat.add_assoc
abbrev gN:=@Go.RowKit.Below.refl
abbrev gO:=@List.nil_append
abbrev gP:=@List.take_append_drop
abbrev gQ:=@Bool.and_eq_true
abbrev gR:=@if_true
abbrev gS:=@List.length_map
abbrev gT:=@List.map_replicate
abbrev gU:=@List.drop_succ_cons
abbrev gV:=@Nat.min_eq_left
abbrev gW:=@Go.wpList_store_row
abbrev gX:=@Go.heap_alloc2_old
abbrev gY:=@Go.bodyPost_ret
abbrev gZ:=@Go.results_cell_row
abbrev g0:=@Go.setRow_heap
abbrev g6:=@Go.below_setRow
abbrev g7:=@List.getElem?_toArray
abbrev g8:=@Nat.add_comm
abbrev g9:=@List.getElem?_cons_succ
abbrev hM:=@List.getElem?_replicate
abbrev hU:=@Option.map_eq_some_iff
abbrev hY:=@List.mem_of_getElem?
abbrev hZ:=@Bool.eq_iff_iff
abbrev ia:=@decide_eq_true_eq
abbrev ib:=@List.mem_append
abbrev ic:=@List.mem_replicate
abbrev ie:=@Int.toNat_natCast
abbrev ig:=@Go.World.size_alloc
abbrev ij:=@Array.length_toList
abbrev ik:=@List.map_map
abbrev il:=@List.map_set
abbrev im:=@decide_eq_false_iff_not
abbrev iq:=@List.set_append_right
abbrev ir:=@List.take_succ_eq_append_getElem
abbrev iu:=@List.set_cons_zero
abbrev iv:=@Bool.eq_false_iff
abbrev iw:=@Array.getD_eq_getD_getElem?
abbrev iy:=@Nat.le_of_ble_eq_true
abbrev iz:=@Array.getElem?_setIfInBounds
abbrev iA:=@Ne.symm
abbrev iB:=@List.any_eq_true
abbrev iC:=@beq_iff_eq
abbrev iD:=@List.all_eq_true
abbrev iE:=@List.mem_singleton
abbrev iF:=@Bool.not_eq_true'
abbrev iG:=@List.mem_cons_self
abbrev iH:=@List.not_mem_nil
abbrev iI:=@or_false
abbrev iJ:=@Bool.false_and
abbrev iK:=@Bool.false_eq_true
abbrev iL:=@if_false
abbrev iM:=@Nat.add_zero
abbrev iN:=@Nat.lt_of_lt_of_le
abbrev iO:=@List.nodup_nil
abbrev iP:=@List.sublist_cons_self
abbrev iQ:=@List.nil_sublist
abbrev iR:=@List.mem_cons_of_mem
abbrev iS:=@List.nodup_cons
abbrev iT:=@List.nodup_append
abbrev iU:=@List.mem_append_right
abbrev iV:=@List.take_length_add_append
abbrev iW:=@List.drop_length_add_append
abbrev iX:=@List.set_append_left
abbrev iY:=@List.set_cons_succ
abbrev iZ:=@List.take_set
abbrev ja:=@List.take_left
abbrev jb:=@Int.natCast_mul
abbrev jc:=@List.append_nil
abbrev jd:=@List.take_add_one
abbrev je:=@List.length_set
abbrev jf:=@List.set_eq_take_append_cons_drop
abbrev jg:=@List.take_append_of_le_length
abbrev jh:=@List.drop_append_of_le_length
abbrev ji:=@List.length_pos_iff
abbrev jj:=@Nat.sub_mul
abbrev jk:=@Array.toList_inj
abbrev jl:=@Go.size_zeroCells
abbrev jm:=@List.perm_middle
abbrev jn:=@List.length_nil
abbrev jo:=@decide_eq_false
abbrev jq:=@decide_eq_true
abbrev jr:=@List.Perm.refl
abbrev js:=@List.perm_append_comm
abbrev jt:=@of_decide_eq_true
abbrev ju:=@List.getD_eq_getElem?_getD
abbrev jv:=@Nat.mul_one
abbrev jx:=@List.length_singleton
abbrev jy:=@Nat.not_lt_zero
abbrev jz:=@Array.getElem?_toList
abbrev jA:=@Array.getElem?_eq_getElem
abbrev jB:=@List.length_replicate
abbrev jC:=@List.eraseIdx_cons_succ
abbrev jD:=@List.getElem?_set
abbrev jE:=@List.mem_filter
abbrev jF:=@decide_eq_decide
abbrev jG:=@List.replicate_append_replicate
abbrev jH:=@List.take_length
abbrev jI:=@List.eraseIdx_eq_take_drop_succ
abbrev jJ:=@Option.isNone_iff_eq_none
abbrev jK:=@List.mem_iff_getElem?
abbrev jL:=@List.length_filter_le
abbrev jM:=@List.range_succ
abbrev jN:=@List.filter_append
abbrev jO:=@List.length_range
abbrev jP:=@List.length_take_le
abbrev jQ:=@Bool.and_false
abbrev jR:=@List.cons_sublist_cons
abbrev jS:=@Int.le_trans
abbrev jT:=@Nat.le_succ
abbrev jU:=@List.findIdx?_cons
abbrev jV:=@List.getElem?_set_self
abbrev jW:=@List.mem_or_eq_of_mem_set
abbrev jX:=@List.Sublist.refl
abbrev jY:=@List.filter_cons
abbrev jZ:=@List.foldl_append
abbrev j6:=@List.takeWhile_cons
abbrev j7:=@List.pairwise_iff_getElem
abbrev j8:=@List.takeWhile_sublist
abbrev j9:=@List.all_eq_false
abbrev ke:=@Nat.lt_succ_iff_lt_or_eq
abbrev kg:=@Bool.true_and
abbrev kh:=@Int.fdiv_eq_ediv_of_nonneg
abbrev kj:=@List.pairwise_cons
abbrev kk:=@List.mem_map_of_mem
abbrev kl:=@List.perm_append_comm_assoc
abbrev ko:=@Nat.add_sub_cancel_left
abbrev kp:=@List.pairwise_append
abbrev kr:=@List.take_sublist
abbrev ku:=@List.getElem?_set_ne
abbrev kv:=@List.sublist_append_right
abbrev kA:=@Bool.false_ne_true
abbrev kB:=@List.drop_of_length_le
abbrev kC:=@Bool.or_true
abbrev kD:=@Classical.byContradiction
abbrev kE:=@List.getElem?_mapIdx
abbrev kF:=@List.sum_cons
abbrev kG:=@ByteArray.size_extract
abbrev kH:=@List.getElem?_take_of_lt
abbrev kJ:=@Nat.le_add_right
abbrev kK:=@List.count_le_length
end Go
namespace Go.Proofs.YtloldofjddbjoaaGreat
open Go.RowKit
variable {n:Nat} {cs:List Value} {v:Value}
def le (n:Int):Nat->List Int
 |0=>[]
 |w+1=>n%256::le (n/256) w
def num:List Int->Int
 |[]=>0
 |b::l=>b+256*num l
theorem B1 (w:Nat):∀n,(le n w).length=w:=by
 induction w with
 |zero=>intro n; rfl
 |succ w ih=>intro n; simp[le,ih]
theorem QF (w:Nat):∀n,∀b∈le n w,0<=b/\b<256:=by
 induction w with
 |zero=>intro n b hb; simp[le] at hb
 |succ w ih =>
  intro n b hb
  simp only[le,fq] at hb
  rcases hb with rfl|hb
  · omega
  · exact ih _ b hb
theorem TN (n:Int) (w:Nat):n/256/256^w=n/256^(w+1):=by
 rw[Int.pow_succ,Int.mul_comm,ft (by decide)]
theorem QG (w:Nat):∀n,le n (w+1)=le n w++[n/256^w%256]:=by
 induction w with
 |zero=>intro n; simp[le]
 |succ w ih =>
  intro n
  rw[le,ih (n/256),le,fu,TN]
theorem Zz (l:List Int) (h:∀b∈l,0<=b/\b<256):0<=num l/\num l<256^l.length:=by
 induction l with
 |nil=>simp[num]
 |cons x l ih =>
  have hx:=h x (by simp)
  have hl:=ih (fun b hb=>h b (by simp[hb]))
  simp only[num,fv,Int.pow_succ]
  omega
theorem QH (a b:Int) (h0:0<=a) (h1:a<72057594037927936) (h2:0<=b) (h3:b<256):bits .or .u64 (IntKind.u64.wrap (a*256)) b=b+256*a:=by
 rw[fw,Int.emod_eq_of_lt (by omega) (by omega)]
 obtain⟨x,rfl⟩:=fy h0
 obtain⟨y,rfl⟩:=fy h2
 have e:(x:Int)*256=((2^8*x:Nat):Int):=by omega
 rw[e,u64_or_nat _ _ (by omega) (by omega),<-Nat.two_pow_add_eq_or_of_lt (by omega)]
 omega
theorem TO {a b:Nat} (h:a<=b):(256:Int)^a<=256^b:=by
 have e:∀n:Nat,(256:Int)^n=((256^n:Nat):Int):=fun n=>by simp only[Int.natCast_pow,Int.cast_ofNat_Int]
 rw[e,e]
 exact Int.ofNat_le.2 (fz (by decide) h)
theorem MY (l:List Int) (a j:Nat) (ha:a<l.length):num ((l.drop a).take (j+1))=l[a]?.getD 0+256*num ((l.drop (a+1)).take j):=by
 rw[fA ha,fC,num,fD ha]; rfl
theorem MZ (l:List Int) (a j:Nat) (hb:∀z∈l,0<=z/\z<256) (hj:j<=7):0<=num ((l.drop a).take j)/\num ((l.drop a).take j)<72057594037927936:=by
 have h:=Zz ((l.drop a).take j) (fun b hm=>hb b (List.mem_of_mem_drop (fF hm)))
 refine⟨h.1,Int.lt_of_lt_of_le h.2 ?_⟩
 have:((l.drop a).take j).length<=7:=by simp; omega
 have h2:=TO this
 simpa using h2
theorem QI {l:List Int} (hb:∀z∈l,0<=z/\z<256) (i:Nat):0<=l[i]?.getD 0/\l[i]?.getD 0<256:=by
 rcases fG i l.length with h|h
 · rw[fD h]; exact hb _ (fH h)
 · rw[fI h]; decide
inductive Sc where
 |i (k:IntKind)
 |b
 |s
def Sc.ok:Sc->Value->Prop
 |.i k,v=>∃z,v=.int k z/\(Lit.int k z).wf=true
 |.b,v=>∃c,v=.bool c
 |.s,v=>∃t:ByteArray,v=.string t/\t.size<=maxLen
def Cc (P:Program) (fl:TypeId->Option (List Sc)):List Field->List Sc->Option (List Sc)
 |[],acc=>some acc
 |f::fs,acc=>match fl f.type with
  |some l=>if f.offset=acc.length/\P.cellsOf f.type=l.length then Cc P fl fs (acc++l) else none
  |none=>none
def flat (P:Program):Nat->TypeId->Option (List Sc)
 |0,_=>none
 |n+1,t=>match P.underlying t with
  |some .bool=>some [.b]
  |some (.int k)=>some [.i k]
  |some .string=>some [.s]
  |some (.struct fs)=>match Cc P (flat P n) fs.toList [] with
   |some l=>if P.cellsOf t=l.length then some l else none
   |none=>none
  |some (.array m e)=>match flat P n e with
   |some l=>if P.cellsOf e=l.length/\P.cellsOf t=m*l.length/\0<l.length then some (List.replicate m l).flatten else none
   |none=>none
  |_=>none
def Kinds (ks:List Sc) (cs:List Value):Prop:=cs.length=ks.length/\∀(j:Nat) (k:Sc) (v:Value),ks[j]?=some k->cs[j]?=some v->k.ok v
theorem Kinds.append {a b:List Sc} (h1:Kinds a (cs.take a.length)) (h2:Kinds b (cs.drop a.length)):Kinds (a++b) cs:=by
 obtain⟨l1,k1⟩:=h1
 obtain⟨l2,k2⟩:=h2
 simp only[fJ] at l1
 simp only[fK] at l2
 refine⟨by rw[fL]; omega,fun j k v hk hv=>?_⟩
 by_cases hj:j<a.length
 · rw[fM hj] at hk
   exact k1 j k v hk (by rw[fN,fO hj]; exact hv)
 · rw[fP (by omega)] at hk
   exact k2 (j-a.length) k v hk (by rw[fQ]; rw[show a.length+(j-a.length)=j from by omega]; exact hv)
theorem Kinds.one {k:Sc} (h:k.ok v):Kinds [k] [v]:=by
 refine⟨rfl,fun j k' v' hk hv=>?_⟩
 match j with
 |0=>simp at hk hv; subst hk hv; exact h
 |j+1=>simp at hk
section
variable {H:Type} {enc:TypeId×Value->H} {P:Program} {w:World} {base:Nat} {spare:Nat->Bool} {held:Bool}
open Go.ChangeShapes Go.WideShapes
theorem KJ (n:Nat) (ih:∀(t:TypeId) (l:List Sc),flat P n t=some l->∀(fuel:Nat) (cs:List Value) (x:DataW H×List MemPlace),DataW.trod enc P w base spare held fuel t cs=some x->Kinds l cs)
 (cs:List Value) (fs:List Field):∀(acc l:List Sc),Cc P (flat P n) fs acc=some l->Kinds acc (cs.take acc.length) ->
 (∀f∈fs,∃(m:Nat) (y:DataW H×List MemPlace),DataW.trod enc P w base spare held m f.type ((cs.drop f.offset).take (P.cellsOf f.type))=some y)->Kinds l (cs.take l.length):=by
 induction fs with
 |nil =>
  intro acc l h ha _
  simp only[Cc,Option.some.injEq] at h
  subst h
  exact ha
 |cons f fs IH =>
  intro acc l h ha hf
  simp only[Cc] at h
  cases hfl:flat P n f.type with
  |none=>rw[hfl] at h; simp at h
  |some l1 =>
   rw[hfl] at h
   simp only at h
   by_cases hc:f.offset=acc.length/\P.cellsOf f.type=l1.length
   · rw[fO hc] at h
     obtain⟨m,y,hy⟩:=hf f (by simp)
     have hk:=ih f.type l1 hfl m _ y hy
     rw[hc.1,hc.2] at hk
     refine IH (acc++l1) l h ?_ (fun g hg=>hf g (by simp[hg]))
     have h1:(cs.take (acc++l1).length).take acc.length=cs.take acc.length:=by rw[List.take_take]; congr 1; simp
     have h2:(cs.take (acc++l1).length).drop acc.length=(cs.drop acc.length).take l1.length:=by rw[List.drop_take]; congr 1; simp
     exact Kinds.append (by rw[h1]; exact ha) (by rw[h2]; exact hk)
   · rw[fR hc] at h; simp at h
theorem Kinds.replicate {l:List Sc} (m:Nat):∀(cs:List Value),cs.length=m*l.length->(∀i,i<m->Kinds l ((cs.drop (i*l.length)).take l.length))->Kinds (List.replicate m l).flatten cs:=by
 induction m with
 |zero =>
  intro cs h _
  have:cs=[]:=fS (by simpa using h)
  subst this
  exact⟨rfl,fun j k v hk hv=>by simp at hk⟩
 |succ m ih =>
  intro cs h hi
  rw[fT,fU]
  have h0:=hi 0 (by omega)
  rw[Nat.zero_mul,fV] at h0
  refine Kinds.append h0 (ih (cs.drop l.length) (by rw[fK,h,fW]; omega) (fun i hi'=>?_))
  have h1:=hi (i+1) (by omega)
  rw[fX]
  rw[show l.length+i*l.length=(i+1)*l.length from by rw[fW]; omega]
  exact h1
theorem W6 (n:Nat):∀(t:TypeId) (l:List Sc),flat P n t=some l->∀(fuel:Nat) (cs:List Value) (x:DataW H×List MemPlace),DataW.trod enc P w base spare held fuel t cs=some x->Kinds l cs:=by
 induction n with
 |zero=>intro t l h; simp[flat] at h
 |succ n ih =>
  intro t l h fuel cs x hx
  unfold flat at h
  split at h
  · rename_i hu
    simp only[Option.some.injEq] at h
    subst h
    obtain⟨b,rfl,_⟩:=DataW.trod_bool hu hx
    exact Kinds.one ⟨b,rfl⟩
  · rename_i k hu
    simp only[Option.some.injEq] at h
    subst h
    obtain⟨z,rfl,_,hz⟩:=DataW.trod_int hu hx
    exact Kinds.one ⟨z,rfl,hz⟩
  · rename_i hu
    simp only[Option.some.injEq] at h
    subst h
    obtain⟨s,rfl,_,hs⟩:=DataW.trod_string hu hx
    exact Kinds.one ⟨s,rfl,hs⟩
  · rename_i fs hu
    cases hff:Cc P (flat P n) fs.toList [] with
    |none=>rw[hff] at h; simp at h
    |some l1 =>
     rw[hff] at h
     simp only at h
     by_cases hc:P.cellsOf t=l1.length
     · rw[fO hc] at h
       simp only[Option.some.injEq] at h
       subst h
       obtain⟨xs,m,_,_,hlen,hxl,hf⟩:=DataW.trod_struct hu hx
       have hk:=KJ (enc:=enc) (w:=w) (base:=base) (spare:=spare) (held:=held) n ih cs fs.toList [] l1 hff ⟨rfl,fun j k v hk hv=>by simp at hk⟩ (fun f hfm=>by
        obtain⟨i,hi⟩:=List.getElem?_of_mem hfm
        have hi':fs[i]?=some f:=by simpa using hi
        have hil:i<fs.size:=(fY.1 hi').1
        have:=hf i f hi'
        rw[fD (by omega)] at this
        exact⟨m,_,this⟩)
       rwa[fZ (by omega)] at hk
     · rw[fR hc] at h; simp at h
  · rename_i m e hu
    cases hfe:flat P n e with
    |none=>rw[hfe] at h; simp at h
    |some l1 =>
     rw[hfe] at h
     simp only at h
     by_cases hc:P.cellsOf e=l1.length/\P.cellsOf t=m*l1.length/\0<l1.length
     · rw[fO hc] at h
       simp only[Option.some.injEq] at h
       subst h
       obtain⟨xs,m',_,_,hlen,hxl,hf⟩:=DataW.trod_array hu hx
       refine Kinds.replicate m cs (by omega) (fun i hi=>?_)
       have:=hf i hi
       rw[fD (by omega),hc.1] at this
       exact ih e l1 hfe m' _ _ this
     · rw[fR hc] at h; simp at h
  · simp at h
end
def Rd (w:World) (B:Nat) (A:Option Addr) (xs:List Value):Prop :=
 xs≠[]->∃b off,A=some ⟨b,off,none⟩/\b<B/\∀j u,xs[j]?=some u->w.cell? ⟨b,off+j,none⟩=some u
section
variable {w w':World} {B B':Nat} {A:Option Addr} {xs:List Value}
theorem Rd.nil:Rd w B A []:=fun h=>absurd rfl h
theorem Rd.keep (h:Rd w B A xs) (hk:∀p:Addr,p.block<B->w'.cell? p=w.cell? p):Rd w' B A xs:=fun hn=>by
 obtain⟨b,off,e,hb,hc⟩:=h hn
 exact⟨b,off,e,hb,fun j u hu=>(hk _ hb).trans (hc j u hu)⟩
theorem Rd.more (h:Rd w B A xs) (hB:B<=B'):Rd w B' A xs:=fun hn=>by
 obtain⟨b,off,e,hb,hc⟩:=h hn
 exact⟨b,off,e,by omega,hc⟩
theorem Rd.below (h:Rd w B A xs) (hb:Below B w w'):Rd w' B A xs:=h.keep fun _ hp=>hb.cell hp
theorem Rd.alloc (h:Rd w B A xs) (hB:B<=w.heap.size) (o:Obj):Rd (w.alloc o) B A xs:=h.keep fun p hp=>World.cell?_alloc_lt w o p (by omega)
theorem Rd.drewN (h:Rd w B A xs) (n:Nat):Rd (w.drewN n) B A xs:=h
theorem Rd.grown (h:Rd w B A xs) {row:Option Nat} (hg:w.grownBy w' row) (hB:B<=w.heap.size) (hr:∀g,row=some g->B<=g):Rd w' B A xs :=
 h.keep fun p hp=>World.cell?_of_block (hg.block p.block (by omega) (fun e=>by have:=hr _ e.symm; omega))
theorem Rd.at_ {k:Nat} (h:Rd w B A xs) (hk:k<xs.length):∃b off,A=some ⟨b,off,none⟩/\b<B/\(∀j u,xs[j]?=some u->w.cell? ⟨b,off+j,none⟩=some u)/\w.cell? ⟨b,off+k,none⟩=some xs[k]:=by
 obtain⟨b,off,e,hb,hc⟩:=h (by intro e; subst e; simp at hk)
 exact⟨b,off,e,hb,hc,hc k _ (fD hk)⟩
end
section
variable {H:Type} {enc:TypeId×Value->H} {P:Program} {w:World} {spare:Nat->Bool} {held:Bool}
open Go.ChangeShapes Go.WideShapes Go.Deep
theorem M0 {a:Addr} {base:Nat} (h:w.cells? base a n=some cs):base<=a.block/\cs.length=n/\∀j,j<n->w.cell? (a.add j)=cs[j]?:=by
 obtain⟨h1,h2,h3⟩:=World.cells?_some h
 exact⟨h1,h2,h3⟩
theorem open_flat {t e:TypeId} {ks:List Sc} {v:Value} {d:DataW H} {p:List MemPlace} {r:Reach} {b0:Nat} (ht:P.underlying t=some (.slice e)) (hk:flat P n e=some ks) (hce:P.cellsOf e=ks.length) (hpos:0<ks.length)
 (hv:Value.okWide P w r b0 t v) (h:DataW.Trod enc P w 0 spare held t v d p) :
 ∃(A:Option Addr) (len cap:Nat) (xs:List Value),v=.slice A len cap/\len<=cap/\cap<=maxLen/\xs.length=len*ks.length/\Rd w w.heap.size A xs/\(∀i,i<len->Kinds ks ((xs.drop (i*ks.length)).take ks.length)):=by
 obtain⟨A,len,cap,rfl⟩:=okWide_slice ht hv
 have hlt:∀x∈p,x.block<w.heap.size:=by obtain⟨m,hm⟩:=h; exact DataW.trod_lt m _ _ _ hm
 obtain⟨fuel,hf⟩:=h
 rcases open_slice ht hf with⟨h0,_⟩|⟨a,len',cap',m,n',D,Pl,h0,_,hl,hm,hmm,hx,hi⟩
 · simp[Value.cells] at h0
   obtain⟨rfl,rfl,rfl⟩:=h0
   exact⟨none,0,0,[],rfl,ga _,gb _,by simp,Rd.nil,fun i hi=>absurd hi (by omega)⟩
 · simp[Value.cells] at h0
   obtain⟨rfl,rfl,rfl⟩:=h0
   have hlm:len<=m:=by rw[hmm]; split<;>omega
   rw[hce] at hi
   -- the cells,one by one
   have hcell:∀j,j<len*ks.length->∃u,w.cell? (a.add j)=some u:=by
    intro j hj
    have hq:j/ks.length<len:=Nat.div_lt_of_lt_mul (by rw[gf]; exact hj)
    obtain⟨cs',hc,_⟩:=hi (j/ks.length) (by omega)
    obtain⟨_,hcl,hat⟩:=M0 hc
    have hr:j%ks.length<ks.length:=gg _ hpos
    have:=hat (j%ks.length) hr
    rw[fD (by omega),Go.Deep.add_add] at this
    rw[show j/ks.length*ks.length+j%ks.length=j from Nat.div_add_mod' _ _] at this
    exact⟨_,this⟩
   refine⟨some a,len,cap,(List.range (len*ks.length)).map fun j=>(w.cell? (a.add j)).getD undef,rfl,hl,hm,by simp,?_,?_⟩
   · intro hne
     have hpos':0<len*ks.length:=by
      rcases gh (len*ks.length) with h0|h0
      · rw[h0] at hne; simp at hne
      · exact h0
     obtain⟨u,hu⟩:=hcell 0 hpos'
     have hlen:0<len:=Nat.pos_of_mul_pos_right hpos'
     have hspot:a.spot=none:=by
      have:=World.cell?_spot hu
      simpa [Addr.add] using this
     obtain⟨b,off,spot⟩:=a
     simp only at hspot
     subst hspot
     refine⟨b,off,rfl,?_,fun j u hu=>?_⟩
     · have:MemPlace.cell b off∈p:=by
        simp only[Prod.mk.injEq] at hx
        rw[hx.2]
        refine gi _ ?_
        unfold MemPlace.row
        rw[gj]
        refine⟨0,?_,by simp⟩
        rw[gk,hce]
        exact Nat.mul_pos (by omega) hpos
       exact hlt _ this
     · have hj:j<len*ks.length:=by
        have:=(gl.1 hu).1
        simpa using this
       simp only[gm,gn hj,gp,Option.some.injEq] at hu
       obtain⟨u',hu'⟩:=hcell j hj
       rw[hu'] at hu
       simp only[gq] at hu
       subst hu
       have he:(⟨b,off,none⟩:Addr).add j=⟨b,off+j,none⟩:=by unfold Addr.add; split<;>simp_all
       rw[he] at hu'
       exact hu'
   · intro i hilt
     obtain⟨cs',hc,htr⟩:=hi i (by omega)
     obtain⟨_,hcl,hat⟩:=M0 hc
     have hkk:=W6 n e ks hk n' cs' _ htr
     have hle:(i+1)*ks.length<=len*ks.length:=gr _ hilt
     rw[fW,gu] at hle
     have heq:((((List.range (len*ks.length)).map fun j=>(w.cell? (a.add j)).getD undef).drop (i*ks.length)).take ks.length)=cs':=by
      apply gv
      intro j
      by_cases hj:j<ks.length
      · rw[fN,fO hj,fQ]
        simp only[gm,gn (show i*ks.length+j<len*ks.length by omega),gp]
        have:=hat j hj
        rw[Go.Deep.add_add] at this
        rw[this,fD (by omega)]
        rfl
      · rw[fN,fR hj,fI (by omega)]
     rw[heq]
     exact hkk
end
theorem ints_of {k:IntKind} {xs:List Value} (hl:xs.length=n*1) (h:∀i,i<n->Kinds [Sc.i k] ((xs.drop (i*1)).take 1)):∃zs:List Int,xs=zs.map (Value.int k)/\zs.length=n/\∀z∈zs,(Lit.int k z).wf=true:=by
 induction xs generalizing n with
 |nil=>exact⟨[],rfl,by simpa using hl,by simp⟩
 |cons x xs ih =>
  cases n with
  |zero=>simp at hl
  |succ n =>
   obtain⟨zs,e,hz,hw⟩:=ih (n:=n) (by simpa using hl) (fun i hi=>by have:=h (i+1) (by omega); simpa using this)
   obtain⟨_,h0⟩:=h 0 (by omega)
   obtain⟨z,e0,w0⟩:=h0 0 (.i k) x rfl (by simp)
   subst e e0
   exact⟨z::zs,rfl,by simp[hz],fun y hy=>by rcases fq.1 hy with rfl|hy; exact w0; exact hw y hy⟩
end Go.Proofs.YtloldofjddbjoaaGreat
namespace Go.Proofs.YtloldofjddbjoaaGreat
open Go.RowKit
variable {size:Nat} {w:World}
structure App (P:Program) (t e:TypeId) (size bytes:Nat):Prop where
 ty:P.underlying t=some (.slice e)
 info:∃i z,P.info? e=some i/\i.zero=some z/\i.size=size/\i.bytes=bytes/\z.cells.size=size
 pos:0<size
theorem ZA {P:Program} {t e:TypeId} {z:Value} {bytes:Nat} (ty:P.underlying t=some (.slice e)) (h:(P.info? e).map (fun i=>(i.zero,i.size,i.bytes))=some (some z,size,bytes)) (hz:z.cells.size=size) (hp:0<size):App P t e size bytes:=by
 obtain⟨i,hi,h1,h2,h3⟩:=info_parts h
 exact⟨ty,⟨i,z,hi,h1,h2,h3,hz⟩,hp⟩
section
variable {P:Program} {w:World} {t e:TypeId} {size bytes:Nat}
theorem W7 (hT:App P t e size bytes) (ty:TypeId) (base:Nat) (v:Value) (n:Nat) (xs:List Value) (hown:w.ownsRow base e size v n xs)
 (B:Nat) (A:Option Addr) (m c:Nat) (news:List Value) (hl:news.length=m*size) (hr:Rd w B A news) (h1:∀u∈news,u.oneCell'=true)
 (h63:n+m<=maxLen) (hbytes:(n+m)*bytes<=140737488355328) (hbase:base<=w.heap.size) :
 ∃v' w',(Builtin.append_ #[t,t] ty #[v,.slice A m c]).run P w=.ok v' w'/\w'.ownsRow base e size v' (n+m) (xs++news)/\w.grownBy w' v.ownBlock/\(v'.ownBlock=v.ownBlock\/v'.ownBlock=some w.heap.size):=by
 obtain⟨ht,⟨i,z,hi,hz,hsize,hby,hzs⟩,hsz⟩:=hT
 cases A with
 |none =>
  have hn:news=[]:=by
   rcases news with _|⟨u,r⟩
   · rfl
   · obtain⟨b,off,h,_⟩:=hr (by simp); cases h
  subst hn
  have hm:m=0:=by
   have:m*size=0:=by simpa using hl.symm
   rcases gw.1 this with h|h
   · exact h
   · omega
  subst hm
  have hrun:(Builtin.append_ #[t,t] ty #[v,.slice none 0 c]).run P w=.ok v w:=by
   rcases hown.2 with⟨rfl,rfl⟩|⟨g,cap,cur,rfl,_,_,hnc,_⟩
   · simp[Builtin.append_,run_underlying ht,sizeOf,typeInfo,hi,Builtin.lenOf,Builtin.firstCells]
   · simp[Builtin.append_,run_underlying ht,sizeOf,typeInfo,hi,Builtin.lenOf,Builtin.firstCells,hnc,storeCells]
  exact⟨v,w,hrun,by simpa using hown,World.grownBy.refl w _,.inl rfl⟩
 |some ad =>
  have hcells:∀j u,news[j]?=some u->w.cell? (ad.add j)=some u:=by
   intro j u hu
   obtain⟨b,off,h,_,hc⟩:=hr (by intro e; subst e; simp at hu)
   simp only[Option.some.injEq] at h
   subst h
   have:=hc j u hu
   have he:(⟨b,off,none⟩:Addr).add j=⟨b,off+j,none⟩:=by unfold Addr.add; split<;>simp_all
   rw[he]; exact this
  obtain⟨v',w',hrun,h2,h3,_,h5⟩:=run_append_own_at (P:=P) w base t ty e i z size bytes ht hi hz hsize hby hzs hsz v n xs hown ad m c news hl hcells h1 h63 hbytes hbase
  exact⟨v',w',hrun,h2,h3,h5⟩
theorem ZB (hT:App P t e size bytes) {o:Oper} {a:Act} {K:Act->World->Prop} {Q:Exit->Act->World->Prop} (s x:Operand)
 (ho:o.op=.call {callee:=.builtin .append,args:=#[s,x],argTypes:=#[t,t]})
 (base:Nat) (v:Value) (n:Nat) (xs:List Value) (hs:a.eval s=v) (hown:w.ownsRow base e size v n xs)
 (B:Nat) (A:Option Addr) (m c:Nat) (news:List Value) (hx:a.eval x=.slice A m c) (hl:news.length=m*size) (hr:Rd w B A news) (h1:∀u∈news,u.oneCell'=true)
 (h63:n+m<=maxLen) (hbytes:(n+m)*bytes<=140737488355328) (hbase:base<=w.heap.size)
 (h:∀v' w',w'.ownsRow base e size v' (n+m) (xs++news)->w.grownBy w' v.ownBlock->(v'.ownBlock=v.ownBlock\/v'.ownBlock=some w.heap.size)->K (a.put o.dst v') w'):o.wp P a w K Q:=by
 obtain⟨v',w',hrun,h2,h3,h4⟩:=W7 hT o.type base v n xs hown B A m c news hl hr h1 h63 hbytes hbase
 unfold Oper.wp execOp
 simp only[ho,resolve,invoke,builtin,gx,gy,gz,gA,gB,gC,hs,hx,hrun]
 exact h v' w' h2 h3 h4
theorem LX (hT:App P t e size bytes) {ops:Array Oper} {rest:List Oper} {o:Oper} {a:Act} {Q:Exit->Act->World->Prop} (hgd:o.guard=none) (s x:Operand)
 (ho:o.op=.call {callee:=.builtin .append,args:=#[s,x],argTypes:=#[t,t]})
 (base:Nat) (v:Value) (n:Nat) (xs:List Value) (hs:a.eval s=v) (hown:w.ownsRow base e size v n xs)
 (B:Nat) (A:Option Addr) (m c:Nat) (news:List Value) (hx:a.eval x=.slice A m c) (hl:news.length=m*size) (hr:Rd w B A news) (h1:∀u∈news,u.oneCell'=true)
 (h63:n+m<=maxLen) (hbytes:(n+m)*bytes<=140737488355328) (hbase:base<=w.heap.size)
 (h:∀v' w',w'.ownsRow base e size v' (n+m) (xs++news)->w.grownBy w' v.ownBlock->(v'.ownBlock=v.ownBlock\/v'.ownBlock=some w.heap.size)->wpList P ops Q rest (a.put o.dst v') w'):wpList P ops Q (o::rest) a w :=
 wpList_plain hgd fun _ hK=>ZB hT s x ho base v n xs hs hown B A m c news hx hl hr h1 h63 hbytes hbase fun v' w' h2 h3 h4=>hK _ _ (h v' w' h2 h3 h4)
theorem M1 (hT:App P t e size bytes) {us:Array Value} {ops:Array Oper} {rest:List Oper} {o:Oper} {a:Act} {Q:Exit->Act->World->Prop} (hgd:o.guard=none) (s x:Operand)
 (ho:o.op=.call {callee:=.builtin .append,args:=#[s,x],argTypes:=#[t,t]})
 (base:Nat) (v:Value) (n:Nat) (xs:List Value) (hs:a.eval s=v) (hown:w.ownsRow base e size v n xs) (hx:a.eval x=.slice (some ⟨w.heap.size,0,none⟩) 1 1) (hu:us.size=size) (h1:∀u∈us.toList,u.oneCell'=true)
 (h63:n+1<=maxLen) (hbytes:(n+1)*bytes<=140737488355328) (hbase:base<=w.heap.size)
 (h:∀v' w',w'.ownsRow base e size v' (n+1) (xs++us.toList)->w.grownBy w' v.ownBlock->(v'.ownBlock=v.ownBlock\/v'.ownBlock=some (w.heap.size+1))->wpList P ops Q rest (a.put o.dst v') w'):wpList P ops Q (o::rest) a (w.alloc (.cells us e)):=by
 refine LX hT hgd s x ho base v n xs hs (hown.alloc _) (w.heap.size+1) _ 1 1 us.toList hx (by simp[hu]) ?_ h1 h63 hbytes (by simp; omega) ?_
 · intro _
   refine⟨w.heap.size,0,rfl,by omega,fun j u hj=>?_⟩
   have hh:(w.alloc (.cells us e)).heap[w.heap.size]?=some (.cells us e):=gD w _
   unfold World.cell?
   simp only[hh,gE]
   simpa using hj
 · intro v' w' h2 h3 h4
   refine h v' w' h2 ⟨h3.os,h3.tape,h3.output,gF (by simp) h3.size,fun k hk hne=>?_⟩ ?_
   · rw[h3.block k (by simp; omega) hne,Below.heap_alloc w _ k hk]
   · rcases h4 with h|h
     · exact .inl h
     · right; rw[h]; simp
end
theorem Rd.of_own {base e n:Nat} {v:Value} {xs:List Value} (h:w.ownsRow base e size v n xs):∃A c,v=.slice A n c/\n<=c/\c<=maxLen/\Rd w w.heap.size A xs/\(∀b,A.map (·.block)=some b->base<=b):=by
 rcases h.2 with⟨rfl,rfl⟩|⟨g,cap,cur,rfl,hb,hh,hnc,hm,hs,hx⟩
 · have hx:xs=[]:=fS (by simpa using h.1)
   subst hx
   exact⟨none,0,rfl,ga _,gb _,Rd.nil,fun b hb=>by simp at hb⟩
 · refine⟨some ⟨g,0,none⟩,cap,rfl,hnc,hm,fun _=>?_,fun b hb'=>by simp at hb'; omega⟩
   have hg:g<w.heap.size:=by
    rcases fG g w.heap.size with h|h
    · exact h
    · rw[gG h] at hh; cases hh
   refine⟨g,0,rfl,hg,fun j u hj=>?_⟩
   have:=h.cells (g:=g) rfl j u hj
   have he:(⟨g,0,none⟩:Addr).add j=⟨g,0+j,none⟩:=by unfold Addr.add; split<;>simp_all
   rw[<-he]; exact this
theorem Jt (k:IntKind) (zs:List Int):∀u∈zs.map (Value.int k),u.oneCell'=true:=ints_oneCell k zs
theorem QJ (k:IntKind) (z:Int):∀u∈(#[Value.int k z]:Array Value).toList,u.oneCell'=true:=by
 intro u hu; simp at hu; subst hu; rfl
theorem IK {B:Nat} {a:World} (h:Below B a w) (n:Nat):Below B a (w.drewN n):=⟨h.os,h.tape,h.output,h.size,h.block⟩
end Go.Proofs.YtloldofjddbjoaaGreat
namespace Go.Proofs.YtloldofjddbjoaaGreat
open Go.RowKit
variable {t:TypeId} {w:World} {u v:Value} {cs:List Value} {P:Program} {d:TypeDesc} {size:Nat}
theorem M3 {a b:Bool} (h:a=b):Ending.returned (.bool a)=.returned (.bool b):=by rw[h]
theorem QK (n:Int) (w:World) (h1:1<=n) (h2:n<=8):Calls Tryz.prog 298 #[.int .i64 n] w fun e w'=>e=.returned (.bool true)/\w=w':=by
 go_enter Tryz.func298,Tryz.ntmps298
 go_wp2
 go_ret
 exact⟨rfl,rfl⟩
theorem W8 (B:Nat) (A:Option Addr) (c:Nat) (zs:List Int) (at_ k:Nat) (w:World) (hrd:Rd w B A (zs.map (.int .u8))) (hz:∀z∈zs,0<=z/\z<256) (hl:zs.length<=65536) (h1:1<=k) (h2:k<=8) (h4:at_+k<=zs.length) :
 Calls Tryz.prog 300 #[.slice A zs.length c,.int .i64 at_,.int .i64 k] w fun e w'=>e=.returned (.tuple #[.int .u64 (num ((zs.drop at_).take k)),.bool true])/\w=w':=by
 obtain⟨b,off,rfl,hB,hc⟩:=hrd (by intro e; simp at e; subst e; simp at h4; omega)
 have hd:decide ((zs.length:Int)-k<at_)=false:=by simp; omega
 have HZ:=gI hz
 have HC:=gI hc
 clear hz hc hrd
 go_enter Tryz.func300,Tryz.ntmps300
 go_wp2_with (go_at_call 298; refine (QK _ _ (by omega) (by omega)).mono ?_; rintro e w' ⟨rfl,rfl⟩)
 go_loop [8,9] (fun n i=>∃j:Nat,j<=k/\i=.int .i64 ((j:Int)-1)/\n=.int .u64 (num ((zs.drop (at_+j)).take (k-j)))) (fun _ i=>(intOf i+1).toNat)
 case atStart=>exact⟨k,ga _,rfl,by simp[num]⟩
 case round =>
  obtain⟨j,hj,rfl,rfl⟩:=hrel
  by_cases h0:j=0
  · subst h0
    go_wp2
    go_ret2
    exact⟨by simp,rfl⟩
  · obtain⟨i,rfl⟩:∃i,j=i+1:=⟨j-1,by omega⟩
    have hcell:=HC.out (at_+i) (.int .u8 (zs[at_+i]?.getD 0)) (by rw[gm,fD (by omega)]; rfl)
    have hst:=gI (MY zs (at_+i) (k-(i+1)) (by omega))
    have hp:=MZ zs (at_+i+1) (k-(i+1)) HZ.out (by omega)
    have hby:=QI HZ.out (at_+i)
    go_wp2
    refine⟨⟨i,by omega,rfl,?_⟩,by simp[intOf]⟩
    rw[show at_+(i+1)=at_+i+1 from by omega,QH _ _ hp.1 hp.2 hby.1 hby.2,<-hst.out,show k-(i+1)+1=k-i from by omega]
theorem QL:App Tryz.prog 23 5 1 1:=ZA (z:=.int .u8 0) Tryz.underlying23 (by kernel_rfl) rfl (by decide)
def Out (B:Nat) (w:World) (e:TypeId) (n:Nat) (xs:List Value) (en:Ending) (w':World):Prop:=∃v,en=.returned v/\w'.ownsRow B e 1 v n xs/\Below w.heap.size w w'
theorem cD (n:Int) (j:Nat):n/256^j/256=n/256^(j+1):=by
 rw[Int.pow_succ,ft (gJ (Int.pow_pos (by decide)))]
theorem QM {B j:Nat} {zs:List Int} {n:Int} {wr w1:World} {v:Value} (hB:B<=wr.heap.size) (hb:Below B w wr) (hown:wr.ownsRow B 5 1 u (zs.length+j) ((zs++le n j).map (.int .u8)))
 (h2:w1.ownsRow B 5 1 v (zs.length+j+1) ((zs++le n j).map (.int .u8)++#[Value.int .u8 (n/256^j%256)].toList)) (hg:wr.grownBy w1 u.ownBlock) :
 w1.ownsRow B 5 1 v (zs.length+(j+1)) ((zs++le n (j+1)).map (.int .u8))/\Below B w w1:=by
 refine⟨?_,hb.grown hg hB (fun k hk=>(hown.lt k hk).1)⟩
 rw[QG,<-gK,gL,<-gM]
 exact h2
theorem W9 (B:Nat) (A:Option Addr) (c:Nat) (zs:List Int) (n:Int) (k:Nat) (w:World) (hrd:Rd w B A (zs.map (.int .u8))) (hl:zs.length<=65536) (h1:1<=k) (h2:k<=8) (hn:0<=n) :
 Calls Tryz.prog 274 #[.slice A zs.length c,.int .u64 n,.int .i64 k] w (Out w.heap.size w 5 (zs.length+k) ((zs++le n k).map (.int .u8))):=by
 go_enter Tryz.func274,Tryz.ntmps274
 go_wp2_with (first
  |(at_builtin; refine LX QL rfl _ _ rfl w.heap.size (.slice none 0 0) 0 [] rfl (World.ownsRow_nil _ _ _ _) B A zs.length c _ rfl (by simp) hrd (Jt _ _) (by unfold maxLen; omega) (by omega) (ga _) ?_; intro v1 w1 hown1 hg1 hat1)
  |(go_at_call 298; refine (QK _ _ (by omega) (by omega)).mono ?_; rintro e w' ⟨rfl,rfl⟩))
 have hb1:Below w.heap.size w w1:=(gN _ _).grown hg1 (ga _) (fun k hk=>by simp[Value.ownBlock] at hk)
 simp only[gE,gO] at hown1
 clear hg1 hat1 hrd
 go_loopw [1,7,15] (fun m v i wr=>∃j:Nat,j<=k/\i=.int .i64 j/\m=.int .u64 (n/256^j)/\wr.ownsRow w.heap.size 5 1 v (zs.length+j) ((zs++le n j).map (.int .u8))/\Below w.heap.size w wr) (fun _ _ i _=>k-(intOf i).toNat)
 case atStart=>exact⟨0,gb _,rfl,by simp,by simpa [le] using hown1,hb1⟩
 case round =>
  obtain⟨j,hj,rfl,rfl,hown,hb⟩:=hrel
  clear hown1 hb1
  by_cases hlt:j<k
  · have H8:=gI (cD n j)
    have h0:0<=n/256^j:=Int.ediv_nonneg hn (gJ (Int.pow_pos (by decide)))
    have hsz:=hb.size
    go_wp2_with (first|(at_builtin; go_must (refine M1 QL rfl _ _ rfl w.heap.size _ (zs.length+j) _ rfl hown rfl rfl (QJ _ _) (by unfold maxLen; omega) (by omega) hsz ?_); intro v2 w2 hown2 hg2 hat2))
    have R:=QM (w:=w) hsz hb hown hown2 hg2
    clear hown2 hg2 hat2 hown hb
    go_wp2
    go_roundw
    case rel=>exact⟨j+1,by omega,by go_num,by rw[H8.out],R.1,R.2⟩
    case measure=>simp[intOf]; omega
  · have:j=k:=by omega
    subst this
    go_wp2
    go_ret
    exact⟨_,rfl,hown,hb⟩
theorem TP (B:Nat) (A:Option Addr) (c:Nat) (zs:List Int) (at_ k:Nat) (w:World) (hrd:Rd w B A (zs.map (.int .u8))) (hz:∀z∈zs,0<=z/\z<256) (hl:zs.length<=65536) (h1:1<=k) (h2:k<=8) (h4:at_+k<=zs.length) :
 Calls Tryz.prog 280 #[.slice A zs.length c,.int .i64 at_,.int .i64 k] w fun e w'=>e=.returned (.tuple #[.int .u64 (num ((zs.drop at_).take k)),.bool true])/\w=w':=by
 obtain⟨b,off,rfl,hB,hc⟩:=hrd (by intro e; simp at e; subst e; simp at h4; omega)
 have hd:decide ((zs.length:Int)-k<at_)=false:=by simp; omega
 have HZ:=gI hz
 have HC:=gI hc
 clear hz hc hrd
 go_enter Tryz.func280,Tryz.ntmps280
 go_wp2
 go_loop [8,9] (fun n i=>∃j:Nat,j<=k/\i=.int .i64 ((j:Int)-1)/\n=.int .u64 (num ((zs.drop (at_+j)).take (k-j)))) (fun _ i=>(intOf i+1).toNat)
 case atStart=>exact⟨k,ga _,rfl,by simp[num]⟩
 case round =>
  obtain⟨j,hj,rfl,rfl⟩:=hrel
  by_cases h0:j=0
  · subst h0
    go_wp2
    go_ret2
    exact⟨by simp,rfl⟩
  · obtain⟨i,rfl⟩:∃i,j=i+1:=⟨j-1,by omega⟩
    have hcell:=HC.out (at_+i) (.int .u8 (zs[at_+i]?.getD 0)) (by rw[gm,fD (by omega)]; rfl)
    have hst:=gI (MY zs (at_+i) (k-(i+1)) (by omega))
    have hp:=MZ zs (at_+i+1) (k-(i+1)) HZ.out (by omega)
    have hby:=QI HZ.out (at_+i)
    go_wp2
    refine⟨⟨i,by omega,rfl,?_⟩,by simp[intOf]⟩
    rw[show at_+(i+1)=at_+i+1 from by omega,QH _ _ hp.1 hp.2 hby.1 hby.2,<-hst.out,show k-(i+1)+1=k-i from by omega]
theorem Xa (n:Int) (h:0<=n) (h2:n<18446744073709551616):bits .and .u64 n 255=n%256:=by
 obtain⟨m,rfl⟩:=fy h
 have:=u64_and_nat m 255 (by omega) (by decide)
 rw[show ((255:Nat):Int)=255 from rfl] at this
 rw[this,show m &&& 255=m%256 from Nat.and_two_pow_sub_one_eq_mod m 8]
 simp
theorem TQ (B:Nat) (A:Option Addr) (c:Nat) (zs:List Int) (n:Int) (k:Nat) (w:World) (hrd:Rd w B A (zs.map (.int .u8))) (hB:B<=w.heap.size) (hl:zs.length<=65536) (h1:1<=k) (h2:k<=8) (hn:0<=n) (hn2:n<18446744073709551616) :
 Calls Tryz.prog 226 #[.slice A zs.length c,.int .u64 n,.int .i64 k] w (Out w.heap.size w 5 (zs.length+k) ((zs++le n k).map (.int .u8))):=by
 have HN:=gI hn2
 clear hn2
 go_enter Tryz.func226,Tryz.ntmps226
 go_wp2_with (at_builtin; go_must (refine LX QL rfl _ _ rfl w.heap.size (.slice (some ⟨w.heap.size,0,none⟩) 0 0) 0 [] rfl (World.ownsRow_lit _ _ _ (ga _) (by decide) (by decide)) B A zs.length c _ rfl (by simp) (hrd.alloc hB _) (Jt _ _) (by unfold maxLen; omega) (by omega) (by simp) ?_); intro v1 w1 hown1 hg1 hat1)
 have hb1:Below w.heap.size w w1:=((gN _ _).alloc (ga _) _).grown hg1 (by simp) (fun k hk=>by simp[Value.ownBlock] at hk; omega)
 simp only[gE,gO] at hown1
 clear hg1 hat1 hrd
 go_loopw [1,7,8] (fun m v i wr=>∃j:Nat,j<=k/\i=.int .i64 j/\m=.int .u64 (n/256^j)/\wr.ownsRow w.heap.size 5 1 v (zs.length+j) ((zs++le n j).map (.int .u8))/\Below w.heap.size w wr) (fun _ _ i _=>k-(intOf i).toNat)
 case atStart=>exact⟨0,gb _,rfl,by simp,by simpa [le] using hown1,hb1⟩
 case round =>
  obtain⟨j,hj,rfl,rfl,hown,hb⟩:=hrel
  clear hown1 hb1
  by_cases hlt:j<k
  · have H8:=gI (cD n j)
    have h0:0<=n/256^j:=Int.ediv_nonneg hn (gJ (Int.pow_pos (by decide)))
    have ha:=Xa (n/256^j) h0 (Int.lt_of_le_of_lt (Int.ediv_le_self _ hn) HN.out)
    have hsz:=hb.size
    go_wp2_with (first|(at_builtin; go_must (refine M1 QL rfl _ _ rfl w.heap.size _ (zs.length+j) _ rfl hown rfl rfl (QJ _ _) (by unfold maxLen; omega) (by omega) hsz ?_); intro v2 w2 hown2 hg2 hat2))
    have R:=QM (w:=w) hsz hb hown hown2 hg2
    clear hown2 hg2 hat2 hown hb
    go_wp2
    go_roundw
    case rel=>exact⟨j+1,by omega,by go_num,by rw[H8.out],R.1,R.2⟩
    case measure=>simp[intOf]; omega
  · have:j=k:=by omega
    subst this
    go_wp2
    go_ret
    exact⟨_,rfl,hown,hb⟩
def Ev:Value->Lit
 |.int k n=>.int k n
 |.bool b=>.bool b
 |.string s=>.string s.data.toList
 |_=>.bool false
theorem Sc.lit_inj {k:Sc} (hu:k.ok u) (hv:k.ok v) (h:Ev u=Ev v):u=v:=by
 cases k with
 |i k=>obtain⟨z,rfl,_⟩:=hu; obtain⟨y,rfl,_⟩:=hv; simp only[Ev,Lit.int.injEq] at h; rw[h.2]
 |b=>obtain⟨z,rfl⟩:=hu; obtain⟨y,rfl⟩:=hv; simp only[Ev,Lit.bool.injEq] at h; rw[h]
 |s =>
  obtain⟨z,rfl,_⟩:=hu
  obtain⟨y,rfl,_⟩:=hv
  simp only[Ev,Lit.string.injEq] at h
  obtain⟨⟨z⟩⟩:=z
  obtain⟨⟨y⟩⟩:=y
  simp only at h
  rw[h]
theorem Kinds.lits_inj {ks:List Sc} {xs ys:List Value} (hx:Kinds ks xs) (hy:Kinds ks ys) (h:xs.map Ev=ys.map Ev):xs=ys:=by
 apply gv
 intro i
 by_cases hi:i<ks.length
 · have h1:i<xs.length:=by rw[hx.1]; exact hi
   have h2:i<ys.length:=by rw[hy.1]; exact hi
   rw[fD h1,fD h2]
   congr 1
   refine Sc.lit_inj (hx.2 i ks[i] _ (fD hi) (fD h1)) (hy.2 i ks[i] _ (fD hi) (fD h2)) ?_
   have:=congrArg (fun l=>l[i]?) h
   simpa [fD h1,fD h2] using this
 · rw[fI (by rw[hx.1]; omega),fI (by rw[hy.1]; omega)]
theorem Kinds.part {a b:List Sc} (h:Kinds (a++b) cs):Kinds a (cs.take a.length)/\Kinds b (cs.drop a.length):=by
 obtain⟨hl,hk⟩:=h
 rw[fL] at hl
 refine⟨⟨by rw[fJ]; omega,fun j k v h1 h2=>?_⟩,⟨by rw[fK]; omega,fun j k v h1 h2=>?_⟩⟩
 · have hj:=(gl.1 h1).1
   rw[fN,fO hj] at h2
   exact hk j k v (by rw[fM hj]; exact h1) h2
 · rw[fQ] at h2
   exact hk (a.length+j) k v (by rw[fP (by omega)]; rw[show a.length+j-a.length=j from by omega]; exact h1) h2
section
variable {P:Program}
theorem O7 {k:Sc} (h:Kinds [k] cs):∃v,cs=[v]/\k.ok v:=by
 match cs,h.1 with
 |[v],_=>exact⟨v,rfl,h.2 0 k v rfl rfl⟩
theorem Ju (fl:TypeId->Option (List Sc)) (fs:List Field):∀(acc l:List Sc),Cc P fl fs acc=some l->∃b,l=acc++b:=by
 induction fs with
 |nil=>intro acc l h; simp only[Cc,Option.some.injEq] at h; exact⟨[],by simp[h]⟩
 |cons g gs ih =>
  intro acc l h
  simp only[Cc] at h
  cases hg:fl g.type with
  |none=>rw[hg] at h; simp at h
  |some l2 =>
   rw[hg] at h
   simp only at h
   by_cases hc2:g.offset=acc.length/\P.cellsOf g.type=l2.length
   · rw[fO hc2] at h
     obtain⟨b,hb⟩:=ih (acc++l2) l h
     exact⟨l2++b,by rw[hb]; simp[gK]⟩
   · rw[fR hc2] at h; simp at h
theorem M4 (n D:Nat) (ih:∀(t:TypeId) (l:List Sc),flat P n t=some l->P.keyTypeAt n t=true->∀cs,Kinds l cs->P.keyLits D t cs=some (cs.map Ev))
 (cs:List Value) (fs:List Field):∀(acc l:List Sc),Cc P (flat P n) fs acc=some l->(∀f∈fs,P.keyTypeAt n f.type=true)->Kinds l (cs.take l.length) ->
 ∃lss:List (List Lit),fs.mapM (fun f=>P.keyLits D f.type ((cs.drop f.offset).take (P.cellsOf f.type)))=some lss/\lss.flatten=((cs.take l.length).drop acc.length).map Ev/\acc.length<=l.length:=by
 induction fs with
 |nil =>
  intro acc l h _ _
  simp only[Cc,Option.some.injEq] at h
  subst h
  exact⟨[],rfl,by simp,ga _⟩
 |cons f fs IH =>
  intro acc l h hk hcs
  simp only[Cc] at h
  cases hfl:flat P n f.type with
  |none=>rw[hfl] at h; simp at h
  |some l1 =>
   rw[hfl] at h
   simp only at h
   by_cases hc:f.offset=acc.length/\P.cellsOf f.type=l1.length
   · rw[fO hc] at h
     obtain⟨lss,h1,h2,h3⟩:=IH (acc++l1) l h (fun g hg=>hk g (by simp[hg])) hcs
     rw[fL] at h2 h3
     have hsub:Kinds l1 ((cs.drop acc.length).take l1.length):=by
      obtain⟨b,rfl⟩:=Ju (P:=P) (flat P n) fs (acc++l1) l h
      have:=(hcs.part).1
      have:=(this.part).2
      rw[List.take_take,List.drop_take,fL] at this
      rw[show min (acc.length+l1.length) ((acc++l1++b).length)-acc.length=l1.length from by simp] at this
      exact this
     have hl:=ih f.type l1 hfl (hk f (by simp)) _ hsub
     refine⟨(((cs.drop acc.length).take l1.length).map Ev)::lss,?_,?_,by omega⟩
     · rw[List.mapM_cons,hc.1,hc.2,hl,h1]; rfl
     · rw[fU,h2,<-gL]
       congr 1
       rw[show (cs.take l.length).drop (acc.length+l1.length)=(((cs.take l.length).drop acc.length).drop l1.length) from by rw[fX]]
       rw[show (cs.drop acc.length).take l1.length=((cs.take l.length).drop acc.length).take l1.length from by rw[List.drop_take,List.take_take]; congr 1; omega]
       exact gP _ _
   · rw[fR hc] at h; simp at h
theorem O8 {D:Nat} {e:TypeId} {l1:List Sc} (hce:P.cellsOf e=l1.length) (ih:∀cs,Kinds l1 cs->P.keyLits D e cs=some (cs.map Ev)) (m:Nat):∀(k:Nat) (cs:List Value),Kinds (List.replicate m l1).flatten (cs.drop (k*l1.length)) ->
 ∃lss:List (List Lit),(List.range' k m).mapM (fun i=>P.keyLits D e ((cs.drop (i*P.cellsOf e)).take (P.cellsOf e)))=some lss/\lss.flatten=(cs.drop (k*l1.length)).map Ev:=by
 induction m with
 |zero =>
  intro k cs h
  have:cs.drop (k*l1.length)=[]:=fS (by simpa using h.1)
  exact⟨[],rfl,by rw[this]; rfl⟩
 |succ m IH =>
  intro k cs h
  rw[fT,fU] at h
  obtain⟨h1,h2⟩:=h.part
  rw[fX,show k*l1.length+l1.length=(k+1)*l1.length from by rw[fW]; omega] at h2
  obtain⟨lss,e1,e2⟩:=IH (k+1) cs h2
  have hl:=ih _ h1
  refine⟨((cs.drop (k*l1.length)).take l1.length).map Ev::lss,?_,?_⟩
  · rw[List.range'_succ,List.mapM_cons,hce,hl]
    rw[hce] at e1
    rw[e1]; rfl
  · rw[fU,e2,<-gL]
    congr 1
    rw[show (k+1)*l1.length=k*l1.length+l1.length from by rw[fW]; omega,<-fX]
    exact gP _ _
theorem KZ (n:Nat):∀(t:TypeId) (l:List Sc),flat P n t=some l->P.keyTypeAt n t=true->∀cs,Kinds l cs->P.keyLits n t cs=some (cs.map Ev):=by
 induction n with
 |zero=>intro t l h; simp[flat] at h
 |succ n ih =>
  intro t l h hk cs hcs
  unfold flat at h
  unfold Program.keyLits
  unfold Program.keyTypeAt at hk
  split at h
  · rename_i hu
    simp only[Option.some.injEq] at h
    subst h
    obtain⟨v,rfl,b,rfl⟩:=O7 hcs
    rw[hu]; rfl
  · rename_i k hu
    simp only[Option.some.injEq] at h
    subst h
    obtain⟨v,rfl,z,rfl,hz⟩:=O7 hcs
    rw[hu]
    simp[hz,Ev]
  · rename_i hu
    simp only[Option.some.injEq] at h
    subst h
    obtain⟨v,rfl,z,rfl,hz⟩:=O7 hcs
    rw[hu]
    simp[hz,Ev]
  · rename_i fs hu
    rw[hu] at hk
    simp only at hk
    cases hff:Cc P (flat P n) fs.toList [] with
    |none=>rw[hff] at h; simp at h
    |some l1 =>
     rw[hff] at h
     simp only at h
     by_cases hc:P.cellsOf t=l1.length
     · rw[fO hc] at h
       simp only[Option.some.injEq] at h
       subst h
       simp only[gQ,Array.all_eq_true',bne_iff_ne,ne_eq] at hk
       obtain⟨⟨hk1,_⟩,_⟩:=hk
       have hk2:∀f∈fs.toList,P.keyTypeAt n f.type=true:=fun f hf=>(hk1 f (by simpa using hf)).2
       have hcs':cs.take l1.length=cs:=fZ (by rw[hcs.1]; exact ga _)
       obtain⟨lss,h1,h2,_⟩:=M4 n n ih cs fs.toList [] l1 hff hk2 (by rw[hcs']; exact hcs)
       have hnames:fs.all (fun x=>x.name != "_")=true:=by
        rw[Array.all_eq_true']
        intro f hf
        simpa using (hk1 f hf).1
       rw[hu]
       simp only[hc,hcs.1,hnames,and_self,gR,h1,gp]
       rw[h2,hcs']
       rfl
     · rw[fR hc] at h; simp at h
  · rename_i m e hu
    rw[hu] at hk
    simp only at hk
    cases hfe:flat P n e with
    |none=>rw[hfe] at h; simp at h
    |some l1 =>
     rw[hfe] at h
     simp only at h
     by_cases hc:P.cellsOf e=l1.length/\P.cellsOf t=m*l1.length/\0<l1.length
     · rw[fO hc] at h
       simp only[Option.some.injEq] at h
       subst h
       obtain⟨lss,h1,h2⟩:=O8 hc.1 (ih e l1 hfe hk) m 0 cs (by simpa using hcs)
       rw[hu]
       have hlen:cs.length=P.cellsOf t:=by rw[hcs.1,hc.2.1]; simp
       simp only[hlen,gR]
       rw[List.range_eq_range',h1]
       simp only[gp,h2]
       simp
     · rw[fR hc] at h; simp at h
  · simp at h
theorem FU {w:World} {n:Nat} {ks:List Sc} {xs ys:Array Value} (hf:flat P n t=some ks) (hk:P.keyTypeAt n t=true) (hd:n<=10000) (hc:P.cellsOf t=ks.length)
 (ha:(match P.underlying t with|some (.struct _)|some (.array _ _)=>true|_=>false)=true) (hx:Kinds ks xs.toList) (hy:Kinds ks ys.toList) :
 ∃r:Bool,(Op.equalIn 10000 t (.agg xs) (.agg ys)).run P w=.ok r w/\(r=true↔xs=ys):=by
 have H:=run_equalIn_deep (P:=P) (10000-n) n t hk
 rw[show 10000-n+n=10000 from by omega] at H
 have fx:∀zs:Array Value,Kinds ks zs.toList->(Value.agg zs).formed P t=true:=by
  intro zs hz
  have hs:zs.size=P.cellsOf t:=by rw[hc,<-hz.1]; simp
  unfold Value.formed
  split at ha
  · rename_i hu; simp[hu,hs]
  · rename_i hu; simp[hu,hs]
  · simp at ha
 obtain⟨r,h1,h2⟩:=H w n n (.agg xs) (.agg ys) _ _ (fx xs hx) (fx ys hy) (KZ n t ks hf hk _ hx) (KZ n t ks hf hk _ hy)
 refine⟨r,h1,h2.trans ⟨fun h=>?_,fun h=>by rw[h]⟩⟩
 have:=hx.lits_inj hy h
 exact Array.ext' this
end
def M5 (P:Program) (t:TypeId) (w:World) (a:Addr):Result Value:=(loadVar t a).run P w
def QN (P:Program) (t:TypeId) (size:Nat) (w:World) (a:Addr):Result Value :=
 match w.heap[a.block]? with
 |some (.cells cs _ _)=>if a.off=0/\a.spot=none/\cs.size=size then .ok (.agg cs) w else M5 P t w a
 |_=>M5 P t w a
theorem H0 {P:Program} {t:TypeId} {d:TypeDesc} {size:Nat} (hu:P.underlying t=some d) (hd:(match d with|.struct _|.array _ _=>true|_=>false)=true) (hi:(P.info? t).map (·.size)=some size) (w:World) (a:Addr) :
 (loadVar t a).run P w=QN P t size w a:=by
 unfold QN
 split
 · rename_i cs e fr h
   split
   · rename_i hc
     obtain⟨b,off,spot⟩:=a
     obtain⟨h1,h2,h3⟩:=hc
     simp only at h1 h2
     subst h1 h2
     exact run_loadVar_row w b e t cs fr d h hu hd (by rw[h3]; exact hi)
   · rfl
 · rfl
def LY (P:Program) (t:TypeId) (size:Nat) (w:World):Value->Result Next
 |.pointer (some a)=>(QN P t size w a).andThen fun v w'=>.ok (.value v) w'
 |v=>(Instr.loadAt t v).run P w |>.andThen fun v w'=>.ok (.value v) w'
theorem Jv {P:Program} {t:TypeId} {d:TypeDesc} {size:Nat} (hu:P.underlying t=some d) (hd:(match d with|.struct _|.array _ _=>true|_=>false)=true) (hi:(P.info? t).map (·.size)=some size) (w:World)
 (ρ:Operand->Value) (o:Oper) (x:Operand) (ho:o.op=.load t x):(execOp ρ o).run P w=LY P t size w (ρ x):=by
 have e:(execOp ρ o).run P w=((Instr.loadAt t (ρ x)).run P w).andThen fun v w'=>.ok (.value v) w':=by
  simp only[execOp,ho,gx,gy]
 rw[e]
 generalize ρ x=v
 unfold LY
 split
 · simp only[Instr.loadAt,Instr.sureAddr,gx,gy,gz,H0 hu hd hi]
 · rfl
end Go.Proofs.YtloldofjddbjoaaGreat
namespace Go.Proofs.YtloldofjddbjoaaGreat
open Go.RowKit
variable {n:Int} {bs:List Int} {W:World} {g:Nat} {t:TypeId}
def val (n:Int) (bs:List Int):Array Value:=(Value.int .i64 n::bs.map (Value.int .u8)).toArray
def pad (zs:List Int) (n:Nat):List Int:=zs++List.replicate (n-zs.length) 0
theorem EJ (zs:List Int) (n:Nat) (h:zs.length<=n):(pad zs n).length=n:=by simp[pad]; omega
theorem DP (n:Int) (bs:List Int) (h:bs.length=16):(val n bs).size=17:=by simp[val,h]
theorem Gj (n:Int) (bs:List Int):∀u∈(val n bs).toList,u.oneCell'=true:=by
 intro u hu
 simp only[val,fq,gj] at hu
 rcases hu with rfl|⟨z,_,rfl⟩<;>rfl
theorem C8:(Tryz.prog.info? 56).map (·.size)=some 17:=by kernel_rfl
theorem cE:(Tryz.prog.info? 5).map (·.size)=some 1:=by kernel_rfl
def C9 (w:World) (v:Value) (e:Ending) (w':World):Prop:=e=.returned v/\Below w.heap.size w w'
theorem O9 (zs:List Int) (n:Int) (hl:zs.length<=16):(splice ((Value.int .i64 n)::List.replicate 16 (Value.int .u8 0)) 1 (zs.map (Value.int .u8))).toArray=val n (pad zs 16):=by
 unfold splice val pad
 congr 1
 simp only[fC,List.take_zero,gS,fu,gO,gL,gT]
 rw[show 1+zs.length=zs.length+1 from by omega,gU,List.drop_replicate]
theorem Xb (zs:List Int) (n:Nat) (hl:zs.length<=n):(zs.map (Value.int .u8)).length=Nat.min zs.length n:=by rw[gS]; exact (gV hl).symm
theorem Xc {w:World} {B:Nat} {A:Option Addr} {xs:List Value} (h:Rd w B A xs):0<xs.length->∃ad,A=some ad/\∀j v,xs[j]?=some v->w.cell? (ad.add j)=some v:=by
 intro hp
 obtain⟨b,off,rfl,_,hc⟩:=h (by intro e; subst e; simp at hp)
 refine⟨_,rfl,fun j v hj=>?_⟩
 have he:(⟨b,off,none⟩:Addr).add j=⟨b,off+j,none⟩:=by unfold Addr.add; split<;>simp_all
 rw[he]; exact hc j v hj
theorem Gk {cs:Array Value} (h:∀u∈cs.toList,u.oneCell'=true):cs.all (·.oneCell')=true:=by
 rw[Array.all_eq_true_iff_forall_mem]; exact fun v hv=>h v (by simpa using hv)
set_option maxHeartbeats 400000 in
theorem Pa (B:Nat) (A:Option Addr) (c:Nat) (zs:List Int) (w:World) (hrd:Rd w B A (zs.map (.int .u8))) (hB:B<=w.heap.size) (hl:zs.length<=16) :
 Calls Tryz.prog 187 #[.slice A zs.length c] w (C9 w (.agg (val zs.length (pad zs 16)))):=by
 have HD:=gI hrd
 have HS:=gI (O9 zs zs.length hl)
 have hsz:=gI (DP zs.length (pad zs 16) (EJ zs 16 hl))
 clear hrd
 go_enter Tryz.func187,Tryz.ntmps187
 go_wp2_with (first
  |(refine wpList_copy_splice rfl (.tmp 8) (.tmp 9) 23 23 rfl 5 Tryz.underlying23 cE _ _ 16 16 zs.length c rfl rfl (w.heap.size+1) 1 (Value.int .i64 zs.length::List.replicate 16 (Value.int .u8 0)) 56 (heap_alloc2_new w _ _) (zs.map (Value.int .u8)) (Xb zs 16 hl) (fun h=>⟨rfl,Xc ((HD.out.alloc hB _).alloc (gF hB (by simp)) _) h⟩) (by simp; omega) (Jt _ _) (w.heap.size+1) _ (gN _ _) (ga _) ?_; intro w1 hh hb; rw[HS.out] at hh)
  |(refine wpList_load_row rfl 56 (.tmp 3) rfl (w.heap.size+1) rfl 56 _ (0,0) _ hh.out Tryz.underlying56 rfl (by rw[hsz.out]; exact C8) ?_)
  |(refine gW rfl 56 (.tmp 2) (.tmp 11) rfl w.heap.size _ rfl rfl 56 _ ((hb.block w.heap.size (by omega)).trans (gX w _ _)) (by rw[hsz.out]; exact C8) (by rw[hsz.out]; rfl) (Gk (Gj _ _)) ?_))
 have hz:=(hb.block w.heap.size (by omega)).trans (gX w _ _)
 refine gY (gZ rfl _ _ w.heap.size 56 _ (0,0) _ rfl (g0 _ _ _ _ _ _ hz) Tryz.underlying56 rfl (by rw[hsz.out]; exact C8)) rfl ⟨rfl,?_⟩
 exact g6 ((((gN _ _).alloc (ga _) _).alloc (by simp) _).trans (hb.mono (by simp))) (ga _) _
theorem QO (n:Int) (bs:List Int):(val n bs)[0]?=some (.int .i64 n):=by simp[val]
set_option maxHeartbeats 400000 in
theorem TR (n:Int) (bs:List Int) (w:World) (h:n<0) :
 Calls Tryz.prog 316 #[.agg (val n bs)] w (C9 w (.bool false)):=by
 have v0:=QO n bs
 have hd:decide (0<=n)=false:=by simp; omega
 clear h
 go_enter Tryz.func316,Tryz.ntmps316
 go_wp2
 go_quiet (fail)
 go_wp2
 go_ret
 exact⟨rfl,IK ((gN _ _).alloc (ga _) _) _⟩
set_option maxHeartbeats 400000 in
theorem TS (n:Int) (bs:List Int) (w:World) (h0:0<=n) (h:16<n) :
 Calls Tryz.prog 316 #[.agg (val n bs)] w (C9 w (.bool false)):=by
 have v0:=QO n bs
 have hd:decide (n<=16)=false:=by simp; omega
 clear h
 go_enter Tryz.func316,Tryz.ntmps316
 go_wp2
 go_quiet (fail)
 go_wp2
 go_ret
 exact⟨rfl,IK ((gN _ _).alloc (ga _) _) _⟩
theorem Rd.val_take (k:Nat) (h:W.heap[g]?=some (.cells (val n bs) t (0,0))):Rd W (g+1) (some ⟨g,1,none⟩) ((bs.take k).map (.int .u8)):=by
 intro _
 refine⟨g,1,rfl,by omega,fun j u hu=>?_⟩
 rw[cell_of_row W g (1+j) _ t (0,0) h]
 rw[gm,fN] at hu
 split at hu
 · simp only[val,g7,g8 1 j,g9,gm]
   exact hu
 · simp at hu
theorem Xd (k c:Nat) (hk:k<=16) (hb:bs.length=16) (hg:g<W.heap.size) (h:W.heap[g]?=some (.cells (val n bs) t (0,0))) :
 Calls Tryz.prog 187 #[.slice (some ⟨g,1,none⟩) k c] W (C9 W (.agg (val k (pad (bs.take k) 16)))):=by
 have hl:(bs.take k).length=k:=by rw[fJ]; omega
 have C:=Pa (g+1) (some ⟨g,1,none⟩) c (bs.take k) W (Rd.val_take k h) (by omega) (by omega)
 rw[hl] at C
 exact C
theorem ZC (w:World) (ρ:Operand->Value) (d:Option Tmp) (x:Operand) (ty:TypeId) (pos:String) (af:Array Edge) (gd:Option (Nat×Bool)) :
 (execOp ρ {dst:=d,op:=.load 56 x,type:=ty,pos:=pos,after:=af,guard:=gd}).run Tryz.prog w=LY Tryz.prog 56 17 w (ρ x):=Jv Tryz.underlying56 rfl C8 w ρ _ x rfl
attribute [local go_sem ↓] ZC
attribute [local go_sem] QN LY
theorem K0 (n:Int) (bs:List Int) (hn:(Lit.int .i64 n).wf=true) (hb:bs.length=16) (hw:∀b∈bs,(Lit.int .u8 b).wf=true):Kinds (Sc.i .i64::List.replicate 16 (Sc.i .u8)) (val n bs).toList:=by
 refine⟨by simp[val,hb],fun j k v h1 h2=>?_⟩
 cases j with
 |zero=>simp[val] at h1 h2; subst h1 h2; exact⟨n,rfl,hn⟩
 |succ j =>
  simp only[g9,hM] at h1
  split at h1
  · simp only[Option.some.injEq] at h1
    subst h1
    simp only[val,g9,gm,hU] at h2
    obtain⟨z,hz,rfl⟩:=h2
    exact⟨z,rfl,hw z (hY hz)⟩
  · simp at h1
theorem M6 (cs:List Int):∀bs:List Int,cs.map (Value.int .u8)=bs.map (Value.int .u8)->cs=bs:=by
 induction cs with
 |nil=>intro bs h; cases bs with
  |nil=>rfl
  |cons b bs=>simp at h
 |cons a cs ih=>intro bs h; cases bs with
  |nil=>simp at h
  |cons b bs =>
   simp only[gB,List.cons.injEq,Value.int.injEq,true_and] at h
   rw[h.1,ih bs h.2]
theorem Xe {m:Int} {cs:List Int} (h:val n cs=val m bs):n=m/\cs=bs:=by
 unfold val at h
 have h:=congrArg Array.toList h
 simp only[List.cons.injEq,Value.int.injEq,true_and] at h
 exact⟨h.1,M6 cs bs h.2⟩
set_option maxRecDepth 100000 in
/-- Two values,held against each other. -/
theorem ZD (n m:Int) (cs bs:List Int) (hn:(Lit.int .i64 n).wf=true) (hm:(Lit.int .i64 m).wf=true) (ha:cs.length=16) (hb:bs.length=16) (wa:∀b∈cs,(Lit.int .u8 b).wf=true) (wb:∀b∈bs,(Lit.int .u8 b).wf=true) (W:World) :
 (Op.equalIn 10000 56 (.agg (val n cs)) (.agg (val m bs))).run Tryz.prog W=.ok (decide (n=m/\cs=bs)) W:=by
 obtain⟨r,h1,h2⟩:=FU (P:=Tryz.prog) (w:=W) (n:=3) (t:=56) (by kernel_rfl) (by kernel_rfl) (by decide) (by kernel_rfl) (by kernel_rfl) (K0 n cs hn ha wa) (K0 m bs hm hb wb)
 rw[h1]
 congr 1
 rw[hZ,h2]
 simp only[ia]
 exact⟨fun h=>Xe h,fun h=>by rw[h.1,h.2]⟩
theorem wf_u8 {z:Int} (h0:0<=z) (h1:z<256):(Lit.int .u8 z).wf=true:=by simp[Lit.wf,IntKind.min,IntKind.max,IntKind.signed,IntKind.bits]; omega
theorem M7 {k:Nat} (h:k<=16):(Lit.int .i64 (k:Int)).wf=true:=by simp[Lit.wf,IntKind.min,IntKind.max,IntKind.signed,IntKind.bits]; omega
theorem Pb {zs:List Int} (n:Nat) (h:∀b∈zs,(Lit.int .u8 b).wf=true):∀b∈pad zs n,(Lit.int .u8 b).wf=true:=by
 intro b hb
 rcases ib.1 hb with hb|hb
 · exact h b hb
 · rw[(ic.1 hb).2]; decide
set_option maxHeartbeats 400000 in
theorem R0 (k:Nat) (bs:List Int) (w:World) (h:k<=16) (hb:bs.length=16) (wb:∀b∈bs,(Lit.int .u8 b).wf=true) :
 Calls Tryz.prog 316 #[.agg (val k bs)] w (C9 w (.bool (decide (pad (bs.take k) 16=bs)))):=by
 have v0:=QO k bs
 have h':(k:Int)<=16:=by omega
 have heq:=ZD k k (pad (bs.take k) 16) bs (M7 h) (M7 h) (EJ _ _ (by simp; omega)) hb (Pb 16 (fun b hb=>wb b (fF hb))) wb
 simp only[true_and] at heq
 obtain⟨r,hr⟩:∃r,decide (pad (bs.take k) 16=bs)=r:=⟨_,rfl⟩
 rw[hr] at heq ⊢
 clear hr
 have hsz:=DP k bs hb
 go_enter Tryz.func316,Tryz.ntmps316
 go_wp2
 obtain⟨w1,hw1⟩:∃w1,w1=w.alloc (Obj.cells (val k bs) 56):=⟨_,rfl⟩
 have hg:=gD w (Obj.cells (val k bs) 56)
 have hlt:w.heap.size<w1.heap.size:=by rw[hw1]; simp
 rw[<-hw1] at hg ⊢
 have hc:w1.cell? ⟨w.heap.size,0,none⟩=some (.int .i64 k):=by rw[cell_of_row w1 _ 0 _ _ _ hg]; exact v0
 have HB1:Hid (Below w.heap.size w w1):=gI (by rw[hw1]; exact (gN _ _).alloc (ga _) _)
 clear hw1
 go_region_held3 (fun W=>W.cell? ⟨w.heap.size,0,none⟩=some (.int .i64 k)/\W.heap[w.heap.size]?=some (.cells (val k bs) 56 (0,0))/\Below w1.heap.size w1 W) (first|exact⟨hc2,hg2,hb2⟩|exact⟨hc,hg,(gN _ _).drew⟩)
  (first|(go_at_call 187; refine (Xd (W:=w1.drew) (g:=w.heap.size) (t:=56) (n:=k) (bs:=bs) k _ h hb hlt hg).mono ?_; rintro e w2 ⟨rfl,hb1⟩; have hb2:Below w1.heap.size w1 w2:=(gN _ _).drew.trans hb1; have hg2:=(hb2.block w.heap.size hlt).trans hg; have hc2:=(hb2.cell (p:=⟨w.heap.size,0,none⟩) hlt).trans hc))
 go_wp2
 go_ret
 exact⟨rfl,HB1.out.trans (hb2.mono HB1.out.size)⟩
end Go.Proofs.YtloldofjddbjoaaGreat
namespace Go.Proofs.YtloldofjddbjoaaGreat
open Go.RowKit Go.ChangeShapes Go.ChangeAt Go.WideShapes
def C0 (n:Int) (bs:List Int):Bool:=decide (0<=n/\n<=16/\pad (bs.take n.toNat) 16=bs)
theorem R1 (n:Int) (bs:List Int) (w:World) (hb:bs.length=16) (wb:∀b∈bs,(Lit.int .u8 b).wf=true) :
 Calls Tryz.prog 316 #[.agg (val n bs)] w (C9 w (.bool (C0 n bs))):=by
 by_cases h0:n<0
 · rw[show C0 n bs=false from by simp[C0]; omega]
   exact TR n bs w h0
 · by_cases h1:16<n
   · rw[show C0 n bs=false from by simp[C0]; omega]
     exact TS n bs w (by omega) h1
   · obtain⟨k,rfl⟩:=fy (show 0<=n by omega)
     rw[show C0 k bs=decide (pad (bs.take k) 16=bs) from by
      unfold C0
      rw[hZ]
      simp only[ia,ie]
      exact⟨fun h=>h.2.2,fun h=>⟨by omega,by omega,h⟩⟩]
     exact R0 k bs w (by omega) hb wb
set_option maxHeartbeats 400000 in
theorem Pc (n:Int) (bs:List Int) (w:World) (hb:bs.length=16) (wb:∀b∈bs,(Lit.int .u8 b).wf=true) :
 Calls Tryz.prog 277 #[.agg (val n bs)] w (C9 w (.int .u64 (num (bs.take 8)))):=by
 have hg:=gD w (Obj.cells (val n bs) 56)
 have hr:=Rd.val_take 16 hg
 rw[fZ (by omega)] at hr
 have HN:=W8 (w.heap.size+1) _ 16 bs 0 8 _ hr (fun z h=>by have:=bounds_u8 (wb z h); omega) (by omega) (by decide) (by decide) (by omega)
 rw[fV,hb] at HN
 have H:=gI HN
 clear HN hg hr
 go_enter Tryz.func277,Tryz.ntmps277
 go_wp2_with (go_at_call 300; refine H.out.mono ?_; rintro e w1 ⟨rfl,rfl⟩)
 go_ret
 exact⟨rfl,(gN _ _).alloc (ga _) _⟩
def DY (n:Int):List Int:=pad (le n 8) 16
theorem Ef (n:Int):(DY n).length=16:=EJ _ _ (by rw[B1]; decide)
set_option maxHeartbeats 400000 in
theorem TT (n:Int) (w:World) (h0:0<=n) :
 Calls Tryz.prog 276 #[.int .u64 n] w (C9 w (.agg (val 8 (DY n)))):=by
 have HP:=fun W=>W9 0 none 0 [] n 8 W Rd.nil (by decide) (by decide) (by decide) h0
 have H:=gI HP
 have hsz:=gI (DP 8 (DY n) (Ef n))
 clear HP
 go_enter Tryz.func276,Tryz.ntmps276
 go_wp2_with fail
 refine (H.out _).mono ?_
 rintro e w1 ⟨v,rfl,own,hb1⟩
 rw[gO,show ([]:List Int).length+8=(le n 8).length from by rw[B1]; rfl] at own
 obtain⟨A1,c1,rfl,_,_,rd,_⟩:=Rd.of_own own
 have HO:=Pa _ A1 c1 (le n 8) w1 rd (ga _) (by rw[B1]; decide)
 have HZ:=gI ((hb1.block w.heap.size (by simp)).trans (gD w _))
 have HB:=gI (((gN w.heap.size w).alloc (ga _) _).trans (hb1.mono (by simp)))
 have hlt:w.heap.size<w1.heap.size:=by have:=hb1.size; simp at this; omega
 clear own rd hb1
 rw[B1] at HO
 have HO:Hid (Calls Tryz.prog 187 #[.slice A1 8 c1] w1 (C9 w1 (.agg (val 8 (DY n))))):=gI HO
 go_wp2_with fail
 rw[B1]
 refine HO.out.mono ?_
 rintro e w2 ⟨rfl,hb2⟩
 have hz:=(hb2.block w.heap.size hlt).trans HZ.out
 have HB2:=gI (HB.out.trans (hb2.mono HB.out.size))
 clear hb2
 have HZ2:=gI hz
 clear hz
 go_wp2_with (refine gW rfl 56 (.tmp 2) (.tmp 5) rfl w.heap.size _ rfl rfl 56 _ HZ2.out (by rw[hsz.out]; exact C8) (by rw[hsz.out]; rfl) (Gk (Gj _ _)) ?_)
 refine gY (gZ rfl _ _ w.heap.size 56 _ (0,0) _ rfl (g0 _ _ _ _ _ _ HZ2.out) Tryz.underlying56 rfl (by rw[hsz.out]; exact C8)) rfl ⟨rfl,?_⟩
 exact g6 HB2.out (ga _) _
set_option maxHeartbeats 400000 in
theorem TU (n:Int) (bs:List Int) (k:Int) (w:World) (hb:bs.length=16) (wb:∀b∈bs,(Lit.int .u8 b).wf=true) :
 Calls Tryz.prog 223 #[.agg (val n bs),.int .u64 k] w (C9 w (.agg (val 8 (DY (IntKind.u64.wrap (num (bs.take 8)+k)))))):=by
 have HN:=gI (fun W=>Pc n bs W hb wb)
 obtain⟨m,hm⟩:∃m,IntKind.u64.wrap (num (bs.take 8)+k)=m:=⟨_,rfl⟩
 have hm0:0<=m:=by rw[<-hm,fw]; omega
 have HF:=gI (fun W=>TT m W hm0)
 have hsz:=gI (DP n bs hb)
 have hsz2:=gI (DP 8 (DY m) (Ef m))
 rw[hm]
 have HM:=gI hm
 have HG:=gI (fun o=>(gX w (Obj.cells (val n bs) 56) o))
 clear wb hb hm
 go_enter Tryz.func223,Tryz.ntmps223
 go_wp2_with (refine wpList_load_row rfl 56 (.tmp 2) rfl w.heap.size rfl 56 _ (0,0) _ (HG.out _) Tryz.underlying56 rfl (by rw[hsz.out]; exact C8) ?_)
 refine (HN.out _).mono ?_
 rintro e w1 ⟨rfl,hb1⟩
 have hlt:w.heap.size+1<w1.heap.size:=by have:=hb1.size; rw[ig,ig] at this; omega
 have HZ:=gI ((hb1.block (w.heap.size+1) (by simp)).trans (heap_alloc2_new w _ _))
 have HB:=gI ((((gN w.heap.size w).alloc (ga _) _).alloc (by simp) _).trans (hb1.mono (by simp; omega)))
 have hm:=HM.out
 clear hb1
 go_wp2_with fail
 refine (HF.out _).mono ?_
 rintro e w2 ⟨rfl,hb2⟩
 have HZ2:=gI ((hb2.block (w.heap.size+1) hlt).trans HZ.out)
 have HB2:=gI (HB.out.trans (hb2.mono HB.out.size))
 clear hb2 hm
 go_wp2_with (refine gW rfl 56 (.tmp 4) (.tmp 9) rfl (w.heap.size+1) _ rfl rfl 56 _ HZ2.out (by rw[hsz2.out]; exact C8) (by rw[hsz2.out]; rfl) (Gk (Gj _ _)) ?_)
 refine gY (gZ rfl _ _ (w.heap.size+1) 56 _ (0,0) _ rfl (g0 _ _ _ _ _ _ HZ2.out) Tryz.underlying56 rfl (by rw[hsz2.out]; exact C8)) rfl ⟨rfl,?_⟩
 exact g6 HB2.out (by omega) _
def byt (s:ByteArray):List Int:=s.data.toList.map fun b=>(b.toNat:Int)
theorem Ft (s:ByteArray):(byt s).length=s.size:=by unfold byt; rw[gS,ij]; rfl
theorem TV (s:ByteArray):∀b∈byt s,0<=b/\b<256:=by
 intro b hb
 obtain⟨c,_,rfl⟩:=gj.1 hb
 have:=c.toNat_lt
 omega
theorem ZE (s:ByteArray):∀b∈byt s,(Lit.int .u8 b).wf=true:=fun b hb=>wf_u8 (TV s b hb).1 (TV s b hb).2
theorem Rd.bytes (w:World) (s:ByteArray) (cap:Nat) (fr:Nat×Nat):Rd (w.alloc (.cells (bytesRow s cap) 5 fr)) (w.heap.size+1) (some ⟨w.heap.size,0,none⟩) ((byt s).map (.int .u8)):=by
 intro _
 refine⟨w.heap.size,0,rfl,by omega,fun j u hj=>?_⟩
 rw[World.cell?_alloc_mark,gE]
 simp only[byt,ik,gm,hU,Function.comp] at hj
 obtain⟨b,hb,rfl⟩:=hj
 have hlt:j<s.data.size:=by have:=(gl.1 hb).1; simpa using this
 rw[bytesRow_at s cap j hlt]
 have:s.data[j]=b:=by
  have:=hb
  rw[fD (by simpa using hlt)] at this
  simpa using this
 rw[this]
theorem FK {P:Program} {fn:Func} {p u:Tmp} {ty:TypeId} (h:fn.results=#[.cell p ty,.tmp u]) (tmps:Array Value) (w:World) (g:Nat) (t:TypeId) (cs:Array Value) (fr:Nat×Nat) (d:TypeDesc)
 (hp:tmps.getD p undef=.pointer (some ⟨g,0,none⟩)) (hg:w.heap[g]?=some (.cells cs t fr))
 (hu:P.underlying ty=some d) (hd:(match d with|.struct _|.array _ _=>true|_=>false)=true) (hi:(P.info? ty).map (·.size)=some cs.size) :
 (results fn tmps).run P w=.ok (.tuple #[.agg cs,tmps.getD u undef]) w:=by
 have hp':tmps[p]?.getD undef=.pointer (some ⟨g,0,none⟩):=by simpa using hp
 simp[results,h,hp',asAddr,run_loadVar_row w g t ty cs fr d hg hu hd hi]
def val0:List Int:=List.replicate 16 0
set_option maxHeartbeats 400000 in
theorem Xf (s:ByteArray) (w:World) (h:16<s.size) :
 Calls Tryz.prog 126 #[.string s] w (C9 w (.tuple #[.agg (val 0 val0),.int .i64 2])):=by
 have h':(16:Int)<(s.size:Int):=by omega
 clear h
 go_enter Tryz.func126,Tryz.ntmps126
 go_wp2
 refine gY (FK rfl _ _ w.heap.size 56 (val 0 val0) (0,0) _ rfl (gD w _) Tryz.underlying56 rfl (by kernel_rfl)) rfl ⟨rfl,?_⟩
 exact (gN _ _).alloc (ga _) _
set_option maxHeartbeats 400000 in
theorem ZF (s:ByteArray) (w:World) (h:s.size<=16) :
 Calls Tryz.prog 126 #[.string s] w (C9 w (.tuple #[.agg (val s.size (pad (byt s) 16)),.int .i64 0])):=by
 have h':(s.size:Int)<=16:=by omega
 have hc:=fun W=>run_bytes_of_string (P:=Tryz.prog) W 9 23 5 s Tryz.underlying9 Tryz.underlying23 Tryz.underlying5
 have hsz:=gI (DP s.size (pad (byt s) 16) (EJ _ _ (by rw[Ft]; exact h)))
 have ho:∀(W:World) (g c:Nat) (fr:Nat×Nat),g=W.heap.size->Calls Tryz.prog 187 #[.slice (some ⟨g,0,none⟩) s.size c] (World.drew (W.alloc (.cells (bytesRow s c) 5 fr))) (C9 (World.drew (W.alloc (.cells (bytesRow s c) 5 fr))) (.agg (val s.size (pad (byt s) 16))))  :=fun W g c fr hg=>by
  subst hg
  have hr:Rd (World.drew (W.alloc (.cells (bytesRow s c) 5 fr))) (W.heap.size+1) (some ⟨W.heap.size,0,none⟩) ((byt s).map (.int .u8)):=(Rd.bytes W s c fr).keep (fun p _=>rfl)
  have:=Pa (W.heap.size+1) (some ⟨W.heap.size,0,none⟩) c (byt s) _ hr (by simp) (by rw[Ft]; exact h)
  rw[Ft] at this
  exact this
 have HO:=gI ho
 clear ho
 go_enter Tryz.func126,Tryz.ntmps126
 have HA:=gI (gD w)
 go_wp2_with fail
 refine (HO.out (w.alloc _) (w.heap.size+1) _ _ (by simp)).mono ?_
 rintro e w1 ⟨rfl,hb1⟩
 have HZ:=gI ((hb1.block w.heap.size (by simp; omega)).trans ((Below.heap_alloc _ _ _ (by simp)).trans (HA.out _)))
 have HB:=gI ((((gN w.heap.size w).alloc (ga _) _).alloc (by simp) _).drew.trans (hb1.mono (by simp; omega)))
 clear hb1 hc
 go_wp2_with (refine gW rfl 56 (.tmp 2) (.tmp 10) rfl w.heap.size _ rfl rfl 56 _ HZ.out (by rw[hsz.out]; exact C8) (by rw[hsz.out]; rfl) (Gk (Gj _ _)) ?_)
 refine gY (FK rfl _ _ w.heap.size 56 _ (0,0) _ rfl (g0 _ _ _ _ _ _ HZ.out) Tryz.underlying56 rfl (by rw[hsz.out]; exact C8)) rfl ⟨rfl,?_⟩
 exact g6 HB.out (ga _) _
theorem Xg (bs:List Int) (k:Nat) (hb:bs.length=16) (hk:k<=16):pad (bs.take k) 16=bs↔∀i,k<=i->i<16->bs[i]?.getD 0=0:=by
 have hl:(bs.take k).length=k:=by rw[fJ]; omega
 unfold pad
 rw[hl]
 constructor
 · intro h i h1 h2
   rw[<-h,fP (by omega),hl,hM]
   split<;>rfl
 · intro h
   apply gv
   intro i
   by_cases hi:i<k
   · rw[fM (by omega),fN,fO hi]
   · rw[fP (by omega),hl,hM]
     by_cases h16:i<16
     · rw[fO (by omega)]
       have:=h i (by omega) h16
       rw[fD (by omega)] at this ⊢
       simpa using this.symm
     · rw[fR (by omega),fI (by omega)]
theorem Jw (k:Nat) (bs:List Int) (hk:k<=16):C0 k bs=decide (pad (bs.take k) 16=bs):=by
 unfold C0
 rw[hZ]
 simp only[ia,ie]
 exact⟨fun h=>h.2.2,fun h=>⟨by omega,by omega,h⟩⟩
theorem TW (n:Int) (bs:List Int) (j:Nat) (hj:j<bs.length):(val n bs)[1+j]?=some (.int .u8 (bs[j]?.getD 0)):=by
 simp only[val,g7,g8 1 j,g9,gm,fD hj]
 rfl
theorem Xh (n:Int) (bs:List Int) (j:Nat) (b:Int):(val n bs).setIfInBounds (1+j) (.int .u8 b)=val n (bs.set j b):=by
 simp[val,g8 1 j,il]
set_option maxHeartbeats 400000 in
theorem Pd (n:Int) (bs:List Int) (w:World) (hb:bs.length=16) :
 Calls Tryz.prog 61 #[.agg (val n bs)] w (C9 w (.bool (C0 n bs))):=by
 have v0:=QO n bs
 by_cases h0:n<0
 · rw[show C0 n bs=false from by simp[C0]; omega]
   go_enter Tryz.func61,Tryz.ntmps61
   go_wp2
   go_ret
   exact⟨rfl,(gN _ _).alloc (ga _) _⟩
 · have h0':0<=n:=by omega
   by_cases h1:16<n
   · rw[show C0 n bs=false from by simp[C0]; omega]
     clear h0
     go_enter Tryz.func61,Tryz.ntmps61
     go_wp2
     go_ret
     exact⟨rfl,(gN _ _).alloc (ga _) _⟩
   · obtain⟨k,rfl⟩:=fy h0'
     have hk:(k:Int)<=16:=by omega
     have HV:=gI (Jw k bs (by omega))
     have HI:=gI (Xg bs k hb (by omega))
     have HA:=gI (TW (k:Int) bs)
     clear h0 h1 h0'
     go_enter Tryz.func61,Tryz.ntmps61
     go_wp2
     go_loop [3] (fun i=>∃j:Nat,k<=j/\j<=16/\i=.int .i64 j/\∀i,k<=i->i<j->bs[i]?.getD 0=0) (fun i=>16-(intOf i).toNat)
     case atStart=>exact⟨k,ga _,by omega,rfl,fun i h1 h2=>absurd h2 (by omega)⟩
     case round =>
      obtain⟨j,hj1,hj2,rfl,hz⟩:=hrel
      have HZ:=gI hz
      clear hz
      by_cases hlt:j<16
      · have hcell:=HA.out j (by omega)
        obtain⟨z,hzz⟩:∃z,bs[j]?.getD 0=z:=⟨_,rfl⟩
        rw[hzz] at hcell
        have HN:=gI hzz
        clear hzz
        by_cases hne:z=0
        · subst hne
          go_wp2
          go_round
          case rel=>exact⟨j+1,by omega,by omega,by go_num,fun i h1 h2=>by
           rcases fG i j with h|h
           · exact HZ.out i h1 h
           · rw[show i=j from by omega]; exact HN.out⟩
          case measure=>simp[intOf]; omega
        · have hb1:(z != 0)=true:=by simpa using hne
          have HNE:=gI hne
          clear hne
          go_wp2
          go_ret
          exact⟨M3 (by rw[HV.out]; symm; rw[im,HI.out]; exact fun h=>HNE.out (HN.out.symm.trans (h j (by omega) hlt))),(gN _ _).alloc (ga _) _⟩
      · go_wp2
        go_ret
        exact⟨M3 (by rw[HV.out]; symm; rw[decide_eq_true_iff,HI.out]; exact fun i h1 h2=>HZ.out i h1 (by omega)),(gN _ _).alloc (ga _) _⟩
set_option maxHeartbeats 400000 in
theorem M8 (n:Int) (bs:List Int) (w:World) (hb:bs.length=16) (wb:∀b∈bs,(Lit.int .u8 b).wf=true) :
 Calls Tryz.prog 227 #[.agg (val n bs)] w (C9 w (.int .u64 (num (bs.take 8)))):=by
 have hg:=gD w (Obj.cells (val n bs) 56)
 have hr:=Rd.val_take 8 hg
 have HN:=TP (w.heap.size+1) _ 16 (bs.take 8) 0 8 _ hr (fun z h=>by have:=bounds_u8 (wb z (fF h)); omega) (by simp; omega) (by decide) (by decide) (by simp; omega)
 rw[fV,show (bs.take 8).length=8 from by rw[fJ]; omega,List.take_take] at HN
 have H:=gI HN
 clear HN hg hr
 go_enter Tryz.func227,Tryz.ntmps227
 go_wp2_with (go_at_call 280; refine H.out.mono ?_; rintro e w1 ⟨rfl,rfl⟩)
 go_ret
 exact⟨rfl,(gN _ _).alloc (ga _) _⟩
def pre (zs:List Int) (j:Nat):List Int:=zs.take j++List.replicate (16-j) 0
theorem Pe (zs:List Int) (j:Nat) (h:j<=zs.length) (h2:zs.length<=16):(pre zs j).length=16:=by simp[pre]; omega
theorem TX (zs:List Int):pre zs 0=val0:=by simp[pre,val0]
theorem Xi (zs:List Int):pre zs zs.length=pad zs 16:=by simp[pre,pad]
theorem Xj (zs:List Int) (j:Nat) (h:j<zs.length) (h2:zs.length<=16):(pre zs j).set j zs[j]=pre zs (j+1):=by
 unfold pre
 rw[iq _ _ (by simp; omega),fJ,show j-min j zs.length=0 from by omega,ir h,
  show 16-j=(16-(j+1))+1 from by omega,fT,iu,gK]
 rfl
theorem TY {W:World} {g:Nat} {n:Int} {bs:List Int} {t:TypeId} (h:W.heap[g]?=some (.cells (val n bs) t (0,0))) (j:Nat) (hj:j<bs.length):W.cell? ⟨g,1+j,none⟩=some (.int .u8 (bs[j]?.getD 0)):=by
 rw[cell_of_row W g _ _ _ _ h]; exact TW n bs j hj
set_option maxHeartbeats 1000000 in
theorem K1 (n:Int) (w:World) (h0:0<=n) (h1:n<18446744073709551616) :
 Calls Tryz.prog 163 #[.int .u64 n] w (C9 w (.agg (val 8 (DY n)))):=by
 have HP:=gI (fun W=>TQ 0 none 0 [] n 8 W Rd.nil (gb _) (by decide) (by decide) (by decide) h0 h1)
 have hsz:=gI (DP 8 (DY n) (Ef n))
 clear h1
 go_enter Tryz.func163,Tryz.ntmps163
 go_wp2_with fail
 refine (HP.out _).mono ?_
 rintro e w1 ⟨v,rfl,own,hb1⟩
 rw[gO,show ([]:List Int).length+8=(le n 8).length from by rw[B1]; rfl] at own
 have hle:(le n 8).length=8:=B1 8 n
 obtain⟨A1,c1,rfl,_,_,rd,hA⟩:=Rd.of_own own
 obtain⟨b,off,rfl,hbl,hcb⟩:=rd (by rw[Ne,List.map_eq_nil_iff]; intro e; rw[e] at hle; simp at hle)
 have hbge:w.heap.size+2<=b:=by have:=hA b rfl; simp at this; omega
 have HZ:Hid (w1.heap[w.heap.size]?=some (.cells (val 0 val0) 56 (0,0))):=gI ((hb1.block w.heap.size (by simp; omega)).trans (gX w _ _))
 have HG:Hid (w1.heap[w.heap.size+1]?=some (.cells (val 8 (pre (le n 8) 0)) 56 (0,0))):=by rw[TX]; exact gI ((hb1.block (w.heap.size+1) (by simp)).trans (heap_alloc2_new w _ _))
 have HB:=gI ((((gN w.heap.size w).alloc (ga _) _).alloc (by simp) _).trans (hb1.mono (by simp; omega)))
 have HC:=gI hcb
 have HL:=gI hle
 rw[hle]
 clear own rd hb1 hA hcb hle
 go_wp2_with fail
 go_loopw [5] (fun i wr=>∃j:Nat,j<=8/\i=.int .i64 j/\Hid (wr.heap[w.heap.size]?=some (.cells (val 0 val0) 56 (0,0)))/\Hid (wr.heap[w.heap.size+1]?=some (.cells (val 8 (pre (le n 8) j)) 56 (0,0)))/\Hid (Below w.heap.size w wr)/\Hid (∀p:Addr,w.heap.size+2<=p.block->wr.cell? p=w1.cell? p)) (fun i _=>8-(intOf i).toNat)
 case atStart=>exact⟨0,by omega,rfl,HZ,HG,HB,fun p _=>rfl⟩
 case round =>
  obtain⟨j,hj,rfl,hz,hg,hb,hk⟩:=hrel
  by_cases hlt:j<8
  · have hjl:j<(le n 8).length:=by rw[HL.out]; exact hlt
    have hcell:wr.cell? ⟨b,off+j,none⟩=some (.int .u8 (le n 8)[j]):=(hk.out ⟨b,off+j,none⟩ hbge).trans (HC.out j _ (by rw[gm,fD hjl]; rfl))
    have HS:=gI (Xj (le n 8) j hjl (by rw[HL.out]; decide))
    have Iv:=gI (heap_setCell_same wr (w.heap.size+1) (1+j) _ 56 (.int .u8 (le n 8)[j]) hg.out)
    rw[Xh,HS.out] at Iv
    obtain⟨z,hz'⟩:∃z,(le n 8)[j]=z:=⟨_,rfl⟩
    rw[hz'] at hcell Iv
    clear hz'
    have hcg:=TY hg.out j (by rw[Pe _ _ (by rw[HL.out]; omega) (by rw[HL.out]; decide)]; omega)
    have hfg:=frozen_of_row wr (w.heap.size+1) (1+j) _ 56 hg.out
    go_wp2
    go_roundw
    case rel=>exact⟨j+1,by omega,by go_num,gI ((heap_setCell_other wr _ _ _ (by simp)).trans hz.out),Iv,gI (hb.out.setCell (p:=⟨w.heap.size+1,1+j,none⟩) (by simp) _),gI (fun p hp=>(World.cell?_setCell_other _ _ _ _ (by intro e; subst e; simp at hp)).trans (hk.out p hp))⟩
    case measure=>simp[intOf]; omega
  · have:j=8:=by omega
    subst this
    rw[show pre (le n 8) 8=DY n from by have:=Xi (le n 8); rw[HL.out] at this; exact this] at hg
    go_wp2_with (first
     |(refine wpList_load_row rfl 56 (.tmp 3) rfl (w.heap.size+1) rfl 56 _ (0,0) _ hg.out Tryz.underlying56 rfl (by rw[hsz.out]; exact C8) ?_)
     |(refine gW rfl 56 (.tmp 2) (.tmp 20) rfl w.heap.size _ rfl rfl 56 _ hz.out (by rw[hsz.out]; exact C8) (by rw[hsz.out]; rfl) (Gk (Gj _ _)) ?_))
    refine gY (gZ rfl _ _ w.heap.size 56 _ (0,0) _ rfl (g0 _ _ _ _ _ _ hz.out) Tryz.underlying56 rfl (by rw[hsz.out]; exact C8)) rfl ⟨rfl,?_⟩
    exact g6 hb.out (ga _) _
set_option maxHeartbeats 400000 in
theorem R2 (n:Int) (bs:List Int) (k:Int) (w:World) (hb:bs.length=16) (wb:∀b∈bs,(Lit.int .u8 b).wf=true) :
 Calls Tryz.prog 164 #[.agg (val n bs),.int .u64 k] w (C9 w (.agg (val 8 (DY (IntKind.u64.wrap (num (bs.take 8)+k)))))):=by
 have HN:=gI (fun W=>M8 n bs W hb wb)
 obtain⟨m,hm⟩:∃m,IntKind.u64.wrap (num (bs.take 8)+k)=m:=⟨_,rfl⟩
 have hm0:0<=m:=by rw[<-hm,fw]; omega
 have hm1:m<18446744073709551616:=by rw[<-hm,fw]; omega
 have HF:=gI (fun W=>K1 m W hm0 hm1)
 have hsz:=gI (DP n bs hb)
 have hsz2:=gI (DP 8 (DY m) (Ef m))
 rw[hm]
 have HM:=gI hm
 have HG:=gI (fun o=>(gX w (Obj.cells (val n bs) 56) o))
 clear wb hb hm hm1
 go_enter Tryz.func164,Tryz.ntmps164
 go_wp2_with (refine wpList_load_row rfl 56 (.tmp 2) rfl w.heap.size rfl 56 _ (0,0) _ (HG.out _) Tryz.underlying56 rfl (by rw[hsz.out]; exact C8) ?_)
 refine (HN.out _).mono ?_
 rintro e w1 ⟨rfl,hb1⟩
 have hlt:w.heap.size+1<w1.heap.size:=by have:=hb1.size; rw[ig,ig] at this; omega
 have HZ:=gI ((hb1.block (w.heap.size+1) (by simp)).trans (heap_alloc2_new w _ _))
 have HB:=gI ((((gN w.heap.size w).alloc (ga _) _).alloc (by simp) _).trans (hb1.mono (by simp; omega)))
 have hm:=HM.out
 clear hb1
 go_wp2_with fail
 refine (HF.out _).mono ?_
 rintro e w2 ⟨rfl,hb2⟩
 have HZ2:=gI ((hb2.block (w.heap.size+1) hlt).trans HZ.out)
 have HB2:=gI (HB.out.trans (hb2.mono HB.out.size))
 clear hb2 hm
 go_wp2_with (refine gW rfl 56 (.tmp 4) (.tmp 9) rfl (w.heap.size+1) _ rfl rfl 56 _ HZ2.out (by rw[hsz2.out]; exact C8) (by rw[hsz2.out]; rfl) (Gk (Gj _ _)) ?_)
 refine gY (gZ rfl _ _ (w.heap.size+1) 56 _ (0,0) _ rfl (g0 _ _ _ _ _ _ HZ2.out) Tryz.underlying56 rfl (by rw[hsz2.out]; exact C8)) rfl ⟨rfl,?_⟩
 exact g6 HB2.out (by omega) _
end Go.Proofs.YtloldofjddbjoaaGreat
namespace Go.Sep
abbrev Env:=List (Nat×Value)
def look:Env->Nat->Option Value
 |[],_=>none
 |(i,v)::L,k=>bif i.beq k then some v else look L k
structure Know (n:Nat) (L:Env) (a:Act):Prop where
 size:a.tmps.size=n
 defers:a.defers=[]
 get:∀i v,look L i=some v->a.tmps[i]?=some v
theorem Know.put {n:Nat} {L:Env} {a:Act} (h:Know n L a) {d:Nat} (v:Value) (hd:d.blt n=true):Know n ((d,v)::L) (a.put (some d) v):=by
 have hd':d<n:=by simpa [Nat.blt_eq] using hd
 refine⟨by simp[Act.put,h.size],h.defers,fun i u hu=>?_⟩
 simp only[look] at hu
 by_cases hi:d=i
 · subst hi
   simp at hu
   subst hu
   simp[Act.put,h.size,hd']
 · have:d.beq i=false:=by rw[iv]; intro h'; exact hi (Nat.eq_of_beq_eq_true h')
   rw[this] at hu
   simp at hu
   simp[Act.put,Array.getElem?_setIfInBounds_ne hi]
   simpa using h.get i u hu
def Sub (L' L:Env):Prop:=∀i v,look L' i=some v->look L i=some v
theorem Sub.nil {L:Env}:Sub [] L:=fun _ _ h=>by cases h
theorem Sub.cons {L' L:Env} {i:Nat} {v:Value} (h:look L i=some v) (t:Sub L' L):Sub ((i,v)::L') L:=fun k u hu=>by
 simp only[look] at hu
 by_cases hi:i=k
 · subst hi; simp at hu; subst hu; exact h
 · have:i.beq k=false:=by rw[iv]; intro h'; exact hi (Nat.eq_of_beq_eq_true h')
   rw[this] at hu; exact t k u hu
theorem Sub.consE {L' L:Env} {i:Nat} {v u:Value} (h:look L i=some u) (e:u=v) (t:Sub L' L):Sub ((i,v)::L') L:=Sub.cons (e▸h) t
theorem Know.sub {n:Nat} {L L':Env} {a:Act} (h:Know n L a) (s:Sub L' L):Know n L' a:=⟨h.size,h.defers,fun i v hv=>h.get i v (s i v hv)⟩
def ev (L:Env):Operand->Option Value
 |.tmp t=>look L t
 |.const v=>some v
 |.global g=>some (.pointer (some ⟨g,0,none⟩))
 |.func f=>some (.func (.func f) #[] #[])
theorem Know.eval {n:Nat} {L:Env} {a:Act} (h:Know n L a) {x:Operand} {v:Value} (hx:ev L x=some v):a.eval x=v:=by
 cases x with
 |tmp t=>have:=h.get t v hx; simp[Act.eval,iw,this]
 |const u=>simp[ev] at hx; subst hx; rfl
 |global g=>simp[ev] at hx; subst hx; rfl
 |func f=>simp[ev] at hx; subst hx; rfl
def Pre (n:Nat) (L:Env) (X:World->Prop) (F:Act->World->Prop):Prop:=∀a w,Know n L a->X w->F a w
section code
variable {P:Program} {n:Nat} {L:Env} {X:World->Prop} {Q:Exit->Act->World->Prop}
theorem Pre.sub {F:Act->World->Prop} (L':Env) (s:Sub L' L) (h:Pre n L' X F):Pre n L X F:=fun a w k x=>h a w (k.sub s) x
theorem Pre.world {F:Act->World->Prop} (X':World->Prop) (s:∀w,X w->X' w) (h:Pre n L X' F):Pre n L X F:=fun a w k x=>h a w k (s w x)
theorem Pre.fact {F:Act->World->Prop} {p:Prop} (s:∀w,X w->p) (h:p->Pre n L X F):Pre n L X F:=fun a w k x=>h (s w x) a w k x
theorem Ag {c d:Code} (h:Pre n L X (c.wp P (Exit.then (d.wp P Q) Q))):Pre n L X ((Code.seq c d).wp P Q):=fun a w k x=>wp_seq (h a w k x)
theorem Ae (h:Pre n L X (Q .normal)):Pre n L X (Code.skip.wp P Q):=fun a w k x=>wp_skip (h a w k x)
theorem Al {id:Nat} {c:Code} (h:Pre n L X (c.wp P (Exit.inBlock id Q))):Pre n L X ((Code.block id c).wp P Q):=fun a w k x=>wp_block (h a w k x)
theorem AO {id:Nat} (h:Pre n L X (Q (.exit id))):Pre n L X ((Code.exit id).wp P Q):=fun a w k x=>wp_exit (h a w k x)
theorem Af (h:Pre n L X (Q .ret)):Pre n L X (Code.ret.wp P Q):=fun a w k x=>wp_ret (h a w k x)
theorem Ai {c:Operand} {x y:Code} (hc:ev L c=some (.bool true)) (ht:Pre n L X (x.wp P Q)):Pre n L X ((Code.cond c x y).wp P Q):=fun a w k hx=>wp_cond_true (k.eval hc) (ht a w k hx)
theorem Ab {c:Operand} {x y:Code} (hc:ev L c=some (.bool false)) (ht:Pre n L X (y.wp P Q)):Pre n L X ((Code.cond c x y).wp P Q):=fun a w k hx=>wp_cond_false (k.eval hc) (ht a w k hx)
theorem LZ {K:Act->World->Prop} (h:Pre n L X K):Pre n L X (Exit.then K Q .normal):=h
theorem Ac {K:Act->World->Prop} {id:Nat} (h:Pre n L X (Q (.exit id))):Pre n L X (Exit.then K Q (.exit id)):=h
theorem Aa {K:Act->World->Prop} (h:Pre n L X (Q .ret)):Pre n L X (Exit.then K Q .ret):=h
theorem Aw {id:Nat} (h:Pre n L X (Q .normal)):Pre n L X (Exit.inBlock id Q .normal):=h
theorem Ar {id:Nat} (h:Pre n L X (Q .normal)):Pre n L X (Exit.inBlock id Q (.exit id)):=fun a w k x=>by
 show (if id=id then Q .normal a w else Q (.exit id) a w)
 rw[fO rfl]; exact h a w k x
theorem AA {id id':Nat} (hne:Nat.beq id' id=false) (h:Pre n L X (Q (.exit id'))):Pre n L X (Exit.inBlock id Q (.exit id')):=fun a w k x=>by
 show (if id'=id then Q .normal a w else Q (.exit id') a w)
 rw[fR (fun e=>by subst e; simp at hne)]; exact h a w k x
theorem Am {id:Nat} (h:Pre n L X (Q .ret)):Pre n L X (Exit.inBlock id Q .ret):=h
def IL {α:Type} (n:Nat) (μ:α->Nat) (Lv:α->Env) (Xv:α->World->Prop) (p:α->Prop) (m:Nat):Act->World->Prop:=fun a w=>∃b,μ b<m/\p b/\Know n (Lv b) a/\Xv b w
theorem H3 {α:Type} {c:Code} (Lv:α->Env) (Xv:α->World->Prop) (p:α->Prop) (μ:α->Nat) (b0:α) (h0:p b0) (hL:Sub (Lv b0) L) (hX:∀w,X w->Xv b0 w)
 (round:∀b,p b->Pre n (Lv b) (Xv b) (c.wp P (Exit.then (IL n μ Lv Xv p (μ b)) Q))):Pre n L X ((Code.loop c).wp P Q):=by
 intro a w k x
 have key:∀(m:Nat) (b:α),μ b=m->p b->∀a w,Know n (Lv b) a->Xv b w->∀(fr:Frame) (t:List Item) (cs:List Frame),
  ∃e a' w',Q e a' w'/\Arrives P (lone (fr.at a (.code c::.inLoop c::t)) cs w) fr t cs e a' w':=by
  intro m
  induction m using Nat.strongRecOn with
  |_ m ih =>
   intro b hm hp a w hk hx fr t cs
   obtain⟨e,a₁,w₁,hq,harr⟩:=round b hp a w hk hx fr (.inLoop c::t) cs
   cases e with
   |normal =>
    obtain⟨b',hlt,hp',hk',hx'⟩:=hq
    obtain⟨e₂,a₂,w₂,hq₂,harr₂⟩:=ih (μ b') (hm▸hlt) b' rfl hp' a₁ w₁ hk' hx' fr t cs
    exact⟨e₂,a₂,w₂,hq₂,.of_steps (Steps.trans harr (.one step_inLoop)) harr₂⟩
   |exit id=>exact⟨_,a₁,w₁,hq,.pass (x:=.inLoop c) rfl (fun _ _=>.inl (by simp)) harr⟩
   |goto l=>exact⟨_,a₁,w₁,hq,.pass (x:=.inLoop c) rfl (fun _ _=>.inl (by simp)) harr⟩
   |ret=>exact⟨_,a₁,w₁,hq,.pass (x:=.inLoop c) rfl (fun _ _=>.inl (by simp)) harr⟩
   |panic ch=>exact⟨_,a₁,w₁,hq,.pass (x:=.inLoop c) rfl (fun _ _=>.inl (by simp)) harr⟩
   |outgrown=>exact⟨_,a₁,w₁,hq,.pass (x:=.inLoop c) rfl (fun _ _=>.inl (by simp)) harr⟩
 intro fr t cs
 obtain⟨e,a',w',hq,harr⟩:=key (μ b0) b0 rfl h0 a w (k.sub hL) (hX w x) fr t cs
 exact⟨e,a',w',hq,.of_steps (.one step_loop) harr⟩
theorem AD {α:Type} {μ:α->Nat} {Lv:α->Env} {Xv:α->World->Prop} {p:α->Prop} {m:Nat} (b:α) (hm:μ b<m) (hp:p b) (hL:Sub (Lv b) L) (hX:∀w,X w->Xv b w):Pre n L X (Exit.then (IL n μ Lv Xv p m) Q .normal) :=
 fun a w k x=>⟨b,hm,hp,k.sub hL,hX w x⟩
def Xk {α:Type} (n:Nat) (Lv:α->Env) (Xv:α->World->Prop) (p:α->Prop):Act->World->Prop:=fun a w=>∃b,p b/\Know n (Lv b) a/\Xv b w
theorem Bb {α:Type} {Lv:α->Env} {Xv:α->World->Prop} {p:α->Prop} (b:α) (hp:p b) (hL:Sub (Lv b) L) (hX:∀w,X w->Xv b w):Pre n L X (Exit.then (Xk n Lv Xv p) Q .normal) :=
 fun a w k x=>⟨b,hp,k.sub hL,hX w x⟩
end code
def H4:Nat->List Value->Env
 |_,[]=>[]
 |i,v::vs=>(i,v)::H4 (i+1) vs
theorem Jx:∀(vs:List Value) (i k:Nat) (v:Value),look (H4 i vs) k=some v->∃j,k=i+j/\vs[j]?=some v
 |[],_,_,_,h=>by cases h
 |u::vs,i,k,v,h=>by
  simp only[H4,look] at h
  by_cases hi:i=k
  · subst hi; simp at h; subst h; exact⟨0,rfl,rfl⟩
  · have:i.beq k=false:=by rw[iv]; intro h'; exact hi (Nat.eq_of_beq_eq_true h')
    rw[this] at h
    obtain⟨j,e,hj⟩:=Jx vs (i+1) k v h
    exact⟨j+1,by omega,hj⟩
theorem enter {P:Program} {f n:Nat} {fn:Func} {c:Code} {vs:List Value} {w:World} {R:Ending->World->Prop} (X:World->Prop) (hf:P.funcs[f]?=some fn) (hb:fn.body=some c) (hnn:fn.ntmps=n) (hs:vs.length.ble n=true) (hX:X w)
 (h:Pre n (H4 0 vs) X (c.wp P (bodyPost P fn R))):Calls P f vs.toArray w R:=by
 subst hnn
 refine calls_of_wp hf hb (h _ w ⟨?_,rfl,fun i v hv=>?_⟩ hX)
 · have:=iy hs
   simp; omega
 · obtain⟨j,e,hj⟩:=Jx vs 0 i v hv
   have:i=j:=by omega
   subst this
   have hlt:i<vs.length:=(gl.1 hj).1
   simp[Array.getElem?_append,hlt]
   simpa [fD hlt] using hj
def Jy (L:Env):List ResultVar->Option (List Value)
 |[]=>some []
 |.tmp t::rs=>match look L t,Jy L rs with
  |some v,some vs=>some (v::vs)
  |_,_=>none
 |.cell _ _::_=>none
def GO (tmps:Array Value):ResultVar->Sem Value
 |.tmp t=>pure (tmps.getD t undef)
 |.cell x t=>do loadVar t (<-asAddr (tmps.getD x undef))
theorem Jz {P:Program} {n:Nat} {L:Env} {a:Act} {w:World} (k:Know n L a):∀(rs:List ResultVar) (vs:List Value),Jy L rs=some vs ->
 (rs.mapM (GO a.tmps)).run P w=.ok vs w
 |[],vs,h=>by cases h; rfl
 |.tmp t::rs,vs,h=>by
  simp only[Jy] at h
  cases ht:look L t with
  |none=>rw[ht] at h; cases h
  |some v =>
   cases hr:Jy L rs with
   |none=>rw[ht,hr] at h; cases h
   |some us =>
    rw[ht,hr] at h
    cases h
    have:=k.get t v ht
    simp[List.mapM_cons,Jz k rs us hr,GO,iw,this]
 |.cell _ _::_,_,h=>by cases h
def Y9:List Value->Value
 |[v]=>v
 |vs=>.tuple vs.toArray
theorem FV {P:Program} {n:Nat} {L:Env} {a:Act} {w:World} (k:Know n L a) {fn:Func} {rs:List ResultVar} {vs:List Value} (hr:fn.results=rs.toArray) (h:Jy L rs=some vs) :
 (results fn a.tmps).run P w=.ok (Y9 vs) w:=by
 have:=Jz (P:=P) (w:=w) k rs vs h
 have e:(results fn a.tmps)=(do let vs<-fn.results.mapM (GO a.tmps); pure (if h:vs.size=1 then vs[0] else .tuple vs)):=rfl
 rw[e,hr]
 simp only[List.mapM_toArray,gx,Sem.run_map,this,gz,gy]
 match vs with
 |[]=>rfl
 |[v]=>rfl
 |u::v::ws=>simp[Y9]
section
variable {P:Program} {n:Nat} {L:Env} {X:World->Prop} {fn:Func} {R:Ending->World->Prop}
theorem An {t:Nat} {v:Value} (hr:fn.results=#[.tmp t]) (h:look L t=some v) (hR:∀w,X w->R (.returned v) w):Pre n L X (bodyPost P fn R .ret):=fun a w k x =>
 ⟨k.defers,v,FV (rs:=[.tmp t]) (vs:=[v]) k hr (by simp[Jy,h]),hR w x⟩
theorem Be {rs:List ResultVar} {u v:Value} {vs:List Value} (hr:fn.results=rs.toArray) (h:Jy L rs=some (u::v::vs)) (hR:∀w,X w->R (.returned (.tuple (u::v::vs).toArray)) w):Pre n L X (bodyPost P fn R .ret):=fun a w k x =>
 ⟨k.defers,_,FV (rs:=rs) k hr h,hR w x⟩
theorem Bv (hr:fn.results=#[]) (hR:∀w,X w->R (.returned (.tuple #[])) w):Pre n L X (bodyPost P fn R .ret):=fun a w k x =>
 ⟨k.defers,_,FV (rs:=[]) k hr rfl,hR w x⟩
theorem Bl (h:Pre n L X (bodyPost P fn R .ret)):Pre n L X (bodyPost P fn R .normal):=h
end
end Go.Sep
namespace Go.Sep
def Cf (ops:Array Oper) (L:Env) (o:Oper):Option Bool :=
 match o.guard with
 |none=>some true
 |some (j,want) =>
  match (ops[j]?).bind (·.dst) with
  |none=>none
  |some t=>match look L t with
   |some (.bool b)=>some (b == want)
   |some _=>some false
   |none=>none
theorem CD {ops:Array Oper} {n:Nat} {L:Env} {a:Act} (k:Know n L a) {o:Oper} {b:Bool} (h:Cf ops L o=some b):Region.wanted o (yielded ops a.tmps)=b:=by
 unfold Cf at h
 unfold Region.wanted
 cases hg:o.guard with
 |none=>rw[hg] at h; simp at h; rw[<-h]
 |some jw =>
  obtain⟨j,want⟩:=jw
  rw[hg] at h
  simp only at h ⊢
  cases hd:(ops[j]?).bind (·.dst) with
  |none=>rw[hd] at h; cases h
  |some t =>
   rw[hd] at h
   simp only at h
   cases hl:look L t with
   |none=>rw[hl] at h; cases h
   |some v =>
    rw[hl] at h
    have:=k.get t _ hl
    unfold yielded
    cases v<;>simp only[Option.some.injEq] at h<;>rw[<-h]<;>simp[hd,this]
def wpL (P:Program) (ops:Array Oper) (Q:Exit->Act->World->Prop):List Oper->Act->World->Prop
 |[],a,w=>Q .normal a w
 |o::rest,a,w=>if Region.wanted o (yielded ops a.tmps) then o.wp P a w (wpL P ops Q rest) Q else wpL P ops Q rest (a.put o.dst undef) w
theorem K2 {P:Program} {ops:Array Oper} {Q:Exit->Act->World->Prop}:∀(rest:List Oper) (i:Nat),(∀j,ops[i+j]?=rest[j]?)->∀a w,wpL P ops Q rest a w->wpOps P ops Q (List.range' i rest.length) a w
 |[],i,h,a,w,hw=>hw
 |o::rest,i,h,a,w,hw=>by
  simp only[fv,List.range'_succ]
  rw[wpOps_cons]
  have h0:ops[i]?=some o:=by simpa using h 0
  unfold wpOp
  simp only[h0]
  have hr:∀a w,wpL P ops Q rest a w->wpOps P ops Q (List.range' (i+1) rest.length) a w:=K2 rest (i+1) (fun j=>by have:=h (j+1); simpa [gM,g8 1 j] using this)
  unfold wpL at hw
  split
  · rename_i hq; rw[fO hq] at hw; exact .inl (Oper.wp_mono hr hw)
  · rename_i hq; rw[fR hq] at hw; exact hr _ _ hw
section tail
variable {P:Program} {ops:Array Oper} {Q:Exit->Act->World->Prop} {md:Region.Mode} {S:World->Prop} {T:List Nat}
def Du (P:Program) (md:Region.Mode) (ops:Array Oper) (Q:Exit->Act->World->Prop) (S:World->Prop) (T:List Nat):Nat->Array Bool->Act->World->Prop
 |0,listed,a,w=>Region.ready md ops listed=[]/\Q .normal a w
 |fuel+1,listed,a,w =>
  (Region.ready md ops listed=[]->Q .normal a w) /\
  ∀i∈Region.ready md ops listed,wpOp P ops Q i (fun a' w'=>(T.contains i=false->S w')/\Du P md ops Q S T fuel (listed.setIfInBounds i true) a' w') a w
theorem GP:∀(fuel:Nat) (listed:Array Bool) (a:Act) (w:World),Du P md ops Q S T fuel listed a w->wpAny P md ops Q fuel listed a w
 |0,_,_,_,h=>h
 |fuel+1,_,_,_,h=>⟨h.1,fun i hi=>wpOp_mono (fun a' w' h'=>GP fuel _ a' w' h'.2) (h.2 i hi)⟩
def FW (md:Region.Mode) (ops:Array Oper) (i:Nat):Nat->Nat->Bool
 |0,_=>false
 |k+1,t=>((ops[t]?).getD default).after.toList.any (fun e=>Region.binds md e&&(e.on == i||FW md ops i k e.on))
def Eo (md:Region.Mode) (ops:Array Oper) (listed:Array Bool):Prop:=∀j o,ops[j]?=some o->listed.getD j true=true->∀e∈o.after,Region.binds md e=true->listed.getD e.on false=true
theorem IM:Eo md ops (Array.replicate ops.size false):=fun j o ho hl=>by
 have hj:=(fY.1 ho).1
 simp[hj] at hl
theorem Ck {j:Nat} {listed:Array Bool} (h:Eo md ops listed) (hr:j∈Region.ready md ops listed):Eo md ops (listed.setIfInBounds j true):=by
 intro k o ho hl e he hb
 have mono:listed.getD e.on false=true->(listed.setIfInBounds j true).getD e.on false=true:=fun h0=>by
  simp only[iw,iz] at h0 ⊢
  split
  · split<;>simp_all
  · exact h0
 by_cases hkj:k=j
 · subst hkj
   obtain⟨_,oj,hoj,hall⟩:=mem_ready.1 hr
   rw[ho] at hoj; cases hoj
   exact mono (hall e he hb)
 · rw[getD_set_ne true (iA hkj)] at hl
   exact mono (h k o ho hl e he hb)
theorem Fu {i:Nat} {listed:Array Bool} (hc:Eo md ops listed):∀(k t:Nat),FW md ops i k t=true->(∀o,ops[t]?=some o->∀e∈o.after,Region.binds md e=true->listed.getD e.on false=true)->listed.getD i false=true
 |0,t,h,_=>by cases h
 |k+1,t,h,hd=>by
  unfold FW at h
  obtain⟨e,he,h2⟩:=iB.1 h
  simp only[gQ,Bool.or_eq_true,iC] at h2
  cases ho:ops[t]? with
  |none =>
   rw[ho] at he
   have h0:(default:Oper).after=#[]:=rfl
   rw[Option.getD_none,h0] at he
   cases he
  |some o =>
   rw[ho,gq] at he
   have he':=Array.mem_toList_iff.1 he
   have hl:=hd o ho e he' h2.1
   rcases h2.2 with rfl|h3
   · exact hl
   · refine Fu hc k e.on h3 (fun o' ho'=>hc e.on o' ho' ?_)
     simp only[iw] at hl ⊢
     cases hx:listed[e.on]? with
     |none=>rfl
     |some b=>rw[hx] at hl; simpa using hl
def GQ (md:Region.Mode) (ops:Array Oper) (T:List Nat):Bool:=T.all (fun t=>(List.range ops.size).all (fun i=>T.contains i||FW md ops i 4 t))
theorem M9 {listed:Array Bool} (h:GQ md ops T=true) (hc:Eo md ops listed) {t i:Nat} (ht:T.contains t=true) (hi:T.contains i=false) (hlt:i<ops.size) (hr:t∈Region.ready md ops listed):listed.getD i false=true:=by
 have h1:=iD.1 (iD.1 h t (by simpa using ht)) i (gk.2 hlt)
 rw[hi,Bool.false_or] at h1
 obtain⟨_,ot,hot,hall⟩:=mem_ready.1 hr
 exact Fu hc 4 t h1 (fun o ho=>by rw[hot] at ho; cases ho; exact hall)
theorem L0 {i:Nat} {oi:Oper} {v:Value} (hi:ops[i]?=some oi) (hT:GQ md ops T=true) (hiT:T.contains i=false) (hsel:∀(j:Nat) (o:Oper) cs b,ops[j]?=some o->o.op≠.select cs b)
 (hQ:∀c a w,Q (.panic c) (a.put oi.dst v) w->Q (.panic c) a w) :
 ∀(fuel:Nat) (listed:Array Bool) (a:Act) (w:World),Eo md ops listed ->
  (∀j oj,ops[j]?=some oj->j≠i->listed.getD j true=false->(∀e∈oj.after,Region.binds md e=true->e.on≠i)->oi.apart ops oj=true) ->
  i∈Region.ready md ops listed->YieldsIf P ops S oi v a->S w ->
  Du P md ops Q S T fuel (listed.setIfInBounds i true) (a.put oi.dst v) w->Du P md ops Q S T (fuel+1) listed a w:=by
 intro fuel
 induction fuel with
 |zero =>
  intro listed a w _ _ hr hy hS H
  refine⟨fun h=>(by rw[h] at hr; cases hr),fun j hj=>?_⟩
  by_cases hji:j=i
  · subst hji; exact hy.wpOp hi hS ⟨fun _=>hS,H⟩
  · have:=ready_mono hj hji
    rw[H.1] at this
    cases this
 |succ fuel ih =>
  intro listed a w hcl hfree hr hy hS H
  refine⟨fun h=>(by rw[h] at hr; cases hr),fun j hj=>?_⟩
  by_cases hji:j=i
  · subst hji; exact hy.wpOp hi hS ⟨fun _=>hS,H⟩
  · have h1:=H.2 j (ready_mono hj hji)
    obtain⟨hjun,oj,hoj,hall⟩:=mem_ready.1 hj
    have hnl:listed.getD i false≠true:=fun h1=>by
     have h0:=(mem_ready.1 hr).1
     rcases fG i listed.size with h'|h'
     · simp[h'] at h0 h1; rw[h0] at h1; cases h1
     · simp[gG h'] at h1
    have hnot:∀e∈oj.after,Region.binds md e=true->e.on≠i:=fun e he hb heq=>hnl (heq▸hall e he hb)
    have hjT:T.contains j=false:=by
     cases hc:T.contains j with
     |false=>rfl
     |true=>exact absurd (M9 hT hcl hc hiT (fY.1 hi).1 hj) hnl
    have h2:=wpOp_putIf hoj (hfree j oj hoj hji hjun hnot) (fun cs b=>hsel i oi cs b hi) (fun cs b=>hsel j oj cs b hoj) hQ hy h1
    have hfree':∀k ok,ops[k]?=some ok->k≠i->(listed.setIfInBounds j true).getD k true=false ->
     (∀e∈ok.after,Region.binds md e=true->e.on≠i)->oi.apart ops ok=true:=fun k ok hk hki hun hno=>by
     refine hfree k ok hk hki ?_ hno
     by_cases hjk:j=k
     · subst hjk; exact hjun
     · rw[getD_set_ne true hjk] at hun; exact hun
    refine wpOp_mono (fun a' w' h3=>⟨h3.2.1,ih (listed.setIfInBounds j true) a' w' (Ck hcl hj) hfree' (ready_mono hr (iA hji)) h3.1 (h3.2.1 hjT) ?_⟩) h2
    rw[Array.setIfInBounds_comm _ _ hji]
    exact h3.2.2
end tail
abbrev Dv:=Option Bool
def wpD (P:Program) (ops:Array Oper) (Q:Exit->Act->World->Prop) (S:World->Prop):List (Oper×Dv)->Act->World->Prop
 |[],a,w=>Q .normal a w
 |(o,some true)::rest,a,w=>∃v,YieldsIf P ops S o v a/\wpD P ops Q S rest (a.put o.dst v) w
 |(o,some false)::rest,a,w=>if Region.wanted o (yielded ops a.tmps) then o.wp P a w (fun a' w'=>S w'/\wpD P ops Q S rest a' w') Q else wpD P ops Q S rest (a.put o.dst undef) w
 |(o,none)::rest,a,w=>if Region.wanted o (yielded ops a.tmps) then o.wp P a w (wpD P ops Q S rest) Q else wpD P ops Q S rest (a.put o.dst undef) w
def Cv (ops:Array Oper) (T:List Nat):List (Nat×Dv)->Array Bool->Bool
 |[],listed=>Region.ready .any ops listed == []
 |(i,some true)::rest,listed=>!T.contains i&&Region.free .any ops listed i&&(Region.ready .any ops listed).contains i&&Cv ops T rest (listed.setIfInBounds i true)
 |(i,some false)::rest,listed=>Region.ready .any ops listed == [i]&&Cv ops T rest (listed.setIfInBounds i true)
 |(i,none)::rest,listed=>T.contains i&&Region.ready .any ops listed == [i]&&rest.all (fun x=>match x.2 with|none=>true|_=>false)&&Cv ops T rest (listed.setIfInBounds i true)
def Eg (Q:Exit->Act->World->Prop):Prop:=∀c a d v w,Q (.panic c) (a.put d v) w->Q (.panic c) a w
theorem BY {K:Act->World->Prop} {Q:Exit->Act->World->Prop} (h:Eg Q):Eg (Exit.then K Q):=fun c a d v w hq=>h c a d v w hq
theorem CM {id:Nat} {Q:Exit->Act->World->Prop} (h:Eg Q):Eg (Exit.inBlock id Q):=fun c a d v w hq=>h c a d v w hq
theorem C1 {P:Program} {fn:Func} {R:Ending->World->Prop}:Eg (bodyPost P fn R):=fun c a d v w hq=>by
 obtain⟨h1,h2⟩:=hq
 exact⟨by cases d<;>exact h1,h2⟩
theorem TZ {P:Program} {ops:Array Oper} {Q:Exit->Act->World->Prop} {S:World->Prop} {T:List Nat} {i:Nat} {oi:Oper} {v:Value} {fuel:Nat} {listed:Array Bool} {a:Act} {w:World} (hcl:Eo .any ops listed) (hi:ops[i]?=some oi) (hT:GQ .any ops T=true) (hiT:T.contains i=false)
 (hs:Region.noSelect ops=true) (hf:Region.free .any ops listed i=true) (hr:(Region.ready .any ops listed).contains i=true)
 (hQ:∀c a w,Q (.panic c) (a.put oi.dst v) w->Q (.panic c) a w) (hy:YieldsIf P ops S oi v a) (hS:S w)
 (h:Du P .any ops Q S T fuel (listed.setIfInBounds i true) (a.put oi.dst v) w):Du P .any ops Q S T (fuel+1) listed a w :=
 L0 hi hT hiT (Region.noSelect_spec hs) hQ fuel listed a w hcl (Region.free_spec hi hf) (by simpa using hr) hy hS h
theorem QP {P:Program} {ops:Array Oper} {Q:Exit->Act->World->Prop} {S:World->Prop} {T:List Nat} {i:Nat} {fuel:Nat} {listed:Array Bool} {a:Act} {w:World} (hr:Region.ready .any ops listed=[i])
 (h:wpOp P ops Q i (fun a' w'=>(T.contains i=false->S w')/\Du P .any ops Q S T fuel (listed.setIfInBounds i true) a' w') a w):Du P .any ops Q S T (fuel+1) listed a w :=
 ⟨fun h0=>(by rw[h0] at hr; cases hr),fun j hj=>by rw[hr] at hj; simp only[iE] at hj; subst hj; exact h⟩
theorem EE {P:Program} {ops:Array Oper} {Q:Exit->Act->World->Prop} (hB:Eg Q) {S:World->Prop} {T:List Nat} (hT:GQ .any ops T=true) (hs:Region.noSelect ops=true):∀(ord:List (Nat×Dv)) (l:List (Oper×Dv)) (listed:Array Bool) (a:Act) (w:World),
 l.map (fun x=>some x.1)=ord.map (fun x=>ops[x.1]?)->l.map (·.2)=ord.map (·.2)->Cv ops T ord listed=true->Eo .any ops listed->(S w\/(ord.all (fun x=>match x.2 with|none=>true|_=>false))=true)->wpD P ops Q S l a w->Du P .any ops Q S T ord.length listed a w
 |[],l,listed,a,w,h1,h2,h3,hcl,hS,hw=>by
  cases l with
  |nil=>exact⟨by simpa [Cv] using h3,hw⟩
  |cons x l=>simp at h1
 |(i,q)::ord,[],listed,a,w,h1,h2,h3,hcl,hS,hw=>by simp at h1
 |(i,q)::ord,(o,q')::l,listed,a,w,h1,h2,h3,hcl,hS,hw=>by
  simp only[gB,List.cons.injEq] at h1 h2
  obtain⟨ho,h1⟩:=h1
  obtain⟨rfl,h2⟩:=h2
  match q',h2,h3,hS,hw with
  |some true,h2,h3,hS,hw =>
   simp only[Cv,gQ,iF] at h3
   obtain⟨⟨⟨hiT,hf⟩,hr⟩,h3⟩:=h3
   have hS':S w:=hS.resolve_right (by simp)
   obtain⟨v,hy,hw⟩:=hw
   have hri:i∈Region.ready .any ops listed:=by simpa using hr
   exact TZ hcl ho.symm hT hiT hs hf hr (fun c a w h=>hB c a _ _ w h) hy hS' (EE hB hT hs ord l _ _ _ h1 h2 h3 (Ck hcl hri) (.inl hS') hw)
  |some false,h2,h3,hS,hw =>
   simp only[Cv,gQ,iC] at h3
   obtain⟨hr,h3⟩:=h3
   have hS':S w:=hS.resolve_right (by simp)
   have hri:i∈Region.ready .any ops listed:=by rw[hr]; exact iG ..
   refine QP hr ?_
   unfold wpOp
   rw[<-ho]
   simp only
   unfold wpD at hw
   split
   · rename_i hq
     rw[fO hq] at hw
     exact .inl (Oper.wp_mono (fun a w h=>⟨fun _=>h.1,EE hB hT hs ord l _ _ _ h1 h2 h3 (Ck hcl hri) (.inl h.1) h.2⟩) hw)
   · rename_i hq
     rw[fR hq] at hw
     exact⟨fun _=>hS',EE hB hT hs ord l _ _ _ h1 h2 h3 (Ck hcl hri) (.inl hS') hw⟩
  |none,h2,h3,hS,hw =>
   simp only[Cv,gQ,iC] at h3
   obtain⟨⟨⟨hiT,hr⟩,hall⟩,h3⟩:=h3
   have hri:i∈Region.ready .any ops listed:=by rw[hr]; exact iG ..
   refine QP hr ?_
   unfold wpOp
   rw[<-ho]
   simp only
   unfold wpD at hw
   split
   · rename_i hq
     rw[fO hq] at hw
     exact .inl (Oper.wp_mono (fun a w h=>⟨fun hc=>(by rw[hiT] at hc; cases hc),EE hB hT hs ord l _ _ _ h1 h2 h3 (Ck hcl hri) (.inr hall) h⟩) hw)
   · rename_i hq
     rw[fR hq] at hw
     exact⟨fun hc=>(by rw[hiT] at hc; cases hc),EE hB hT hs ord l _ _ _ h1 h2 h3 (Ck hcl hri) (.inr hall) hw⟩
def IN (X:World->Prop):Prop:=∀w m,X w->X {w with drawn:=m}
section region
variable {P:Program} {n:Nat} {L:Env} {X:World->Prop} {Q:Exit->Act->World->Prop} {ops:Array Oper}
theorem Na {id:Nat} (l:List Oper) (hl:ops=l.toArray) (h:Pre n L X (wpL P ops Q l)):Pre n L X ((Code.region id ops false).wp P Q):=fun a w k x=>by
 subst hl
 refine wp_region ?_
 have:=K2 (P:=P) (ops:=l.toArray) (Q:=Q) l 0 (fun j=>by simp) a w (h a w k x)
 simpa [List.range_eq_range'] using this
theorem T0 {id:Nat} {l0:List Oper} (ord:List (Nat×Dv)) (T:List Nat) (l:List (Oper×Dv)) (S:World->Prop) (hB:Eg Q) (hm:P.follows .mixedOrders=true) (hs:Region.noSelect l0.toArray=true) (hT:GQ .any l0.toArray T=true) (hl:ord.length=l0.length)
 (h1:l.map (fun x=>some x.1)=ord.map (fun x=>l0[x.1]?)) (h2:l.map (·.2)=ord.map (·.2)) (hok:Cv l0.toArray T ord (Array.replicate l0.length false)=true)
 (hd:IN X) (hS:∀w,X w->S w) (h:Pre n L X (wpD P l0.toArray Q S l)):Pre n L X ((Code.region id l0.toArray true).wp P Q):=fun a w k x=>by
 refine wp_region_any hm (GP (S:=S) (T:=T) _ _ _ _ ?_)
 have h1':l.map (fun x=>some x.1)=ord.map (fun x=>l0.toArray[x.1]?):=by simpa using h1
 rw[List.size_toArray,<-hl]
 exact EE hB hT hs ord l _ a _ h1' h2 (by rw[hl]; exact hok) (by rw[hl]; simpa using IM (ops:=l0.toArray)) (.inl (hS _ (hd w _ x))) (h a _ k (hd w _ x))
theorem AB (h:Pre n L X (Q .normal)):Pre n L X (wpL P ops Q []):=h
theorem AK {S:World->Prop} (h:Pre n L X (Q .normal)):Pre n L X (wpD P ops Q S []):=h
def QOp (P:Program) (n:Nat) (L:Env) (X:World->Prop) (o:Oper) (v:Value):Prop:=∀a w,Know n L a->X w->(execOp a.eval o).run P w=.ok (.value v) w
theorem l_q {o:Oper} {rest:List Oper} {v:Value} {d:Nat} (hd:o.dst=some d) (hq:QOp P n L X o v) (hw:Cf ops L o=some true) (hn:d.blt n=true) (h:Pre n ((d,v)::L) X (wpL P ops Q rest)):Pre n L X (wpL P ops Q (o::rest)):=fun a w k x=>by
 unfold wpL
 rw[fO (CD k hw)]
 unfold Oper.wp
 rw[hq a w k x]
 show wpL P ops Q rest (a.put o.dst v) w
 rw[hd]
 exact h _ _ (k.put v hn) x
theorem cF {o:Oper} {rest:List Oper} {d:Nat} (hd:o.dst=some d) (hw:Cf ops L o=some false) (hn:d.blt n=true) (h:Pre n ((d,undef)::L) X (wpL P ops Q rest)):Pre n L X (wpL P ops Q (o::rest)):=fun a w k x=>by
 unfold wpL
 rw[fR (by rw[CD k hw]; simp),hd]
 exact h _ _ (k.put undef hn) x
theorem d_q {S:World->Prop} {o:Oper} {rest:List (Oper×Dv)} {v:Value} {d:Nat} (hd:o.dst=some d) (hq:QOp P n L S o v) (hw:Cf ops L o=some true) (hn:d.blt n=true) (h:Pre n ((d,v)::L) X (wpD P ops Q S rest)):Pre n L X (wpD P ops Q S ((o,some true)::rest)):=fun a w k x=>by
 refine⟨v,Or.inl ⟨CD k hw,fun w' hS=>hq a w' k hS⟩,?_⟩
 rw[hd]
 exact h _ _ (k.put v hn) x
theorem cG {S:World->Prop} {o:Oper} {q:Dv} {rest:List (Oper×Dv)} {d:Nat} (hd:o.dst=some d) (hw:Cf ops L o=some false) (hn:d.blt n=true) (h:Pre n ((d,undef)::L) X (wpD P ops Q S rest)):Pre n L X (wpD P ops Q S ((o,q)::rest)):=fun a w k x=>by
 match q with
 |some true =>
  refine⟨undef,Or.inr ⟨CD k hw,rfl⟩,?_⟩
  rw[hd]
  exact h _ _ (k.put undef hn) x
 |some false =>
  unfold wpD
  rw[fR (by rw[CD k hw]; simp),hd]
  exact h _ _ (k.put undef hn) x
 |none =>
  unfold wpD
  rw[fR (by rw[CD k hw]; simp),hd]
  exact h _ _ (k.put undef hn) x
def EOp (P:Program) (n:Nat) (L:Env) (X:World->Prop) (o:Oper) (Q:Exit->Act->World->Prop) (K:Act->World->Prop):Prop:=Pre n L X (fun a w=>o.wp P a w K Q)
theorem l_e {o:Oper} {rest:List Oper} (hw:Cf ops L o=some true) (h:EOp P n L X o Q (wpL P ops Q rest)):Pre n L X (wpL P ops Q (o::rest)):=fun a w k x=>by
 unfold wpL
 rw[fO (CD k hw)]
 exact h a w k x
def ZG (S:World->Prop) (F:Act->World->Prop):Act->World->Prop:=fun a w=>S w/\F a w
theorem d_e {S:World->Prop} {o:Oper} {rest:List (Oper×Dv)} (hw:Cf ops L o=some true) (h:EOp P n L X o Q (ZG S (wpD P ops Q S rest))):Pre n L X (wpD P ops Q S ((o,some false)::rest)):=fun a w k x=>by
 unfold wpD
 rw[fO (CD k hw)]
 exact h a w k x
theorem d_t {S:World->Prop} {o:Oper} {rest:List (Oper×Dv)} (hw:Cf ops L o=some true) (h:EOp P n L X o Q (wpD P ops Q S rest)):Pre n L X (wpD P ops Q S ((o,none)::rest)):=fun a w k x=>by
 unfold wpD
 rw[fO (CD k hw)]
 exact h a w k x
theorem Aj {S:World->Prop} {F:Act->World->Prop} (hS:∀w,X w->S w) (h:Pre n L X F):Pre n L X (ZG S F):=fun a w k x=>⟨hS w x,h a w k x⟩
theorem Pre.setB {F:Act->World->Prop} {t:Nat} {b c:Bool} (hl:look L t=some (.bool b)) (e:b=c) (h:Pre n ((t,.bool c)::L) X F):Pre n L X F:=fun a w k x=>h a w (k.sub (Sub.cons (by rw[hl,e]) (fun _ _ h=>h))) x
theorem Pre.setV {F:Act->World->Prop} {t:Nat} {b c:Value} (hl:look L t=some b) (e:b=c) (h:Pre n ((t,c)::L) X F):Pre n L X F:=fun a w k x=>h a w (k.sub (Sub.cons (by rw[hl,e]) (fun _ _ h=>h))) x
theorem Pre.caseB {F:Act->World->Prop} {b:Bool} (t:Nat) (hl:look L t=some (.bool b)) (h1:b=true->Pre n ((t,.bool true)::L) X F) (h2:b=false->Pre n ((t,.bool false)::L) X F):Pre n L X F:=by
 cases b with
 |true=>exact Pre.setB hl rfl (h1 rfl)
 |false=>exact Pre.setB hl rfl (h2 rfl)
end region
section anyH
variable {P:Program} {n:Nat} {L:Env} {X:World->Prop} {Q:Exit->Act->World->Prop} {S:World->Prop} {l:List Oper} {listed:Array Bool} {k:Nat}
theorem EZ {id:Nat} (S:World->Prop) (hm:P.follows .mixedOrders=true) (hd:IN X) (h:Pre n L X (wpAnyH P .any l.toArray Q S l.toArray.size (Array.replicate l.toArray.size false))):Pre n L X ((Code.region id l.toArray true).wp P Q):=fun a w kn x =>
 wp_region_held (S:=S) hm (h a _ kn (hd w _ x))
theorem a_q {o:Oper} {v:Value} {d:Nat} (hB:Eg Q) (i:Nat) (hi:l[i]?=some o) (hs:Region.noSelect l.toArray=true) (hf:Region.free .any l.toArray listed i=true) (hr:(Region.ready .any l.toArray listed).contains i=true) (hXS:∀w,X w->S w) (hd:o.dst=some d) (hq:QOp P n L S o v) (hw:Cf l.toArray L o=some true) (hn:d.blt n=true)
 (h:Pre n ((d,v)::L) X (wpAnyH P .any l.toArray Q S k (listed.setIfInBounds i true))):Pre n L X (wpAnyH P .any l.toArray Q S (k+1) listed):=fun a w kn x =>
 wpAnyH_take (by rw[g7]; exact hi) hs hf hr (fun c a w h=>hB c a _ _ w h) (Or.inl ⟨CD kn hw,fun w' hS=>hq a w' kn hS⟩) (hXS w x) (by
  rw[hd]; exact h _ _ (kn.put v hn) x)
abbrev EK (P:Program) (l:List Oper) (Q:Exit->Act->World->Prop) (S:World->Prop) (k:Nat) (listed:Array Bool) (i:Nat):Act->World->Prop:=ZG S (wpAnyH P .any l.toArray Q S k (listed.setIfInBounds i true))
theorem KK {o:Oper} {i:Nat} (hi:l[i]?=some o) (hw:Cf l.toArray L o=some true) (h:EOp P n L X o Q (EK P l Q S k listed i)):Pre n L X (wpOp P l.toArray Q i (fun a' w'=>S w'/\wpAnyH P .any l.toArray Q S k (listed.setIfInBounds i true) a' w')):=fun a w kn x=>by
 unfold wpOp
 rw[g7,hi]
 simp only[CD kn hw,gR]
 exact .inl (h a w kn x)
theorem AH {o1:Oper} (i1:Nat) (hr:Region.ready .any l.toArray listed=[i1]) (h1:l[i1]?=some o1) (w1:Cf l.toArray L o1=some true) (g1:EOp P n L X o1 Q (EK P l Q S k listed i1)):Pre n L X (wpAnyH P .any l.toArray Q S (k+1) listed):=fun a w kn x =>
 wpAnyH_all hr (by simp) (fun j hj=>by simp only[fq,iH,iI] at hj; subst hj; exact KK h1 w1 g1 a w kn x)
theorem BK {o1 o2:Oper} (i1 i2:Nat) (hr:Region.ready .any l.toArray listed=[i1,i2]) (h1:l[i1]?=some o1) (h2:l[i2]?=some o2) (w1:Cf l.toArray L o1=some true) (w2:Cf l.toArray L o2=some true)
 (g1:EOp P n L X o1 Q (EK P l Q S k listed i1)) (g2:EOp P n L X o2 Q (EK P l Q S k listed i2)):Pre n L X (wpAnyH P .any l.toArray Q S (k+1) listed):=fun a w kn x =>
 wpAnyH_all hr (by simp) (fun j hj=>by
  simp only[fq,iH,iI] at hj
  rcases hj with rfl|rfl
  · exact KK h1 w1 g1 a w kn x
  · exact KK h2 w2 g2 a w kn x)
theorem H5 {o1 o2 o3:Oper} (i1 i2 i3:Nat) (hr:Region.ready .any l.toArray listed=[i1,i2,i3]) (h1:l[i1]?=some o1) (h2:l[i2]?=some o2) (h3:l[i3]?=some o3) (w1:Cf l.toArray L o1=some true) (w2:Cf l.toArray L o2=some true) (w3:Cf l.toArray L o3=some true)
 (g1:EOp P n L X o1 Q (EK P l Q S k listed i1)) (g2:EOp P n L X o2 Q (EK P l Q S k listed i2)) (g3:EOp P n L X o3 Q (EK P l Q S k listed i3)):Pre n L X (wpAnyH P .any l.toArray Q S (k+1) listed):=fun a w kn x =>
 wpAnyH_all hr (by simp) (fun j hj=>by
  simp only[fq,iH,iI] at hj
  rcases hj with rfl|rfl|rfl
  · exact KK h1 w1 g1 a w kn x
  · exact KK h2 w2 g2 a w kn x
  · exact KK h3 w3 g3 a w kn x)
theorem BW (hr:Region.ready .any l.toArray listed=[]) (h:Pre n L X (Q .normal)):Pre n L X (wpAnyH P .any l.toArray Q S k listed):=fun a w kn x=>wpAnyH_done hr (h a w kn x) k
end anyH
end Go.Sep
namespace Go.Sep
section
variable {P:Program} {n:Nat} {L:Env} {X:World->Prop} {o:Oper}
theorem QOp.mk {v:Value} (s:Act->Sem Value) (he:∀a,execOp a.eval o=(do pure (.value (<-s a)))) (h:∀a w,Know n L a->X w->(s a).run P w=.ok v w):QOp P n L X o v:=fun a w k x=>by
 rw[he]; simp[h a w k x]
theorem QOp.sub {X':World->Prop} {v:Value} (h:QOp P n L X o v) (s:∀w,X' w->X w):QOp P n L X' o v:=fun a w k x=>h a w k (s w x)
theorem A0 {x:Operand} {v:Value} (ho:o.op=.move x) (h:ev L x=some v):QOp P n L X o v:=fun a w k hx=>by
 simp only[execOp,ho,k.eval h]; rfl
theorem AE {x:Operand} {v:Value} (ho:o.op=.assign x) (h:ev L x=some v):QOp P n L X o v:=fun a w k hx=>by
 simp only[execOp,ho,k.eval h]; rfl
theorem T1 {c x y:Operand} {v:Value} (ho:o.op=.pick c x y) (hc:ev L c=some (.bool true)) (h:ev L x=some v):QOp P n L X o v:=fun a w k hx=>by
 simp[execOp,ho,k.eval h,k.eval hc,asBool]
theorem T2 {c x y:Operand} {v:Value} (ho:o.op=.pick c x y) (hc:ev L c=some (.bool false)) (h:ev L y=some v):QOp P n L X o v:=fun a w k hx=>by
 simp[execOp,ho,k.eval h,k.eval hc,asBool]
theorem CW {op:BinOp} {t u:TypeId} {x y:Operand} {vx vy v:Value} (ho:o.op=.binOp op t x y u) (hx:ev L x=some vx) (hy:ev L y=some vy)
 (hr:∀w,X w->(do eqGuard op t x y vx vy; binOp op t vx vy:Sem Value).run P w=.ok v w):QOp P n L X o v:=fun a w k x=>by
 have h0:=hr w x
 simp only[execOp,ho,k.eval hx,k.eval hy]
 rw[gx,h0]
 rfl
theorem Cj {z:Int} (h : -9223372036854775808<=z/\z<=9223372036854775807):IntKind.i64.wrap z=z:=by
 rw[IntKind.wrap_i64]; omega
theorem BR {z:Int} (h:0<=z/\z<=255):IntKind.u8.wrap z=z:=by
 simp only[IntKind.wrap,IntKind.signed,IntKind.bits,iJ,iK,iL]; omega
theorem EL {z:Int} (h:0<=z/\z<=18446744073709551615):IntKind.u64.wrap z=z:=by
 simp only[IntKind.wrap,IntKind.signed,IntKind.bits,iJ,iK,iL]; omega
theorem Ch {op:BinOp} {t:TypeId} {x y:Operand} {j k:IntKind} {p q:Int} (w:World):(eqGuard op t x y (.int j p) (.int k q)).run P w=.ok () w:=by
 cases op<;>rfl
theorem T3 {t u:TypeId} {x y:Operand} {k:IntKind} {p q:Int} (ho:o.op=.binOp .add t x y u) (hx:ev L x=some (.int k p)) (hy:ev L y=some (.int k q)):QOp P n L X o (.int k (k.wrap (p+q))) :=
 CW ho hx hy (fun w _=>by rw[gx,Ch]; simp[binOp,Op.intArith])
theorem cH {t u:TypeId} {x y:Operand} {k:IntKind} {p q:Int} (ho:o.op=.binOp .sub t x y u) (hx:ev L x=some (.int k p)) (hy:ev L y=some (.int k q)):QOp P n L X o (.int k (k.wrap (p-q))) :=
 CW ho hx hy (fun w _=>by rw[gx,Ch]; simp[binOp,Op.intArith])
theorem Za {t u:TypeId} {x y:Operand} {k:IntKind} {p q:Int} (ho:o.op=.binOp .mul t x y u) (hx:ev L x=some (.int k p)) (hy:ev L y=some (.int k q)):QOp P n L X o (.int k (k.wrap (p*q))) :=
 CW ho hx hy (fun w _=>by rw[gx,Ch]; simp[binOp,Op.intArith])
theorem Bf {t u:TypeId} {x y:Operand} {p q:Int} (ho:o.op=.binOp .add t x y u) (hx:ev L x=some (.int .i64 p)) (hy:ev L y=some (.int .i64 q)) (hb : -9223372036854775808<=p+q/\p+q<=9223372036854775807):QOp P n L X o (.int .i64 (p+q)):=by
 have:=T3 (P:=P) (n:=n) (X:=X) ho hx hy; rwa[Cj hb] at this
theorem Dl {t u:TypeId} {x y:Operand} {p q:Int} (ho:o.op=.binOp .sub t x y u) (hx:ev L x=some (.int .i64 p)) (hy:ev L y=some (.int .i64 q)) (hb : -9223372036854775808<=p-q/\p-q<=9223372036854775807):QOp P n L X o (.int .i64 (p-q)):=by
 have:=cH (P:=P) (n:=n) (X:=X) ho hx hy; rwa[Cj hb] at this
theorem Gl {t u:TypeId} {x y:Operand} {p q:Int} (ho:o.op=.binOp .mul t x y u) (hx:ev L x=some (.int .i64 p)) (hy:ev L y=some (.int .i64 q)) (hb : -9223372036854775808<=p*q/\p*q<=9223372036854775807):QOp P n L X o (.int .i64 (p*q)):=by
 have:=Za (P:=P) (n:=n) (X:=X) ho hx hy; rwa[Cj hb] at this
theorem cI {t u:TypeId} {x y:Operand} {p:Nat} (ho:o.op=.binOp .add t x y u) (hx:ev L x=some (.int .i64 (p:Int))) (hy:ev L y=some (.int .i64 1)) (hb:p<9223372036854775807):QOp P n L X o (.int .i64 ((p+1:Nat):Int)):=by
 have:=Bf (P:=P) (n:=n) (X:=X) ho hx hy (by omega)
 exact this
theorem T4 {t u:TypeId} {x y:Operand} {k:IntKind} {p q:Int} (ho:o.op=.binOp .rem t x y u) (hx:ev L x=some (.int k p)) (hy:ev L y=some (.int k q)) (hq:q≠0):QOp P n L X o (.int k (p.tmod q)) :=
 CW ho hx hy (fun w _=>by rw[gx,Ch]; simp[binOp,Op.intDiv,hq])
theorem Bh {t u:TypeId} {x y:Operand} {k:IntKind} {p q:Int} (ho:o.op=.binOp .rem t x y u) (hx:ev L x=some (.int k p)) (hy:ev L y=some (.int k q)) (hp:0<=p) (hq:q≠0):QOp P n L X o (.int k (p%q)):=by
 have:=T4 (P:=P) (n:=n) (X:=X) ho hx hy hq
 rwa[Int.tmod_eq_emod_of_nonneg hp] at this
theorem Zb {t u:TypeId} {x y:Operand} {k:IntKind} {p q:Int} (ho:o.op=.binOp .quo t x y u) (hx:ev L x=some (.int k p)) (hy:ev L y=some (.int k q)) (hq:q≠0):QOp P n L X o (.int k (k.wrap (p.tdiv q))) :=
 CW ho hx hy (fun w _=>by rw[gx,Ch]; simp[binOp,Op.intDiv,hq])
theorem Br {t u:TypeId} {x y:Operand} {p q:Int} (ho:o.op=.binOp .quo t x y u) (hx:ev L x=some (.int .i64 p)) (hy:ev L y=some (.int .i64 q)) (hp:0<=p) (hq:0<q) (hb:p<=9223372036854775807):QOp P n L X o (.int .i64 (p/q)):=by
 have:=Zb (P:=P) (n:=n) (X:=X) ho hx hy (by omega)
 have h1:p/q<=p:=Int.ediv_le_self q hp
 have h2:0<=p/q:=Int.ediv_nonneg hp (by omega)
 rw[Int.tdiv_eq_ediv_of_nonneg hp,Cj (by omega)] at this
 exact this
theorem cJ {t u:TypeId} {x y:Operand} {k:IntKind} {p q:Int} (ho:o.op=.binOp .eql t x y u) (hx:ev L x=some (.int k p)) (hy:ev L y=some (.int k q)):QOp P n L X o (.bool (decide (p=q))) :=
 CW ho hx hy (fun w _=>by rw[gx,Ch]; simp[binOp,Op.intCmp]; rfl)
theorem cK {t u:TypeId} {x y:Operand} {k:IntKind} {p q:Int} (ho:o.op=.binOp .neq t x y u) (hx:ev L x=some (.int k p)) (hy:ev L y=some (.int k q)):QOp P n L X o (.bool (!decide (p=q))) :=
 CW ho hx hy (fun w _=>by rw[gx,Ch]; simp[binOp,Op.intCmp]; rfl)
theorem cL {t u:TypeId} {x y:Operand} {k:IntKind} {p q:Int} (ho:o.op=.binOp .lss t x y u) (hx:ev L x=some (.int k p)) (hy:ev L y=some (.int k q)):QOp P n L X o (.bool (decide (p<q))) :=
 CW ho hx hy (fun w _=>by rw[gx,Ch]; simp[binOp,Op.intCmp])
theorem Hk {t u:TypeId} {x y:Operand} {k:IntKind} {p q:Int} (ho:o.op=.binOp .leq t x y u) (hx:ev L x=some (.int k p)) (hy:ev L y=some (.int k q)):QOp P n L X o (.bool (decide (p<=q))) :=
 CW ho hx hy (fun w _=>by rw[gx,Ch]; simp[binOp,Op.intCmp])
theorem BS {t u:TypeId} {x y:Operand} {k:IntKind} {p q:Int} (ho:o.op=.binOp .gtr t x y u) (hx:ev L x=some (.int k p)) (hy:ev L y=some (.int k q)):QOp P n L X o (.bool (decide (q<p))) :=
 CW ho hx hy (fun w _=>by rw[gx,Ch]; simp[binOp,Op.intCmp])
theorem cM {t u:TypeId} {x y:Operand} {k:IntKind} {p q:Int} (ho:o.op=.binOp .geq t x y u) (hx:ev L x=some (.int k p)) (hy:ev L y=some (.int k q)):QOp P n L X o (.bool (decide (q<=p))) :=
 CW ho hx hy (fun w _=>by rw[gx,Ch]; simp[binOp,Op.intCmp])
theorem GR {s t:TypeId} {x:Operand} {j k:IntKind} {p:Int} (ho:o.op=.convert s t x) (hs:P.underlying s=some (.int j)) (ht:P.underlying t=some (.int k)) (hx:ev L x=some (.int j p)):QOp P n L X o (.int k (k.wrap p)) :=
 QOp.mk (fun a=>convert s t (a.eval x)) (fun a=>by simp[execOp,ho]) (fun a w hk _=>by
  rw[hk.eval hx]; simp[convert,underlying,hs,ht,Conv.intToInt])
theorem Bq {s t:TypeId} {x:Operand} {j k:IntKind} {p:Int} (ho:o.op=.convert s t x) (hs:P.underlying s=some (.int j)) (ht:P.underlying t=some (.int k)) (hx:ev L x=some (.int j p)) (hw:k.wrap p=p):QOp P n L X o (.int k p):=by
 have:=GR (P:=P) (n:=n) (X:=X) ho hs ht hx; rwa[hw] at this
theorem cN {t:TypeId} {x:Operand} {b:Bool} (ho:o.op=.unOp .not t x) (hx:ev L x=some (.bool b)):QOp P n L X o (.bool (!b)) :=
 QOp.mk (fun a=>Op.unary .not (a.eval x)) (fun a=>by simp[execOp,ho]) (fun a w hk _=>by rw[hk.eval hx]; simp[Op.unary])
theorem cP {x y:Operand} {ts:Array TypeId} {k j:IntKind} {p q:Int} (ho:o.op=.call ⟨.builtin .max,#[x,y],ts⟩) (hx:ev L x=some (.int k p)) (hy:ev L y=some (.int j q)):QOp P n L X o (.int k (if q>p then q else p)):=fun a w hk _=>by
 simp[execOp,ho,resolve,invoke,builtin,hk.eval hx,hk.eval hy,Builtin.max_,Builtin.max2,Result.andThen]
theorem cQ {x y:Operand} {ts:Array TypeId} {k j:IntKind} {p q:Int} (ho:o.op=.call ⟨.builtin .min,#[x,y],ts⟩) (hx:ev L x=some (.int k p)) (hy:ev L y=some (.int j q)):QOp P n L X o (.int k (if q<p then q else p)):=fun a w hk _=>by
 simp[execOp,ho,resolve,invoke,builtin,hk.eval hx,hk.eval hy,Builtin.min_,Builtin.min2,Result.andThen]
theorem AT {t:TypeId} {d:TypeDesc} (h:P.underlying t=some d) (w:World):(underlying t).run P w=.ok d w:=by simp[underlying,h]
theorem Gm {t:TypeId} {x y:Value} {b:Bool} (w:World) (h:∀d,(Op.equalIn (d+1) t x y).run P w=.ok b w):(Op.equal t x y).run P w=.ok b w:=h 9999
theorem Xl {t:TypeId} {p q:Bool} (ht:P.underlying t=some .bool) (w:World):(Op.equal t (.bool p) (.bool q)).run P w=.ok (p == q) w :=
 Gm w (fun d=>by unfold Op.equalIn; simp[AT ht])
theorem QQ {t e:TypeId} {p:Option Addr} (ht:P.underlying t=some (.pointer e)) (w:World):(Op.equal t (.pointer p) (.pointer none)).run P w=.ok p.isNone w :=
 Gm w (fun d=>by unfold Op.equalIn; cases p<;>simp[AT ht])
theorem T5 {t e:TypeId} {p:Option Addr} {l c l' c':Nat} (ht:P.underlying t=some (.slice e)) (w:World):(Op.equal t (.slice p l c) (.slice none l' c')).run P w=.ok p.isNone w :=
 Gm w (fun d=>by unfold Op.equalIn; cases p<;>simp[AT ht])
theorem L3 {t:TypeId} {x y:Value} {b:Bool} (w:World) (hb:binOp .eql t x y=(do pure (.bool (<-Op.equal t x y)))) (h:(Op.equal t x y).run P w=.ok b w):(binOp .eql t x y).run P w=.ok (.bool b) w:=by
 rw[hb]; simp[h]
theorem Pf {t:TypeId} {x y:Value} {b:Bool} (w:World) (hb:binOp .neq t x y=(do pure (.bool (!(<-Op.equal t x y))))) (h:(Op.equal t x y).run P w=.ok b w):(binOp .neq t x y).run P w=.ok (.bool (!b)) w:=by
 rw[hb]; simp[h]
theorem DQ {α:Type} {x:Sem Unit} {y:Sem α} {v:α} {w:World} (hx:x.run P w=.ok () w) (hy:y.run P w=.ok v w):(do x; y:Sem α).run P w=.ok v w:=by
 rw[gx,hx]; exact hy
theorem cR {t u:TypeId} {x y:Operand} {p q:Bool} (ho:o.op=.binOp .neq t x y u) (ht:P.underlying t=some .bool) (hx:ev L x=some (.bool p)) (hy:ev L y=some (.bool q)):QOp P n L X o (.bool (!(p == q))) :=
 CW ho hx hy (fun w _=>DQ rfl (Pf w rfl (Xl ht w)))
theorem cS {t u:TypeId} {x y:Operand} {p q:ByteArray} (ho:o.op=.binOp .eql t x y u) (hx:ev L x=some (.string p)) (hy:ev L y=some (.string q)):QOp P n L X o (.bool (p.toList == q.toList)) :=
 CW ho hx hy (fun w _=>by simp[eqGuard,binOp,Op.stringOp])
theorem DZ {t u e:TypeId} {x y:Operand} {p:Option Addr} (ho:o.op=.binOp .eql t x y u) (ht:P.underlying t=some (.pointer e)) (hx:ev L x=some (.pointer p)) (hy:ev L y=some (.pointer none)):QOp P n L X o (.bool p.isNone) :=
 CW ho hx hy (fun w _=>DQ rfl (L3 w rfl (QQ ht w)))
theorem DR {t u e:TypeId} {x y:Operand} {p:Option Addr} (ho:o.op=.binOp .neq t x y u) (ht:P.underlying t=some (.pointer e)) (hx:ev L x=some (.pointer p)) (hy:ev L y=some (.pointer none)):QOp P n L X o (.bool (!p.isNone)) :=
 CW ho hx hy (fun w _=>DQ rfl (Pf w rfl (QQ ht w)))
theorem Fv {t u e:TypeId} {x y:Operand} {p:Option Addr} {l c l' c':Nat} (ho:o.op=.binOp .eql t x y u) (ht:P.underlying t=some (.slice e)) (hx:ev L x=some (.slice p l c)) (hy:ev L y=some (.slice none l' c')):QOp P n L X o (.bool p.isNone) :=
 CW ho hx hy (fun w _=>DQ rfl (L3 w rfl (T5 ht w)))
theorem R3 {x:Operand} {i:Nat} {vs:List Value} {v:Value} (ho:o.op=.extract x i) (hx:ev L x=some (.tuple vs.toArray)) (h:vs[i]?=some v):QOp P n L X o v :=
 QOp.mk (fun a=>Instr.extract (a.eval x) i) (fun a=>by simp[execOp,ho]) (fun a w hk _=>by rw[hk.eval hx]; simp[Instr.extract,h])
theorem Bt {x:Operand} {p:Addr} (ho:o.op=.nilCheck x) (hx:ev L x=some (.pointer (some p))):QOp P n L X o (.pointer (some p)):=fun a w hk _=>by
 simp only[execOp,ho,hk.eval hx]; rfl
theorem BF (b f m:Nat):Addr.add ⟨b,f,none⟩ m=⟨b,f+m,none⟩:=by
 unfold Addr.add; split
 · next h=>subst h; rfl
 · rfl
theorem Ba {s:TypeId} {x:Operand} {i b off:Nat} {fs:List Field} {f:Field} {sz:Nat} (ho:o.op=.fieldAddr s x i) (hs:P.underlying s=some (.struct fs.toArray)) (hf:fs[i]?=some f) (hz:∀w,(sizeOf f.type).run P w=.ok sz w) (hnz:sz.beq 0=false)
 (hx:ev L x=some (.pointer (some ⟨b,off,none⟩))):QOp P n L X o (.pointer (some ⟨b,off+f.offset,none⟩)) :=
 QOp.mk (fun a=>Instr.fieldAt s (a.eval x) i) (fun a=>by simp[execOp,ho]) (fun a w hk _=>by
  have:sz≠0:=fun e=>by subst e; cases hnz
  rw[hk.eval hx]; simp[Instr.fieldAt,AT hs,hf,Instr.sureAddr,fieldPlace,hz,this,BF])
theorem FX {t e:TypeId} {x i:Operand} {b off len cap sz:Nat} {k:IntKind} {p:Int} (j:Nat) (ho:o.op=.indexAddr t x i) (ht:P.underlying t=some (.slice e)) (hz:∀w,(sizeOf e).run P w=.ok sz w)
 (hx:ev L x=some (.slice (some ⟨b,off,none⟩) len cap)) (hi:ev L i=some (.int k p)) (hp:p=(j:Int)) (hj:j<len):QOp P n L X o (.pointer (some ⟨b,off+j*sz,none⟩)) :=
 QOp.mk (fun a=>Instr.indexAt t (a.eval x) (a.eval i)) (fun a=>by simp[execOp,ho]) (fun a w hk _=>by
  subst hp
  have h1:(0:Int)<=(j:Int)/\(j:Int)<(len:Int):=by omega
  rw[hk.eval hx,hk.eval hi]; simp[Instr.indexAt,asIntOf,AT ht,hz,hj,BF])
theorem AZ {t e:TypeId} {x i:Operand} {b off len sz:Nat} {k:IntKind} {p:Int} (j:Nat) (ho:o.op=.indexAddr t x i) (ht:P.underlying t=some (.array len e)) (hz:∀w,(sizeOf e).run P w=.ok sz w)
 (hx:ev L x=some (.pointer (some ⟨b,off,none⟩))) (hi:ev L i=some (.int k p)) (hp:p=(j:Int)) (hj:j<len):QOp P n L X o (.pointer (some ⟨b,off+j*sz,none⟩)) :=
 QOp.mk (fun a=>Instr.indexAt t (a.eval x) (a.eval i)) (fun a=>by simp[execOp,ho]) (fun a w hk _=>by
  subst hp
  have h1:(0:Int)<=(j:Int)/\(j:Int)<(len:Int):=by omega
  rw[hk.eval hx,hk.eval hi]; simp[Instr.indexAt,asIntOf,AT ht,hz,hj,Instr.sureAddr,BF])
theorem DB {t:TypeId} {x:Operand} {i:Nat} {fs:List Field} {f:Field} {cs:List Value} {v:Value} (ho:o.op=.field t x i) (hs:P.underlying t=some (.struct fs.toArray)) (hf:fs[i]?=some f) (hg:∀w,(isAgg f.type).run P w=.ok false w)
 (hx:ev L x=some (.agg cs.toArray)) (h:cs[f.offset]?=some v):QOp P n L X o v :=
 QOp.mk (fun a=>Instr.field t (a.eval x) i) (fun a=>by simp[execOp,ho]) (fun a w hk _=>by
  rw[hk.eval hx]; simp[Instr.field,AT hs,hf,part,hg,asAgg,h])
theorem Ew {x:Operand} {t e:TypeId} {p:Option Addr} {l c:Nat} (ho:o.op=.call ⟨.builtin .len,#[x],#[t]⟩) (ht:P.underlying t=some (.slice e)) (hx:ev L x=some (.slice p l c)):QOp P n L X o (.int .i64 (l:Int)):=fun a w hk _=>by
 simp[execOp,ho,resolve,invoke,builtin,hk.eval hx,Builtin.len_,AT ht,Result.andThen,goInt]
theorem Ep {x:Operand} {t:TypeId} {s:ByteArray} (ho:o.op=.call ⟨.builtin .len,#[x],#[t]⟩) (ht:P.underlying t=some .string) (hx:ev L x=some (.string s)):QOp P n L X o (.int .i64 (s.size:Int)):=fun a w hk _=>by
 simp[execOp,ho,resolve,invoke,builtin,hk.eval hx,Builtin.len_,AT ht,Result.andThen,goInt]
theorem cW {x:Operand} {t e:TypeId} {p:Option Addr} {l c:Nat} (ho:o.op=.call ⟨.builtin .cap,#[x],#[t]⟩) (ht:P.underlying t=some (.slice e)) (hx:ev L x=some (.slice p l c)):QOp P n L X o (.int .i64 (c:Int)):=fun a w hk _=>by
 simp[execOp,ho,resolve,invoke,builtin,hk.eval hx,Builtin.cap_,AT ht,Result.andThen,goInt]
theorem DD {fn:Fn} {fs cs:Array Operand} {vs us:Array Value} (f:FuncId) (ho:o.op=.makeFunc (.func f) fs cs) (h1:∀a,Know n L a->fs.map a.eval=vs) (h2:∀a,Know n L a->cs.map a.eval=us):QOp P n L X o (.func (.func f) vs us) :=
 QOp.mk (fun a=>Instr.makeFunc (.func f) (fs.map a.eval) (cs.map a.eval)) (fun a=>by simp[execOp,ho]) (fun a w hk _=>by
  rw[h1 a hk,h2 a hk]; rfl)
theorem CA {x:Value} {y j:Nat} {c:BoundsCode} {k:IntKind} (w:World) (hx:x=.int k (j:Int)) (hj:j<=y):(Instr.sliceBound x y c).run P w=.ok j w:=by
 subst hx
 have:(0:Int)<=(j:Int)/\(j:Int)<=(y:Int):=by omega
 simp[Instr.sliceBound,asIntOf,hj]
theorem Da {t e:TypeId} {x lo:Operand} {b off len cap sz:Nat} {k:IntKind} {zl:Int} (l:Nat) (ho:o.op=.slice t x (some lo) none none) (ht:P.underlying t=some (.slice e)) (hz:∀w,(sizeOf e).run P w=.ok sz w)
 (hx:ev L x=some (.slice (some ⟨b,off,none⟩) len cap)) (hlo:ev L lo=some (.int k zl)) (el:zl=(l:Int)) (h1:l<=len) :
 QOp P n L X o (.slice (some ⟨b,off+(if cap=l then 0 else l*sz),none⟩) (len-l) (cap-l)) :=
 QOp.mk (fun a=>Instr.sliceAt t (a.eval x) (some (a.eval lo)) none none) (fun a=>by simp[execOp,ho]) (fun a w hk _=>by
  subst el
  rw[hk.eval hx,hk.eval hlo]
  simp only[Instr.sliceAt,Instr.slice,Instr.sliceBounds,gx,AT ht,gz,gy,CA (P:=P) w rfl h1,hz]
  by_cases he:cap=l
  · simp[he]
  · simp[he,BF])
theorem Ff {t e:TypeId} {x hi:Operand} {p:Option Addr} {len cap sz:Nat} {k:IntKind} {zh:Int} (h:Nat) (ho:o.op=.slice t x none (some hi) none) (ht:P.underlying t=some (.slice e)) (hz:∀w,(sizeOf e).run P w=.ok sz w)
 (hx:ev L x=some (.slice p len cap)) (hhi:ev L hi=some (.int k zh)) (eh:zh=(h:Int)) (h2:h<=cap) :
 QOp P n L X o (.slice p h cap) :=
 QOp.mk (fun a=>Instr.sliceAt t (a.eval x) none (some (a.eval hi)) none) (fun a=>by simp[execOp,ho]) (fun a w hk _=>by
  subst eh
  rw[hk.eval hx,hk.eval hhi]
  simp only[Instr.sliceAt,Instr.slice,Instr.sliceBounds,gx,AT ht,gz,gy,CA (P:=P) w rfl h2,hz]
  cases p<;>simp[Addr.add])
theorem Eh {t e:TypeId} {x hi:Operand} {b off len sz:Nat} {k:IntKind} {zh:Int} (h:Nat) (ho:o.op=.slice t x none (some hi) none) (ht:P.underlying t=some (.array len e)) (hz:∀w,(sizeOf e).run P w=.ok sz w)
 (hx:ev L x=some (.pointer (some ⟨b,off,none⟩))) (hhi:ev L hi=some (.int k zh)) (eh:zh=(h:Int)) (h2:h<=len) :
 QOp P n L X o (.slice (some ⟨b,off,none⟩) h len) :=
 QOp.mk (fun a=>Instr.sliceAt t (a.eval x) none (some (a.eval hi)) none) (fun a=>by simp[execOp,ho]) (fun a w hk _=>by
  subst eh
  rw[hk.eval hx,hk.eval hhi]
  simp only[Instr.sliceAt,Instr.sureAddr,Instr.sliceBounds,gx,AT ht,gz,gy,CA (P:=P) w rfl h2,hz]
  simp[Addr.add])
theorem Fw {t e:TypeId} {x:Operand} {b off len sz:Nat} (ho:o.op=.slice t x none none none) (ht:P.underlying t=some (.array len e)) (hz:∀w,(sizeOf e).run P w=.ok sz w)
 (hx:ev L x=some (.pointer (some ⟨b,off,none⟩))) :
 QOp P n L X o (.slice (some ⟨b,off,none⟩) len len) :=
 QOp.mk (fun a=>Instr.sliceAt t (a.eval x) none none none) (fun a=>by simp[execOp,ho]) (fun a w hk _=>by
  rw[hk.eval hx]
  simp only[Instr.sliceAt,Instr.sureAddr,Instr.sliceBounds,gx,AT ht,gz,gy,hz]
  simp[Addr.add])
theorem T6 {t:TypeId} {x:Operand} {b off:Nat} {v:Value} (ho:o.op=.load t x) (hg:∀w,(isAgg t).run P w=.ok false w) (hx:ev L x=some (.pointer (some ⟨b,off,none⟩)))
 (hc:∀w,X w->w.cell? ⟨b,off,none⟩=some v):QOp P n L X o v :=
 QOp.mk (fun a=>Instr.loadAt t (a.eval x)) (fun a=>by simp[execOp,ho]) (fun a w hk hX=>by
  rw[hk.eval hx]; simp[Instr.loadAt,Instr.sureAddr,loadVar,hg,hc w hX])
theorem Ea (b off:Nat) (w:World):∀(m i:Nat) (vs:List Value) (acc:Array Value),vs.length=m->(∀(j:Nat) (v:Value),vs[j]?=some v->w.cell? ⟨b,off+(i+j),none⟩=some v) ->
 (loadCellsFrom ⟨b,off,none⟩ i m acc).run P w=.ok (acc++vs.toArray) w
 |0,i,vs,acc,hl,h=>by
  have:vs=[]:=List.length_eq_zero_iff.1 hl
  subst this; simp[loadCellsFrom]
 |m+1,i,[],acc,hl,h=>by simp at hl
 |m+1,i,u::vs,acc,hl,h=>by
  have h0:=h 0 u rfl
  rw[iM] at h0
  simp only[loadCellsFrom,gx,BF]
  rw[run_load]
  simp only[h0,gz]
  rw[Ea b off w m (i+1) vs _ (by simpa using hl) (fun j v hj=>by
   have:=h (j+1) v (by simpa using hj)
   rwa[show off+(i+(j+1))=off+(i+1+j) from by omega] at this)]
  simp
theorem K3 {t:TypeId} {x:Operand} {b off sz:Nat} {vs:List Value} (ho:o.op=.load t x) (hg:∀w,(isAgg t).run P w=.ok true w) (hz:∀w,(sizeOf t).run P w=.ok sz w) (hx:ev L x=some (.pointer (some ⟨b,off,none⟩))) (hl:vs.length=sz)
 (hc:∀w,X w->∀(j:Nat) (v:Value),vs[j]?=some v->w.cell? ⟨b,off+j,none⟩=some v):QOp P n L X o (.agg vs.toArray) :=
 QOp.mk (fun a=>Instr.loadAt t (a.eval x)) (fun a=>by simp[execOp,ho]) (fun a w hk hX=>by
  rw[hk.eval hx]
  have:=Ea (P:=P) b off w sz 0 vs #[] hl (fun j v hj=>by rw[gE]; exact hc w hX j v hj)
  simp[Instr.loadAt,Instr.sureAddr,loadVar,hg,hz,loadCells,this])
end
end Go.Sep
namespace Go.Sep
open Go.RowKit
structure Ent where
 b:Option Nat
 φ:Option Obj->Prop
def Ent.at (e:Ent) (w:World):Prop:=e.φ (e.b.bind (w.heap[·]?))
def dom (H:List Ent):List Nat:=H.filterMap Ent.b
structure HP (H:List Ent) (w:World):Prop where
 holds:∀e∈H,e.at w
 nodup:(dom H).Nodup
 lt:∀b∈dom H,b<w.heap.size
structure Keep (w0:World) (D:List Nat) (w:World):Prop where
 os:w.os=w0.os
 tape:w.tape=w0.tape
 output:w.output=w0.output
 size:w0.heap.size<=w.heap.size
 block:∀b,b<w0.heap.size->b∉D->w.heap[b]?=w0.heap[b]?
structure St (w0:World) (D:List Nat) (H:List Ent) (w:World):Prop where
 hp:HP H w
 dom:∀b∈dom H,b∈D\/w0.heap.size<=b
 keep:Keep w0 D w
theorem Keep.refl (w:World) (D:List Nat):Keep w D w:=⟨rfl,rfl,rfl,ga _,fun _ _ _=>rfl⟩
theorem Keep.trans {a b c:World} {D D':List Nat} (h:Keep a D b) (h':Keep b D' c) (hs:∀k,k∈D'->k<a.heap.size->k∈D):Keep a D c :=
 ⟨h'.os.trans h.os,h'.tape.trans h.tape,h'.output.trans h.output,gF h.size h'.size,fun k hk hD=>(h'.block k (iN hk h.size) (fun e=>hD (hs k e hk))).trans (h.block k hk hD)⟩
theorem Keep.below {w0 w:World} (h:Keep w0 [] w):Below w0.heap.size w0 w:=⟨h.os,h.tape,h.output,h.size,fun k hk=>h.block k hk (by simp)⟩
theorem St.below {w0 w:World} {H:List Ent} (h:St w0 [] H w):Below w0.heap.size w0 w:=h.keep.below
theorem St.init {H:List Ent} {w:World} (h:HP H w):St w (Sep.dom H) H w:=⟨h,fun b hb=>.inl hb,Keep.refl _ _⟩
theorem HP.nil (w:World):HP [] w:=⟨fun e h=>(by cases h),iO,fun b h=>(by cases h)⟩
theorem St.nil (w:World):St w [] [] w:=St.init (HP.nil w)
theorem Ent.at_congr {e:Ent} {w w':World} (h:∀b,e.b=some b->w'.heap[b]?=w.heap[b]?) (he:e.at w):e.at w':=by
 unfold Ent.at at *
 cases hb:e.b with
 |none=>rw[hb] at he; exact he
 |some b=>rw[hb] at he; simpa [h b hb] using he
theorem St.drawn {w0:World} {D:List Nat} {H:List Ent}:IN (St w0 D H):=fun w m h =>
 ⟨⟨fun e he=>Ent.at_congr (fun _ _=>rfl) (h.hp.holds e he),h.hp.nodup,h.hp.lt⟩,h.dom,⟨h.keep.os,h.keep.tape,h.keep.output,h.keep.size,h.keep.block⟩⟩
theorem St.drew {w0:World} {D:List Nat} {H:List Ent} {w:World} (h:St w0 D H w):St w0 D H w.drew:=St.drawn w _ h
theorem St.at {w0:World} {D:List Nat} {H:List Ent} {w:World} {e:Ent} (h:St w0 D H w) (i:Nat) (hi:H[i]?=some e):e.at w:=h.hp.holds e (hY hi)
theorem St.sublist {w0:World} {D:List Nat} {H H':List Ent} {w:World} (s:H'.Sublist H) (h:St w0 D H w):St w0 D H' w :=
 ⟨⟨fun e he=>h.hp.holds e (s.subset he),h.hp.nodup.sublist (s.filterMap _),fun b hb=>h.hp.lt b ((s.filterMap _).subset hb)⟩,fun b hb=>h.dom b ((s.filterMap _).subset hb),h.keep⟩
theorem St.perm {w0:World} {D:List Nat} {H H':List Ent} {w:World} (s:H.Perm H') (h:St w0 D H w):St w0 D H' w :=
 ⟨⟨fun e he=>h.hp.holds e (s.mem_iff.2 he),(s.filterMap _).nodup_iff.1 h.hp.nodup,fun b hb=>h.hp.lt b ((s.filterMap _).mem_iff.2 hb)⟩,fun b hb=>h.dom b ((s.filterMap _).mem_iff.2 hb),h.keep⟩
theorem St.drop {w0:World} {D:List Nat} {e:Ent} {H:List Ent} {w:World} (h:St w0 D (e::H) w):St w0 D H w:=h.sublist (iP _ _)
theorem St.cut {w0:World} {D:List Nat} {H T:List Ent} {w:World} (h:St w0 D (H++T) w):St w0 D H w:=h.sublist (List.sublist_append_left _ _)
theorem St.e8 {w0:World} {D:List Nat} {H:List Ent} {w:World} (h:St w0 D H w):St w0 D [] w:=h.sublist (iQ _)
theorem St.head {w0:World} {D:List Nat} {e e':Ent} {H:List Ent} {w:World} (h:St w0 D (e::H) w) (hb:e'.b=e.b) (hi:e.at w->e'.at w):St w0 D (e'::H) w:=by
 have hd:Sep.dom (e'::H)=Sep.dom (e::H):=by simp only[Sep.dom,List.filterMap_cons,hb]
 refine⟨⟨fun x hx=>?_,hd▸h.hp.nodup,hd▸h.hp.lt⟩,hd▸h.dom,h.keep⟩
 rcases fq.1 hx with rfl|hx
 · exact hi (h.hp.holds e (iG ..))
 · exact h.hp.holds x (iR _ hx)
theorem St.free {w0:World} {D:List Nat} {e e':Ent} {H:List Ent} {w:World} (h:St w0 D (e::H) w) (hb:e'.b=Option.none) (hi:e'.at w):St w0 D (e'::H) w:=by
 have h1:=h.drop
 have hd:Sep.dom (e'::H)=Sep.dom H:=by simp only[Sep.dom,List.filterMap_cons,hb]
 refine⟨⟨fun x hx=>?_,hd▸h1.hp.nodup,hd▸h1.hp.lt⟩,hd▸h1.dom,h1.keep⟩
 rcases fq.1 hx with rfl|hx
 · exact hi
 · exact h1.hp.holds x hx
theorem St.add {w0:World} {D:List Nat} {e':Ent} {H:List Ent} {w:World} (h1:St w0 D H w) (hb:e'.b=Option.none) (hi:e'.at w):St w0 D (e'::H) w:=by
 have hd:Sep.dom (e'::H)=Sep.dom H:=by simp only[Sep.dom,List.filterMap_cons,hb]
 refine⟨⟨fun x hx=>?_,hd▸h1.hp.nodup,hd▸h1.hp.lt⟩,hd▸h1.dom,h1.keep⟩
 rcases fq.1 hx with rfl|hx
 · exact hi
 · exact h1.hp.holds x hx
theorem St.alloc {w0:World} {D:List Nat} {H:List Ent} {w:World} {o:Obj} {φ:Option Obj->Prop} (h:St w0 D H w) (hφ:φ (some o)):St w0 D (⟨some w.heap.size,φ⟩::H) (w.alloc o):=by
 have hold:∀b,b<w.heap.size->(w.alloc o).heap[b]?=w.heap[b]?:=fun b hb=>Below.heap_alloc w o b hb
 have hnew:(w.alloc o).heap[w.heap.size]?=some o:=by show (w.heap.push o)[_]?=_; simp
 have hsz:(w.alloc o).heap.size=w.heap.size+1:=Array.size_push ..
 refine⟨⟨fun e he=>?_,?_,?_⟩,?_,⟨h.keep.os,h.keep.tape,h.keep.output,gF h.keep.size (by rw[hsz]; omega),fun b hb hD=>(hold b (iN hb h.keep.size)).trans (h.keep.block b hb hD)⟩⟩
 · rcases fq.1 he with rfl|he
   · show φ ((w.alloc o).heap[w.heap.size]?); rw[hnew]; exact hφ
   · exact Ent.at_congr (fun b hb=>hold b (h.hp.lt b (List.mem_filterMap.2 ⟨e,he,hb⟩))) (h.hp.holds e he)
 · show (w.heap.size::Sep.dom H).Nodup
   exact iS.2 ⟨fun hm=>absurd (h.hp.lt _ hm) (Nat.lt_irrefl _),h.hp.nodup⟩
 · intro b hb
   have hb':b=w.heap.size\/b∈Sep.dom H:=fq.1 hb
   show b<(w.heap.push o).size
   rw[Array.size_push]
   rcases hb' with rfl|hb'
   · omega
   · have:=h.hp.lt b hb'; omega
 · intro b hb
   have hb':b=w.heap.size\/b∈Sep.dom H:=fq.1 hb
   rcases hb' with rfl|hb'
   · exact .inr h.keep.size
   · exact h.dom b hb'
theorem St.write {w0:World} {D:List Nat} {H:List Ent} {w w':World} {b:Nat} {φ φ':Option Obj->Prop} (h:St w0 D (⟨some b,φ⟩::H) w) (hos:w'.os=w.os) (ht:w'.tape=w.tape) (ho:w'.output=w.output) (hs:w'.heap.size=w.heap.size)
 (hb:∀k,k≠b->w'.heap[k]?=w.heap[k]?) (hφ:φ' w'.heap[b]?):St w0 D (⟨some b,φ'⟩::H) w':=by
 have hnd:b∉Sep.dom H/\(Sep.dom H).Nodup:=iS.1 h.hp.nodup
 refine⟨⟨fun e he=>?_,h.hp.nodup,fun k hk=>hs▸h.hp.lt k hk⟩,h.dom,⟨hos.trans h.keep.os,ht.trans h.keep.tape,ho.trans h.keep.output,hs▸h.keep.size,fun k hk hD=>?_⟩⟩
 · rcases fq.1 he with rfl|he'
   · exact hφ
   · refine Ent.at_congr (fun k hk=>hb k ?_) (h.hp.holds e (iR _ he'))
     rintro rfl
     exact hnd.1 (List.mem_filterMap.2 ⟨e,he',hk⟩)
 · refine (hb k ?_).trans (h.keep.block k hk hD)
   rintro rfl
   rcases h.dom k (iG ..) with hd|hd
   · exact hD hd
   · omega
def Con (P:Program) (f:FuncId) (vs:List Value) (E:World->Prop) (H:List Ent) {β:Type} (v:β->Value) (p:β->Prop) (H':β->List Ent):Prop :=
 ∀w,E w->HP H w->Calls P f vs.toArray w (fun e w'=>∃b,e=.returned (v b)/\p b/\St w (dom H) (H' b) w')
theorem Con.frame {P:Program} {f:FuncId} {vs:List Value} {E:World->Prop} {H:List Ent} {β:Type} {v:β->Value} {p:β->Prop} {H':β->List Ent} (s:Con P f vs E H v p H') {w0:World} {D:List Nat} {F:List Ent} {w:World}
 (h:St w0 D (H++F) w) (hE:E w):Calls P f vs.toArray w (fun e w'=>∃b,e=.returned (v b)/\p b/\St w0 D (H' b++F) w'):=by
 refine (s w hE h.cut.hp).mono ?_
 rintro e w' ⟨b,he,hp,h'⟩
 refine⟨b,he,hp,?_⟩
 have hdom:∀A B:List Ent,Sep.dom (A++B)=Sep.dom A++Sep.dom B:=fun A B=>List.filterMap_append
 have hnd:=h.hp.nodup
 rw[hdom,iT] at hnd
 obtain⟨n1,n2,n3⟩:=hnd
 have hF:∀k∈Sep.dom F,k<w.heap.size/\k∉Sep.dom H:=fun k hk=>⟨h.hp.lt k (by rw[hdom]; exact iU _ hk),fun hk'=>n3 _ hk' _ hk rfl⟩
 refine⟨⟨fun x hx=>?_,?_,fun k hk=>?_⟩,fun k hk=>?_,h.keep.trans h'.keep (fun k hk hlt=>?_)⟩
 · rcases ib.1 hx with hx|hx
   · exact h'.hp.holds x hx
   · refine Ent.at_congr (fun k hk=>?_) (h.hp.holds x (iU _ hx))
     have:=hF k (List.mem_filterMap.2 ⟨x,hx,hk⟩)
     exact h'.keep.block k this.1 this.2
 · rw[hdom,iT]
   refine⟨h'.hp.nodup,n2,fun k hk j hj e=>?_⟩
   subst e
   have:=hF k hj
   rcases h'.dom k hk with hd|hd
   · exact this.2 hd
   · omega
 · rw[hdom] at hk
   rcases ib.1 hk with hk|hk
   · exact h'.hp.lt k hk
   · exact iN (hF k hk).1 h'.keep.size
 · rw[hdom] at hk
   rcases ib.1 hk with hk|hk
   · rcases h'.dom k hk with hd|hd
     · exact h.dom k (by rw[hdom]; exact gi _ hd)
     · exact .inr (gF h.keep.size hd)
   · exact h.dom k (by rw[hdom]; exact iU _ hk)
 · rcases h.dom k (by rw[hdom]; exact gi _ hk) with hd|hd
   · exact hd
   · omega
def Ad (b:Nat) (t:TypeId) (cs:List Value):Ent:=⟨some b,fun o=>o=some (.cells cs.toArray t (0,0))⟩
theorem DI {b:Nat} {t:TypeId} {cs:List Value} {w:World} (h:(Ad b t cs).at w) {off:Nat} {v:Value} (hv:cs[off]?=some v):w.cell? ⟨b,off,none⟩=some v:=by
 have h':w.heap[b]?=some (.cells cs.toArray t (0,0)):=h
 unfold World.cell?
 simp only[h']
 simpa using hv
theorem FY {b:Nat} {t:TypeId} {cs:List Value} {w:World} (h:(Ad b t cs).at w) (off:Nat):w.frozen? ⟨b,off,none⟩=false:=by
 have h':w.heap[b]?=some (.cells cs.toArray t (0,0)):=h
 unfold World.frozen?
 simp only[h']
 simp
structure Enc (α:Type) where
 sz:Nat
 f:α->List Value
 len:∀a,(f a).length=sz
 one:∀a u,u∈f a->u.oneCell'=true
 pos:0<sz
def AG (k:IntKind):Enc Int:=⟨1,fun z=>[.int k z],fun _=>rfl,fun a u h=>by simp at h; subst h; rfl,by decide⟩
def Fb:Enc Bool:=⟨1,fun z=>[.bool z],fun _=>rfl,fun a u h=>by simp at h; subst h; rfl,by decide⟩
section flat
variable {α:Type} (E:Enc α)
def Enc.flat (l:List α):List Value:=l.flatMap E.f
theorem Enc.flat_nil:E.flat []=[]:=rfl
theorem Enc.fo (a:α) (l:List α):E.flat (a::l)=E.f a++E.flat l:=rfl
theorem Enc.fm (l m:List α):E.flat (l++m)=E.flat l++E.flat m:=List.flatMap_append
theorem Enc.fa:∀l:List α,(E.flat l).length=l.length*E.sz
 |[]=>by simp[Enc.flat_nil]
 |a::l=>by rw[E.fo,fL,E.len,Enc.fa l,fv,fW]; omega
theorem Enc.flat_one (l:List α) (u:Value) (h:u∈E.flat l):u.oneCell'=true:=by
 obtain⟨a,_,hu⟩:=List.mem_flatMap.1 h
 exact E.one a u hu
theorem Enc.flat_get:∀(l:List α) (j k:Nat) (a:α) (u:Value),l[j]?=some a->(E.f a)[k]?=some u->(E.flat l)[j*E.sz+k]?=some u
 |[],j,k,a,u,h,hk=>by simp at h
 |c::l,0,k,a,u,h,hk=>by
  simp at h; subst h
  rw[E.fo,Nat.zero_mul,gE,fM (by have:=(gl.1 hk).1; exact this)]
  exact hk
 |c::l,j+1,k,a,u,h,hk=>by
  have h':l[j]?=some a:=by simpa using h
  rw[E.fo,fP (by rw[E.len,fW]; omega),E.len]
  rw[show (j+1)*E.sz+k-E.sz=j*E.sz+k from by rw[fW]; omega]
  exact Enc.flat_get l j k a u h' hk
theorem Enc.flat_take:∀(l:List α) (j:Nat),(E.flat l).take (j*E.sz)=E.flat (l.take j)
 |[],j=>by simp[Enc.flat_nil]
 |c::l,0=>by simp[Enc.flat_nil]
 |c::l,j+1=>by
  rw[E.fo,fC,E.fo,fW,gu,g8,<-E.len c,iV,E.len,Enc.flat_take l j]
theorem Enc.flat_drop:∀(l:List α) (j:Nat),(E.flat l).drop (j*E.sz)=E.flat (l.drop j)
 |[],j=>by simp[Enc.flat_nil]
 |c::l,0=>by simp
 |c::l,j+1=>by
  rw[E.fo,gU,fW,gu,g8,<-E.len c,iW,E.len,Enc.flat_drop l j]
theorem set_mid {β:Type} (p q:List β) (x:β) (k:Nat) (h:k<q.length):(p++q).set (p.length+k) x=p++q.set k x:=by
 rw[iq _ _ (by omega)]
 congr 2
 omega
theorem Enc.flat_set:∀(l:List α) (j k:Nat) (a:α) (c:α) (u:Value),l[j]?=some a->k<E.sz->(E.f a).set k u=E.f c->(E.flat l).set (j*E.sz+k) u=E.flat (l.set j c)
 |[],j,k,a,c,u,h,hk,hs=>by simp at h
 |d::l,0,k,a,c,u,h,hk,hs=>by
  simp at h; subst h
  rw[E.fo,iu,E.fo,Nat.zero_mul,gE,iX _ _ (by rw[E.len]; exact hk),hs]
 |d::l,j+1,k,a,c,u,h,hk,hs=>by
  have h':l[j]?=some a:=by simpa using h
  rw[E.fo,iY,E.fo,iq _ _ (by rw[E.len,fW]; omega),E.len,
   show (j+1)*E.sz+k-E.sz=j*E.sz+k from by rw[fW]; omega,Enc.flat_set l j k a c u h' hk hs]
end flat
def blk:Value->Nat
 |.slice (some a) _ _=>a.block
 |_=>0
def EW:Value->Nat
 |.slice (some a) _ _=>a.off
 |_=>0
def vlen:Value->Nat
 |.slice _ n _=>n
 |_=>0
def vcap:Value->Nat
 |.slice _ _ c=>c
 |_=>0
def RdV {α:Type} (w:World) (v:Value) (E:Enc α) (l:List α):Prop :=
 ∃a c,v=.slice a l.length c/\l.length<=c/\(l=[]\/∃b off,a=some ⟨b,off,none⟩/\∀k u,(E.flat l)[k]?=some u->w.cell? ⟨b,off+k,none⟩=some u)
theorem RdV.congr {α:Type} {w w':World} {v:Value} {E:Enc α} {l:List α} (h:RdV w v E l) (hk:l≠[]->w'.heap[blk v]?=w.heap[blk v]?):RdV w' v E l:=by
 obtain⟨a,c,rfl,hc,h⟩:=h
 refine⟨a,c,rfl,hc,?_⟩
 rcases h with rfl|⟨b,off,rfl,h⟩
 · exact .inl rfl
 · by_cases hl:l=[]
   · exact .inl hl
   · exact .inr ⟨b,off,rfl,fun k u hu=>by
      rw[<-h k u hu]
      exact World.cell?_of_block (w:=w) (hk hl)⟩
theorem RdV.lt {α:Type} {w:World} {v:Value} {E:Enc α} {l:List α} (h:RdV w v E l) (hl:l≠[]):blk v<w.heap.size:=by
 obtain⟨a,c,rfl,hc,h⟩:=h
 rcases h with h|⟨b,off,rfl,h⟩
 · exact absurd h hl
 · cases l with
   |nil=>exact absurd rfl hl
   |cons x l =>
    have hp:=E.pos
    have:0<(E.flat (x::l)).length:=by rw[E.fa]; simp; exact hp
    have h0:=h 0 _ (fD this)
    unfold World.cell? at h0
    show b<_
    rcases fG b w.heap.size with hb|hb
    · exact hb
    · simp[gG hb] at h0
theorem RdV.keep {α:Type} {w0 w:World} {D:List Nat} {H:List Ent} {v:Value} {E:Enc α} {l:List α} (h:RdV w0 v E l) (s:St w0 D H w) (hD:blk v∉D):RdV w v E l :=
 h.congr (fun hl=>s.keep.block _ (h.lt hl) hD)
theorem RdV.vlen {α:Type} {w:World} {v:Value} {E:Enc α} {l:List α} (h:RdV w v E l):Sep.vlen v=l.length:=by
 obtain⟨a,c,rfl,hc,h⟩:=h; rfl
theorem RdV.cap {α:Type} {w:World} {v:Value} {E:Enc α} {l:List α} (h:RdV w v E l):l.length<=Sep.vcap v:=by
 obtain⟨a,c,rfl,hc,h⟩:=h; exact hc
def C4:Value->Option Nat
 |.slice (some a) _ c=>if c=0 then none else some a.block
 |_=>none
def Row {α:Type} (v:Value) (t:TypeId) (E:Enc α) (l:List α) (o:Option Obj):Prop :=
 (∃a,v=.slice a 0 0/\l=[]) \/
 ∃b cap pre post,v=.slice (some ⟨b,pre.length,none⟩) l.length cap/\0<cap/\o=some (.cells (pre++E.flat l++post).toArray t (0,0))/\l.length<=cap/\post.length=(cap-l.length)*E.sz
def Az {α:Type} (v:Value) (t:TypeId) (E:Enc α) (l:List α):Ent:=⟨C4 v,Row v t E l⟩
theorem BO {α:Type} {v:Value} {t:TypeId} {E:Enc α} {l:List α} {w:World} (h:(Az v t E l).at w):RdV w v E l:=by
 rcases h with⟨a,rfl,rfl⟩|⟨b,cap,pre,post,rfl,hc,ho,hl,hp⟩
 · exact⟨a,0,rfl,ga _,.inl rfl⟩
 · refine⟨_,cap,rfl,hl,.inr ⟨b,pre.length,rfl,fun k u hu=>?_⟩⟩
   have ho':w.heap[b]?=some (.cells (pre++E.flat l++post).toArray t (0,0)):=by
    have:C4 (.slice (some ⟨b,pre.length,none⟩) l.length cap)=some b:=by simp[C4]; omega
    simpa [Az,this] using ho
   unfold World.cell?
   simp only[ho']
   have hk:=(gl.1 hu).1
   simp only[Option.isSome_none,iK,iL]
   rw[g7,gK,fP (by omega),fM (by omega)]
   rw[show pre.length+k-pre.length=k from by omega]
   exact hu
theorem St.rd {w0:World} {D:List Nat} {H:List Ent} {w:World} {α:Type} {v:Value} {t:TypeId} {E:Enc α} {l:List α} (h:St w0 D H w) (i:Nat) (hi:H[i]?=some (Az v t E l)):RdV w v E l:=BO (h.at i hi)
theorem EF {α:Type} {b:Nat} {t:TypeId} {cs:List Value} {w:World} (h:(Ad b t cs).at w) (E:Enc α) (l:List α) (off cap:Nat) (pre post:List Value) (hcs:cs=pre++E.flat l++post) (hoff:off=pre.length) (hc:l.length<=cap):RdV w (.slice (some ⟨b,off,none⟩) l.length cap) E l:=by
 subst hcs; subst hoff
 refine⟨_,cap,rfl,hc,.inr ⟨b,pre.length,rfl,fun k u hu=>DI h ?_⟩⟩
 have hk:=(gl.1 hu).1
 rw[gK,fP (by omega),fM (by omega),show pre.length+k-pre.length=k from by omega]
 exact hu
theorem AW {α:Type} {b:Nat} {t:TypeId} {cs:List Value} {w:World} {n:Nat} (h:(Ad b t cs).at w) (E:Enc α) (l:List α) (hcs:cs=E.flat l) (hn:l.length=n):RdV w (.slice (some ⟨b,0,none⟩) n n) E l:=by
 subst hn
 exact EF h E l 0 l.length [] [] (by simpa using hcs) rfl (ga _)
end Go.Sep
namespace Go.Sep
open Go.RowKit
section
variable {P:Program} {n:Nat} {L:Env} {X:World->Prop} {o:Oper} {Q:Exit->Act->World->Prop} {K:Act->World->Prop}
theorem EOp.val {β:Type} (v:β->Value) (p:β->Prop) (X':β->World->Prop) {d:Nat} (hd:o.dst=some d) (hn:d.blt n=true)
 (hr:∀a w,Know n L a->X w->∃b w',(execOp a.eval o).run P w=.ok (.value (v b)) w'/\p b/\X' b w') (h:∀b,p b->Pre n ((d,v b)::L) (X' b) K):EOp P n L X o Q K:=fun a w k x=>by
 obtain⟨b,w',hrun,hp,hx⟩:=hr a w k x
 show o.upon P a K Q ((execOp a.eval o).run P w)
 rw[hrun]
 show K (a.put o.dst (v b)) w'
 rw[hd]
 exact h b hp _ _ (k.put _ hn) hx
theorem EOp.val0 {β:Type} (v:β->Value) (p:β->Prop) (X':β->World->Prop) (hd:o.dst=none)
 (hr:∀a w,Know n L a->X w->∃b w',(execOp a.eval o).run P w=.ok (.value (v b)) w'/\p b/\X' b w') (h:∀b,p b->Pre n L (X' b) K):EOp P n L X o Q K:=fun a w k x=>by
 obtain⟨b,w',hrun,hp,hx⟩:=hr a w k x
 show o.upon P a K Q ((execOp a.eval o).run P w)
 rw[hrun]
 show K (a.put o.dst (v b)) w'
 rw[hd]
 exact h b hp _ _ k hx
theorem EOp.skip (X':World->Prop) (hd:o.dst=none) (hr:∀a w,Know n L a->X w->∃w',(execOp a.eval o).run P w=.ok .skip w'/\X' w') (h:Pre n L X' K):EOp P n L X o Q K:=fun a w k x=>by
 obtain⟨w',hrun,hx⟩:=hr a w k x
 show o.upon P a K Q ((execOp a.eval o).run P w)
 rw[hrun]
 show K (a.put o.dst undef) w'
 rw[hd]
 exact h _ _ k hx
def evs (L:Env):List Operand->Option (List Value)
 |[]=>some []
 |x::xs=>match ev L x,evs L xs with
  |some v,some vs=>some (v::vs)
  |_,_=>none
theorem Know.evals {a:Act} (k:Know n L a):∀{xs:List Operand} {vs:List Value},evs L xs=some vs->xs.map a.eval=vs
 |[],vs,h=>by cases h; rfl
 |x::xs,vs,h=>by
  simp only[evs] at h
  cases h1:ev L x with
  |none=>rw[h1] at h; cases h
  |some v =>
   cases h2:evs L xs with
   |none=>rw[h1,h2] at h; cases h
   |some us=>rw[h1,h2] at h; cases h; rw[gB,k.eval h1,k.evals h2]
def evParts (L:Env):List (Nat×Operand)->Option (List (Nat×Value))
 |[]=>some []
 |(i,x)::xs=>match ev L x,evParts L xs with
  |some v,some vs=>some ((i,v)::vs)
  |_,_=>none
theorem Know.evParts {a:Act} (k:Know n L a):∀{xs:List (Nat×Operand)} {vs:List (Nat×Value)},Sep.evParts L xs=some vs->xs.map (fun (i,x)=>(i,a.eval x))=vs
 |[],vs,h=>by cases h; rfl
 |(i,x)::xs,vs,h=>by
  simp only[Sep.evParts] at h
  cases h1:ev L x with
  |none=>rw[h1] at h; cases h
  |some v =>
   cases h2:Sep.evParts L xs with
   |none=>rw[h1,h2] at h; cases h
   |some us=>rw[h1,h2] at h; cases h; rw[gB,k.evParts h2]; simp only[k.eval h1]
theorem Dw {β:Type} {v:β->Value} {p:β->Prop} {X':β->World->Prop} {f:FuncId} {xs:List Operand} {ts:Array TypeId} {d:Nat} {vs:List Value} (ho:o.op=.call ⟨.value (.func f),xs.toArray,ts⟩) (hd:o.dst=some d) (hn:d.blt n=true)
 (hc:∀us w,(callFunc f us).run P w=.ok (.enter f us) w) (hv:evs L xs=some vs)
 (hs:∀w,X w->Calls P f vs.toArray w (fun e w'=>∃b,e=.returned (v b)/\p b/\X' b w')) (h:∀b,p b->Pre n ((d,v b)::L) (X' b) K):EOp P n L X o Q K:=fun a w k x=>by
 have hargs:(xs.toArray.map a.eval)=vs.toArray:=by rw[gA,k.evals hv]
 have hrun:(execOp a.eval o).run P w=.ok (.enter f vs.toArray) w:=by
  have h0:∀us:Array Value,(callFunc f (#[]++us++#[])).run P w=.ok (.enter f us) w:=fun us=>by simpa using hc us w
  simp only[execOp,ho,resolve,Act.eval,Deferred.ofValue,gx,gy,gz,invoke,hargs,h0]
 show o.upon P a K Q ((execOp a.eval o).run P w)
 rw[hrun]
 show Calls P f vs.toArray w _
 refine (hs w x).mono ?_
 rintro e w' ⟨b,rfl,hp,hx⟩
 show K (a.put o.dst (v b)) w'
 rw[hd]
 exact h b hp _ _ (k.put _ hn) hx
theorem Fx {β:Type} {v:β->Value} {p:β->Prop} {X':β->World->Prop} {g:Operand} {f:FuncId} {xs:List Operand} {ts:Array TypeId} {d:Nat} {vs us:List Value} (ho:o.op=.call ⟨.value g,xs.toArray,ts⟩) (hd:o.dst=some d) (hn:d.blt n=true)
 (hg:ev L g=some (.func (.func f) #[] us.toArray)) (hc:∀us w,(callFunc f us).run P w=.ok (.enter f us) w) (hv:evs L xs=some vs)
 (hs:∀w,X w->Calls P f (vs++us).toArray w (fun e w'=>∃b,e=.returned (v b)/\p b/\X' b w')) (h:∀b,p b->Pre n ((d,v b)::L) (X' b) K):EOp P n L X o Q K:=fun a w k x=>by
 have hargs:(xs.toArray.map a.eval)=vs.toArray:=by rw[gA,k.evals hv]
 have hrun:(execOp a.eval o).run P w=.ok (.enter f (vs++us).toArray) w:=by
  have h0:(callFunc f (#[]++vs.toArray++us.toArray)).run P w=.ok (.enter f (vs++us).toArray) w:=by simpa using hc (vs++us).toArray w
  simp only[execOp,ho,resolve,k.eval hg,Deferred.ofValue,gx,gy,gz,invoke,hargs,h0]
 show o.upon P a K Q ((execOp a.eval o).run P w)
 rw[hrun]
 show Calls P f (vs++us).toArray w _
 refine (hs w x).mono ?_
 rintro e w' ⟨b,rfl,hp,hx⟩
 show K (a.put o.dst (v b)) w'
 rw[hd]
 exact h b hp _ _ (k.put _ hn) hx
variable {w0:World} {D:List Nat} {H:List Ent}
theorem DE (e:TypeId) (cs:Array Value) (w:World):(newRow e cs).run P w=.ok ⟨w.heap.size,0,none⟩ (w.alloc (.cells cs e)):=by
 simp[newRow]
theorem Au {t:TypeId} {z:Value} {d:Nat} (ho:o.op=.alloc t) (hd:o.dst=some d) (hn:d.blt n=true) (hz:∀w,(zeroValue t).run P w=.ok z w)
 (h:∀b,Pre n ((d,.pointer (some ⟨b,0,none⟩))::L) (St w0 D (Ad b t z.cells.toList::H)) K):EOp P n L (St w0 D H) o Q K :=
 EOp.val (β:=Nat) (fun b=>.pointer (some ⟨b,0,none⟩)) (fun _=>True) (fun b=>St w0 D (Ad b t z.cells.toList::H)) hd hn (fun a w k x =>
  ⟨w.heap.size,_,by simp only[execOp,ho,Instr.alloc,gx,hz,gz,newVar,DE,gy],trivial,x.alloc rfl⟩) (fun b _=>h b)
theorem AQ {t:TypeId} {y:Operand} {v:Value} {d:Nat} (ho:o.op=.box t y) (hd:o.dst=some d) (hn:d.blt n=true) (hy:ev L y=some v)
 (h:∀b,Pre n ((d,.pointer (some ⟨b,0,none⟩))::L) (St w0 D (Ad b t v.cells.toList::H)) K):EOp P n L (St w0 D H) o Q K :=
 EOp.val (β:=Nat) (fun b=>.pointer (some ⟨b,0,none⟩)) (fun _=>True) (fun b=>St w0 D (Ad b t v.cells.toList::H)) hd hn (fun a w k x =>
  ⟨w.heap.size,_,by simp only[execOp,ho,Instr.box,k.eval hy,gx,gz,newVar,DE,gy],trivial,x.alloc rfl⟩) (fun b _=>h b)
theorem L4 {t e:TypeId} {m sz:Nat} {ps:List (Nat×Operand)} {vs:List (Nat×Value)} {zs cs:Array Value} {d:Nat} (ho:o.op=.buildSlice t m ps.toArray) (hd:o.dst=some d) (hn:d.blt n=true) (ht:P.underlying t=some (.slice e))
 (hs:∀w,(sizeOf e).run P w=.ok sz w) (hsm:(m*sz).ble 16777216=true) (hz:∀w,(if m*sz=0 then pure #[] else do pure (<-zeroValue e).cells:Sem (Array Value)).run P w=.ok zs w) (hv:evParts L ps=some vs)
 (hf:Instr.fill (fun i=>some (i*sz,sz)) ((Array.range (m*sz)).map (zs[·%zs.size]!)) vs=some cs)
 (h:∀b,Pre n ((d,.slice (some ⟨b,0,none⟩) m m)::L) (St w0 D (Ad b e cs.toList::H)) K):EOp P n L (St w0 D H) o Q K :=
 EOp.val (β:=Nat) (fun b=>.slice (some ⟨b,0,none⟩) m m) (fun _=>True) (fun b=>St w0 D (Ad b e cs.toList::H)) hd hn (fun a w k x =>
  ⟨w.heap.size,w.alloc (.cells cs e),by
   have hle:¬(m*sz>2^24):=by have:=iy hsm; omega
   have hp:(ps.toArray.map fun (i,x)=>(i,a.eval x))=vs.toArray:=by rw[gA,k.evParts hv]
   have hz':=hz w
   have hb:(Instr.buildSlice t m vs.toArray).run P w=.ok (.slice (some ⟨w.heap.size,0,none⟩) m m) (w.alloc (.cells cs e)):=by
    unfold Instr.buildSlice
    simp only[gx,AT ht,hs,gz,fR hle]
    by_cases h0:m*sz=0
    · rw[fO h0] at hz' ⊢
      simp only[gy,Result.ok.injEq,and_true] at hz'
      subst hz'
      simp only[gx,gy,gz]
      rw[hf]
      simp only[gx,DE,gz,gy]
    · rw[fR h0] at hz' ⊢
      simp only[gx,gy,gz] at hz' ⊢
      cases hzz:(zeroValue e).run P w with
      |halt a w1=>rw[hzz] at hz'; cases hz'
      |ok zv w1 =>
       rw[hzz] at hz'
       simp only[gz,Result.ok.injEq] at hz' ⊢
       obtain⟨rfl,rfl⟩:=hz'
       rw[hf]
       simp only[gx,DE,gz,gy]
   simp only[execOp,ho,hp,gx,hb,gz,gy],trivial,x.alloc (by simp)⟩) (fun b _=>h b)
def L5:Nat->List Operand->List (Nat×Operand)
 |_,[]=>[]
 |i,x::xs=>(i,x)::L5 (i+1) xs
def Hl:Nat->List Value->List (Nat×Value)
 |_,[]=>[]
 |i,x::xs=>(i,x)::Hl (i+1) xs
theorem IP:∀(xs:List Operand) (i:Nat) (vs:List Value),evs L xs=some vs->evParts L (L5 i xs)=some (Hl i vs)
 |[],i,vs,h=>by cases h; rfl
 |x::xs,i,vs,h=>by
  simp only[evs] at h
  cases h1:ev L x with
  |none=>rw[h1] at h; cases h
  |some v =>
   cases h2:evs L xs with
   |none=>rw[h1,h2] at h; cases h
   |some us=>rw[h1,h2] at h; cases h; simp only[L5,evParts,Hl,h1,IP xs (i+1) us h2]
def cellsOf (vs:List Value):List Value:=vs.flatMap (fun v=>v.cells.toList)
theorem Nb (off:Nat):∀(vs:List Value) (k:Nat) (arr:Array Value),off+k+vs.length<=arr.size ->
 ((vs.zipIdx k).foldl (fun cs (x:Value×Nat)=>cs.setIfInBounds (off+x.2) x.1) arr).toList=arr.toList.take (off+k)++vs++arr.toList.drop (off+k+vs.length)
 |[],k,arr,h=>by simp
 |v::vs,k,arr,h=>by
  simp only[fv] at h
  rw[List.zipIdx_cons,List.foldl_cons,Nb off vs (k+1) _ (by simp; omega)]
  have hlt:off+k<arr.toList.length:=by rw[ij]; omega
  rw[Array.toList_setIfInBounds,List.drop_set_of_lt (by omega),show off+(k+1)=off+k+1 from rfl,ir (by simp; omega),iZ,List.set_eq_of_length_le (by simp; omega)]
  simp only[List.getElem_set_self,gK,fu,gO,fv]
  rw[show off+k+1+vs.length=off+k+(vs.length+1) from by omega]
theorem Nc (sz:Nat):∀(vs:List Value) (i:Nat) (arr:Array Value),(vs.all (fun v=>v.cells.size == sz))=true->arr.size=(i+vs.length)*sz ->
 ∃cs,Instr.fill (fun i=>some (i*sz,sz)) arr (Hl i vs)=some cs/\cs.toList=arr.toList.take (i*sz)++cellsOf vs
 |[],i,arr,h,ha=>⟨arr,rfl,by simp[cellsOf]; rw[fZ (by simp[ha])]⟩
 |v::vs,i,arr,h,ha=>by
  simp only[List.all_cons,gQ,iC] at h
  simp only[fv] at ha
  have hmul:(i+(vs.length+1))*sz=i*sz+sz+vs.length*sz:=by rw[fW,fW,gu]; omega
  have hl:v.cells.toList.length=sz:=by rw[ij,h.1]
  have hf:=Nb (i*sz) v.cells.toList 0 arr (by rw[hl]; omega)
  have hz:v.cells.zipIdx.foldl (fun cs (x:Value×Nat)=>cs.setIfInBounds (i*sz+x.2) x.1) arr=(v.cells.toList.zipIdx 0).foldl (fun cs (x:Value×Nat)=>cs.setIfInBounds (i*sz+x.2) x.1) arr:=by
   rw[<-Array.foldl_toList,Array.toList_zipIdx]
  obtain⟨cs,h1,h2⟩:=Nc sz vs (i+1) (v.cells.zipIdx.foldl (fun cs (x:Value×Nat)=>cs.setIfInBounds (i*sz+x.2) x.1) arr) h.2 (by
   rw[hz,<-ij,hf]; simp only[fL,fJ,fK,ij,hl]; rw[show i+1+vs.length=i+(vs.length+1) from by omega,hmul]; omega)
  refine⟨cs,?_,?_⟩
  · simp only[Hl,Instr.fill]
    rw[fR (by simp[h.1]; omega)]
    exact h1
  · rw[h2,hz,hf,hl,iM]
    have e1:(i+1)*sz=(arr.toList.take (i*sz)++v.cells.toList).length:=by
     rw[fL,fJ,hl,ij,fW,gu]; omega
    rw[e1]
    simp only[iM]
    rw[ja]
    simp[cellsOf]
theorem Ax {t e:TypeId} {m sz:Nat} {vs:List Value} {z:Value} {d:Nat} (xs:List Operand) (ho:o.op=.buildSlice t m (L5 0 xs).toArray) (hd:o.dst=some d) (hn:d.blt n=true) (hv:evs L xs=some vs) (hm:vs.length=m) (ht:P.underlying t=some (.slice e))
 (hs:∀w,(sizeOf e).run P w=.ok sz w) (hsm:(m*sz).ble 16777216=true) (hz:∀w,(zeroValue e).run P w=.ok z w) (hc:(vs.all (fun v=>v.cells.size == sz))=true)
 (h:∀b,Pre n ((d,.slice (some ⟨b,0,none⟩) m m)::L) (St w0 D (Ad b e (cellsOf vs)::H)) K):EOp P n L (St w0 D H) o Q K:=by
 obtain⟨cs,h1,h2⟩:=Nc sz vs 0 ((Array.range (m*sz)).map ((if m*sz=0 then #[] else z.cells)[·%(if m*sz=0 then #[] else z.cells).size]!)) hc (by simp[hm])
 rw[Nat.zero_mul,List.take_zero,gO] at h2
 refine L4 (sz:=sz) (zs:=if m*sz=0 then #[] else z.cells) ho hd hn ht hs hsm (fun w=>?_) (IP xs 0 vs hv) h1 (fun b=>by rw[h2]; exact h b)
 split
 · rfl
 · simp[hz]
theorem BN {α:Type} (E:Enc α) (a0:α) (m:Nat) {t e:TypeId} {i:TypeInfo} {x y:Operand} {z:Value} {d:Nat} {j k:IntKind} {p q:Int} (ho:o.op=.makeSlice t x y) (hd:o.dst=some d) (hn:d.blt n=true) (ht:P.underlying t=some (.slice e))
 (hi:P.info? e=some i) (hs:i.size=E.sz) (hz:i.zero=some z) (hzc:z.cells.toList=E.f a0) (hx:ev L x=some (.int j p)) (hy:ev L y=some (.int k q)) (hp:p=(m:Int)) (hq:q=(m:Int)) (hm:m*i.bytes<=281474976710656) (hm2:m<=9223372036854775807)
 (h:∀v,Pre n ((d,v)::L) (St w0 D (Az v e E (List.replicate m a0)::H)) K):EOp P n L (St w0 D H) o Q K :=
 EOp.val (β:=Value) (fun v=>v) (fun _=>True) (fun v=>St w0 D (Az v e E (List.replicate m a0)::H)) hd hn (fun a w kn x=>by
  subst hp; subst hq
  have hflat:∀m:Nat,((Array.range (m*E.sz)).map (z.cells[·%z.cells.size]!)).toList=E.flat (List.replicate m a0):=fun m=>by
   have hzl:z.cells.size=E.sz:=by rw[<-ij,hzc,E.len]
   refine gv (fun c=>?_)
   by_cases hc:c<m*E.sz
   · have hmod:c%E.sz<E.sz:=gg _ E.pos
     have hdiv:c/E.sz<m:=(Nat.div_lt_iff_lt_mul E.pos).2 hc
     have e1:c=c/E.sz*E.sz+c%E.sz:=by rw[gf]; exact (Nat.div_add_mod c E.sz).symm
     have hg:=E.flat_get (List.replicate m a0) (c/E.sz) (c%E.sz) a0 _ (by simp[hdiv]) (fD (by rw[E.len]; exact hmod))
     rw[<-e1] at hg
     rw[hg]
     have h2:z.cells[c%z.cells.size]! = (E.f a0)[c%E.sz]'(by rw[E.len]; exact hmod):=by
      rw[getElem!_pos z.cells (c%z.cells.size) (by rw[hzl]; exact hmod)]
      have:z.cells.toList[c%z.cells.size]'(by rw[ij,hzl]; exact hmod)=(E.f a0)[c%E.sz]'(by rw[E.len]; exact hmod):=by simp only[hzc,hzl]
      simpa using this
     rw[<-h2]
     simp[hc]
   · rw[fI (by simp; omega),fI (by rw[E.fa]; simp; omega)]
  have hw1:IntKind.i64.wrap (m:Int)=(m:Int):=Cj (by omega)
  have hzn:∀w,(if m*E.sz=0 then pure #[] else do pure (<-zeroValue e).cells:Sem (Array Value)).run P w=.ok (if m*E.sz=0 then #[] else z.cells) w:=fun w=>by
   split<;>simp[zeroValue,typeInfo,hi,hz]
  have hrun:(Instr.makeSlice t (.int j (m:Int)) (.int k (m:Int))).run P w=.ok (.slice (some ⟨w.heap.size,0,none⟩) m m) (w.alloc (.cells ((Array.range (m*E.sz)).map (z.cells[·%z.cells.size]!)) e)):=by
   have h1:¬((m:Int)<0):=by omega
   have h2:¬((i.bytes:Int)*(m:Int)>2^48):=by
    have h4:i.bytes*m<=281474976710656:=by rw[gf]; exact hm
    have h5:((i.bytes*m:Nat):Int)<=281474976710656:=by omega
    rw[jb] at h5
    omega
   have h3:¬((m:Int)>(m:Int)):=by omega
   have hzv:(zeroValue e).run P w=.ok z w:=by simp[zeroValue,typeInfo,hi,hz]
   unfold Instr.makeSlice
   simp only[gx,AT ht,gz,asInt,asIntOf,gy,Sem.run_map,typeInfo,run_program,hi,hw1]
   simp only[ia,h1,h2,h3,decide_false,Bool.or_self,iK,iL,gx,run_askRoom,gz,sizeOf,typeInfo,run_program,hi,gy,Sem.run_map,hs,ie]
   by_cases h0:m*E.sz=0
   · have hr0:∀f:Nat->Value,(Array.range 0).map f=#[]:=fun f=>by simp
     simp[h0,DE,hr0]
   · simp[h0,hzv,DE]
  refine⟨.slice (some ⟨w.heap.size,0,none⟩) m m,w.alloc (.cells ((Array.range (m*E.sz)).map (z.cells[·%z.cells.size]!)) e),by simp only[execOp,ho,kn.eval hx,kn.eval hy,gx,hrun,gz,gy],trivial,?_⟩
  by_cases h0:m=0
  · subst h0
    exact (x.alloc (φ:=fun _=>True) trivial).free rfl (.inl ⟨_,rfl,rfl⟩)
  · have hb:C4 (.slice (some ⟨w.heap.size,0,none⟩) m m)=some w.heap.size:=by simp[C4,h0]
    have h1:=x.alloc (φ:=Row (.slice (some ⟨w.heap.size,0,none⟩) m m) e E (List.replicate m a0)) (o:=.cells ((Array.range (m*E.sz)).map (z.cells[·%z.cells.size]!)) e) (.inr ⟨w.heap.size,m,[],[],by simp,by omega,by
     rw[<-hflat m,gO,jc,Array.toArray_toList],by simp,by simp⟩)
    rw[<-hb] at h1
    exact h1) (fun v _=>h v)
theorem AN {t:TypeId} {ps:List (Nat×Operand)} {pv:List (Nat×Value)} (vs:List Value) (ho:o.op=.build t ps.toArray) (hv:evParts L ps=some pv) (hr:∀w,(Instr.build t pv.toArray).run P w=.ok (.agg vs.toArray) w):QOp P n L X o (.agg vs.toArray) :=
 QOp.mk (fun a=>Instr.build t (ps.toArray.map fun (i,x)=>(i,a.eval x))) (fun a=>by simp[execOp,ho]) (fun a w hk _=>by
  have hp:(ps.toArray.map fun (i,x)=>(i,a.eval x))=pv.toArray:=by rw[gA,hk.evParts hv]
  rw[hp]; exact hr w)
theorem KL {b off:Nat} {t:TypeId} {cs:List Value} {w:World} (h:w.heap[b]?=some (.cells cs.toArray t (0,0))) (v:Value):(w.setCell ⟨b,off,none⟩ v).heap[b]?=some (.cells (cs.set off v).toArray t (0,0)):=by
 simp only[World.setCell,Array.getElem?_modify,gR]
 rw[h]
 simp
theorem GS {b off:Nat} {t:TypeId} {cs:List Value} {w:World} {v:Value} (h:St w0 D (Ad b t cs::H) w) (hlt:off<cs.length) (hv:v.oneCell'=true) :
 ∃w',(store ⟨b,off,none⟩ v).run P w=.ok () w'/\St w0 D (Ad b t (cs.set off v)::H) w':=by
 have hat:(Ad b t cs).at w:=h.at 0 rfl
 refine⟨w.setCell ⟨b,off,none⟩ v,?_,?_⟩
 · rw[run_store _ _ _ _ _ hv,DI hat (fD hlt),FY hat]
   rfl
 · exact h.write rfl rfl rfl (by simp[World.setCell]) (fun k hk=>Below.heap_setCell _ _ _ _ hk) (KL hat v)
theorem AF {t T:TypeId} {x y:Operand} {b off:Nat} {cs:List Value} {v:Value} (ho:o.op=.store t x y) (hd:o.dst=none) (hs:∀w,(sizeOf t).run P w=.ok 1 w) (hx:ev L x=some (.pointer (some ⟨b,off,none⟩))) (hy:ev L y=some v) (hv:v.oneCell'=true)
 (hlt:off<cs.length) (h:Pre n L (St w0 D (Ad b T (cs.set off v)::H)) K):EOp P n L (St w0 D (Ad b T cs::H)) o Q K :=
 EOp.skip _ hd (fun a w k hX=>by
  obtain⟨w',hr,h'⟩:=GS (P:=P) hX hlt hv
  have hc:v.cells=#[v]:=by cases v<;>first|rfl|(cases hv; done)
  refine⟨w',?_,h'⟩
  simp[execOp,ho,k.eval hx,k.eval hy,Instr.storeAt,Instr.sureAddr,storeVar,hs,hc,storeCells,BF,hr]) h
def splice (cs:List Value) (off:Nat):List Value->List Value
 |[]=>cs
 |v::vs=>splice (cs.set off v) (off+1) vs
theorem splice_eq:∀(vs cs:List Value) (off:Nat),off+vs.length<=cs.length->splice cs off vs=cs.take off++vs++cs.drop (off+vs.length)
 |[],cs,off,h=>by simp[splice]
 |v::vs,cs,off,h=>by
  simp only[fv] at h
  have hlt:off<cs.length:=by omega
  rw[splice,splice_eq vs _ _ (by simp; omega)]
  rw[iZ,List.drop_set_of_lt (by omega),jd,fD hlt,iq _ _ (by simp; omega)]
  simp only[fJ,Option.toList_some]
  rw[show off-min off cs.length=0 from by omega]
  simp only[iu,gK,fu,gO,fv]
  rw[show off+1+vs.length=off+(vs.length+1) from by omega]
theorem GU:∀(vs cs:List Value) (off:Nat),(splice cs off vs).length=cs.length
 |[],cs,off=>rfl
 |v::vs,cs,off=>by rw[splice,GU vs,je]
theorem B6 {b off:Nat} {t:TypeId}:∀(vs cs:List Value) (i:Nat) {w:World},St w0 D (Ad b t cs::H) w->off+i+vs.length<=cs.length->(∀v∈vs,v.oneCell'=true) ->
 ∃w',(storeCells ⟨b,off,none⟩ vs i).run P w=.ok () w'/\St w0 D (Ad b t (splice cs (off+i) vs)::H) w'
 |[],cs,i,w,h,hl,h1=>⟨w,rfl,h⟩
 |v::vs,cs,i,w,h,hl,h1=>by
  simp only[fv] at hl
  obtain⟨w1,hr1,h'1⟩:=GS (P:=P) h (off:=off+i) (by omega) (h1 v (iG ..))
  obtain⟨w2,hr2,h'2⟩:=B6 (b:=b) (off:=off) vs _ (i+1) h'1 (by simp; omega) (fun u hu=>h1 u (iR _ hu))
  refine⟨w2,?_,h'2⟩
  simp only[storeCells,BF,gx,hr1,gz,hr2]
theorem Ah {t T:TypeId} {x y:Operand} {b off sz:Nat} {cs vs:List Value} (ho:o.op=.store t x y) (hd:o.dst=none) (hs:∀w,(sizeOf t).run P w=.ok sz w) (hx:ev L x=some (.pointer (some ⟨b,off,none⟩))) (hy:ev L y=some (.agg vs.toArray)) (hsz:vs.length=sz) (hv:∀v∈vs,v.oneCell'=true)
 (hlt:off+vs.length<=cs.length) (h:Pre n L (St w0 D (Ad b T (splice cs off vs)::H)) K):EOp P n L (St w0 D (Ad b T cs::H)) o Q K :=
 EOp.skip _ hd (fun a w k hX=>by
  obtain⟨w',hr,h'⟩:=B6 (P:=P) vs cs 0 hX (by simpa using hlt) hv
  refine⟨w',?_,h'⟩
  simp[execOp,ho,k.eval hx,k.eval hy,Instr.storeAt,Instr.sureAddr,storeVar,hs,Value.cells,hsz,hr]) h
theorem FZ {α:Type} {v:Value} {e:TypeId} {E:Enc α} {l:List α} {w:World} (h:St w0 D (Az v e E l::H) w) (hl:0<l.length) :
 ∃b cap pre post,v=.slice (some ⟨b,pre.length,none⟩) l.length cap/\l.length<=cap/\post.length=(cap-l.length)*E.sz/\St w0 D (Ad b e (pre++E.flat l++post)::H) w:=by
 have hat:Row v e E l ((C4 v).bind (w.heap[·]?)):=h.at 0 rfl
 rcases hat with⟨a,rfl,rfl⟩|⟨b,cap,pre,post,rfl,hc,ho,hlc,hp⟩
 · cases hl
 · refine⟨b,cap,pre,post,rfl,hlc,hp,h.head ?_ (fun _=>?_)⟩
   · simp[Ad,Az,C4]; omega
   · have:C4 (.slice (some ⟨b,pre.length,none⟩) l.length cap)=some b:=by simp[C4]; omega
     rw[this] at ho
     exact ho
theorem CX {α:Type} {b cap:Nat} {e:TypeId} {E:Enc α} {l:List α} {pre post:List Value} {w:World} (h:St w0 D (Ad b e (pre++E.flat l++post)::H) w) (hc:0<cap) (hl:l.length<=cap) (hp:post.length=(cap-l.length)*E.sz) :
 St w0 D (Az (.slice (some ⟨b,pre.length,none⟩) l.length cap) e E l::H) w:=by
 have hb:C4 (.slice (some ⟨b,pre.length,none⟩) l.length cap)=some b:=by simp[C4]; omega
 refine h.head hb (fun hat=>.inr ⟨b,cap,pre,post,rfl,hc,?_,hl,hp⟩)
 have hat':w.heap[b]?=some (.cells (pre++E.flat l++post).toArray e (0,0)):=hat
 simp only[Az,hb]
 exact hat'
theorem CE {α:Type} {E:Enc α} {l:List α} {t e:TypeId} {x y:Operand} {v u:Value} {off:Nat} (j k:Nat) (c:α) {a:α} (ho:o.op=.store t x y) (hd:o.dst=none) (hs:∀w,(sizeOf t).run P w=.ok 1 w) (hx:ev L x=some (.pointer (some ⟨blk v,off,none⟩))) (hoff:off=EW v+j*E.sz+k) (hy:ev L y=some u)
 (ha:l[j]?=some a) (hk:k<E.sz) (hc:(E.f a).set k u=E.f c) (h:Pre n L (St w0 D (Az v e E (l.set j c)::H)) K):EOp P n L (St w0 D (Az v e E l::H)) o Q K :=
 EOp.skip _ hd (fun ac w kn hX=>by
  have hj:=(gl.1 ha).1
  have hu:u.oneCell'=true:=E.one c u (by rw[<-hc]; exact List.mem_set (by rw[E.len]; exact hk) u)
  obtain⟨b,cap,pre,post,rfl,hlc,hp,h1⟩:=FZ hX (by omega)
  have hlen:=E.fa l
  have hmul:(j+1)*E.sz<=l.length*E.sz:=gr _ (by omega)
  rw[fW,gu] at hmul
  obtain⟨w',hr,h'⟩:=GS (P:=P) h1 (off:=off) (by subst hoff; simp only[EW,fL,hlen]; omega) hu
  have Iv:(pre++E.flat l++post).set off u=pre++E.flat (l.set j c)++post:=by
   subst hoff
   simp only[EW]
   rw[show pre.length+j*E.sz+k=pre.length+(j*E.sz+k) from by omega,gK,set_mid _ _ _ _ (by rw[fL,hlen]; omega),iX _ _ (by rw[hlen]; omega),E.flat_set l j k a c u ha hk hc,gK]
  rw[Iv] at h'
  have hc2:u.cells=#[u]:=by cases u<;>first|rfl|(cases hu; done)
  refine⟨w',by simp[execOp,ho,kn.eval hx,kn.eval hy,Instr.storeAt,Instr.sureAddr,storeVar,hs,hc2,storeCells,BF,blk]; simp[hr],?_⟩
  have:=CX (cap:=cap) h' (by omega) (by simpa using hlc) (by simpa using hp)
  simpa using this) h
theorem Ei {α:Type} {E:Enc α} {l:List α} {t e:TypeId} {x y:Operand} {v:Value} {off:Nat} (j:Nat) (c:α) {us:List Value} (ho:o.op=.store t x y) (hd:o.dst=none) (hs:∀w,(sizeOf t).run P w=.ok E.sz w) (hx:ev L x=some (.pointer (some ⟨blk v,off,none⟩))) (hoff:off=EW v+j*E.sz) (hy:ev L y=some (.agg us.toArray))
 (hc:us=E.f c) (hj:j<l.length) (h:Pre n L (St w0 D (Az v e E (l.set j c)::H)) K):EOp P n L (St w0 D (Az v e E l::H)) o Q K :=
 EOp.skip _ hd (fun ac w kn hX=>by
  subst hc
  obtain⟨b,cap,pre,post,rfl,hlc,hp,h1⟩:=FZ hX (by omega)
  have hlen:=E.fa l
  have hmul:(j+1)*E.sz<=l.length*E.sz:=gr _ (by omega)
  rw[fW,gu] at hmul
  have hfit:off+0+(E.f c).length<=(pre++E.flat l++post).length:=by subst hoff; simp only[EW,fL,hlen,E.len]; omega
  obtain⟨w',hr,h'⟩:=B6 (P:=P) (off:=off) (E.f c) _ 0 h1 hfit (E.one c)
  have Iv:splice (pre++E.flat l++post) (off+0) (E.f c)=pre++E.flat (l.set j c)++post:=by
   rw[splice_eq _ _ _ (by simpa using hfit)]
   subst hoff
   simp only[EW,iM,E.len]
   have e1:l.set j c=l.take j++[c]++l.drop (j+1):=by
    rw[jf]; simp[hj]
   rw[e1,E.fm,E.fm,<-E.flat_take,<-E.flat_drop,fW,gu,E.fo,E.flat_nil,jc]
   have t1:(pre++E.flat l++post).take (pre.length+j*E.sz)=pre++(E.flat l).take (j*E.sz):=by
    rw[gK,iV,jg (by rw[hlen]; omega)]
   have t2:(pre++E.flat l++post).drop (pre.length+j*E.sz+E.sz)=(E.flat l).drop (j*E.sz+E.sz)++post:=by
    rw[gK,gM,iW,jh (by rw[hlen]; omega)]
   rw[t1,t2]
   simp only[gK]
  rw[Iv] at h'
  refine⟨w',by simp[execOp,ho,kn.eval hx,kn.eval hy,Instr.storeAt,Instr.sureAddr,storeVar,hs,Value.cells,E.len,blk]; simp[hr],?_⟩
  have:=CX (cap:=cap) h' (by omega) (by simpa using hlc) (by simpa using hp)
  simpa using this) h
end
end Go.Sep
namespace Go.Sep
open Go.RowKit
section
variable {P:Program} {n:Nat} {L:Env} {X:World->Prop} {o:Oper} {Q:Exit->Act->World->Prop} {K:Act->World->Prop} {α:Type} {E:Enc α} {l:List α} {v:Value}
theorem AL {x:Operand} {t e:TypeId} (ho:o.op=.call ⟨.builtin .len,#[x],#[t]⟩) (ht:P.underlying t=some (.slice e)) (hx:ev L x=some v) (hr:∀w,X w->RdV w v E l):QOp P n L X o (.int .i64 (l.length:Int)):=fun a w hk hX=>by
 obtain⟨ad,c,rfl,_⟩:=hr w hX
 exact Ew (X:=X) ho ht hx a w hk hX
theorem As {t e:TypeId} {x i:Operand} {k:IntKind} {p:Int} (j:Nat) (ho:o.op=.indexAddr t x i) (ht:P.underlying t=some (.slice e)) (hz:∀w,(sizeOf e).run P w=.ok E.sz w)
 (hx:ev L x=some v) (hr:∀w,X w->RdV w v E l) (hi:ev L i=some (.int k p)) (hp:p=(j:Int)) (hj:j<l.length):QOp P n L X o (.pointer (some ⟨blk v,EW v+j*E.sz,none⟩)):=fun a w hk hX=>by
 obtain⟨ad,c,rfl,_,h⟩:=hr w hX
 rcases h with rfl|⟨b,off,rfl,h⟩
 · simp at hj
 · exact FX (X:=X) j ho ht hz hx hi hp hj a w hk hX
theorem Jf {w:World} (hr:RdV w v E l) (hn:0<l.length):∃b off c,v=.slice (some ⟨b,off,none⟩) l.length c:=by
 obtain⟨ad,c,rfl,_,h⟩:=hr
 rcases h with rfl|⟨b,off,rfl,h⟩
 · simp at hn
 · exact⟨b,off,c,rfl⟩
theorem L6 {w:World} (hr:RdV w v E l) {j k:Nat} {a:α} {u:Value} (ha:l[j]?=some a) (hv:(E.f a)[k]?=some u):w.cell? ⟨blk v,EW v+j*E.sz+k,none⟩=some u:=by
 obtain⟨ad,c,rfl,_,h⟩:=hr
 rcases h with rfl|⟨b,off,rfl,h⟩
 · simp at ha
 · have:=h _ _ (E.flat_get l j k a u ha hv)
   rwa[<-gM] at this
theorem AI {t:TypeId} {x:Operand} {u:Value} {off:Nat} (j k:Nat) {a:α} (ho:o.op=.load t x) (hg:∀w,(isAgg t).run P w=.ok false w) (hx:ev L x=some (.pointer (some ⟨blk v,off,none⟩))) (hoff:off=EW v+j*E.sz+k)
 (hr:∀w,X w->RdV w v E l) (ha:l[j]?=some a) (hv:(E.f a)[k]?=some u):QOp P n L X o u:=by
 subst hoff
 exact T6 ho hg hx (fun w hX=>L6 (hr w hX) ha hv)
theorem Ej {t:TypeId} {x:Operand} {off sz:Nat} (j k:Nat) {a:α} (ho:o.op=.load t x) (hg:∀w,(isAgg t).run P w=.ok true w) (hz:∀w,(sizeOf t).run P w=.ok sz w) (hx:ev L x=some (.pointer (some ⟨blk v,off,none⟩))) (hoff:off=EW v+j*E.sz+k)
 (hr:∀w,X w->RdV w v E l) (ha:l[j]?=some a) (hk:k+sz<=E.sz):QOp P n L X o (.agg (((E.f a).drop k).take sz).toArray):=by
 subst hoff
 refine K3 ho hg hz hx (by rw[fJ,fK,E.len]; omega) (fun w hX i u hu=>?_)
 have h1:(E.f a)[k+i]?=some u:=by
  rw[fN] at hu
  split at hu
  · rwa[fQ] at hu
  · cases hu
 rw[gM]
 exact L6 (hr w hX) ha h1
theorem AU {t:TypeId} {x:Operand} {off:Nat} (j:Nat) {a:α} (ho:o.op=.load t x) (hg:∀w,(isAgg t).run P w=.ok true w) (hz:∀w,(sizeOf t).run P w=.ok E.sz w) (hx:ev L x=some (.pointer (some ⟨blk v,off,none⟩))) (hoff:off=EW v+j*E.sz)
 (hr:∀w,X w->RdV w v E l) (ha:l[j]?=some a):QOp P n L X o (.agg (E.f a).toArray):=by
 have:=Ej (P:=P) (n:=n) (E:=E) (v:=v) (l:=l) j 0 ho hg hz hx (by rw[iM]; exact hoff) hr ha (by omega)
 rw[fV,fZ (by rw[E.len]; exact ga _)] at this
 exact this
theorem Ao {t T:TypeId} {x:Operand} {b off:Nat} {cs:List Value} {u:Value} (ho:o.op=.load t x) (hg:∀w,(isAgg t).run P w=.ok false w) (hx:ev L x=some (.pointer (some ⟨b,off,none⟩))) (hr:∀w,X w->(Ad b T cs).at w) (hv:cs[off]?=some u):QOp P n L X o u :=
 T6 ho hg hx (fun w hX=>DI (hr w hX) hv)
theorem AP {t T:TypeId} {x:Operand} {b off sz:Nat} {cs:List Value} (vs:List Value) (ho:o.op=.load t x) (hg:∀w,(isAgg t).run P w=.ok true w) (hz:∀w,(sizeOf t).run P w=.ok sz w) (hx:ev L x=some (.pointer (some ⟨b,off,none⟩))) (hr:∀w,X w->(Ad b T cs).at w)
 (hv:(cs.drop off).take sz=vs) (hl:vs.length=sz):QOp P n L X o (.agg vs.toArray) :=
 K3 ho hg hz hx hl (fun w hX i u hu=>DI (hr w hX) (by
  subst hv
  rw[fN] at hu
  split at hu
  · rwa[fQ] at hu
  · cases hu))
def vsl:Value->Nat->Nat->Nat->Value
 |.slice a _ c,sz,lo,hi=>.slice (if c=lo then a else a.map (·.add (lo*sz))) (hi-lo) (c-lo)
 |v,_,_,_=>v
theorem CF {w:World} (h:RdV w v E l) {lo hi:Nat} (h1:lo<=hi) (h2:hi<=l.length):RdV w (vsl v E.sz lo hi) E ((l.take hi).drop lo):=by
 obtain⟨a,c,rfl,hc,h⟩:=h
 have hlen:((l.take hi).drop lo).length=hi-lo:=by rw[fK,fJ]; omega
 refine⟨(if c=lo then a else a.map (·.add (lo*E.sz))),c-lo,by rw[vsl,hlen],by omega,?_⟩
 by_cases hd:hi=lo
 · exact .inl (fS (by omega))
 · rcases h with rfl|⟨b,off,rfl,h⟩
   · simp at h2; omega
   · refine .inr ⟨b,off+lo*E.sz,?_,fun k u hu=>?_⟩
     · rw[fR (by omega)]; simp[BF]
     · rw[<-E.flat_drop,<-E.flat_take,fQ,fN] at hu
       split at hu
       · have:=h _ _ hu; rwa[<-gM] at this
       · cases hu
theorem Nf {t e:TypeId} {x lo hi:Operand} {k k':IntKind} {zl zh:Int} (i j:Nat) (ho:o.op=.slice t x (some lo) (some hi) none) (ht:P.underlying t=some (.slice e)) (hz:∀w,(sizeOf e).run P w=.ok E.sz w)
 (hx:ev L x=some v) (hr:∀w,X w->RdV w v E l) (hlo:ev L lo=some (.int k zl)) (hhi:ev L hi=some (.int k' zh)) (el:zl=(i:Int)) (eh:zh=(j:Int)) (h1:i<=j) (h2:j<=l.length) :
 QOp P n L X o (vsl v E.sz i j):=fun a w hk hX=>by
 obtain⟨ad,c,rfl,hc,_⟩:=hr w hX
 subst el; subst eh
 have hjc:j<=c:=by omega
 have:=QOp.mk (P:=P) (n:=n) (L:=L) (X:=X) (o:=o) (v:=vsl (.slice ad l.length c) E.sz i j) (fun a=>Instr.sliceAt t (a.eval x) (some (a.eval lo)) (some (a.eval hi)) none) (fun a=>by simp[execOp,ho]) (fun a w hk _=>by
  rw[hk.eval hx,hk.eval hlo,hk.eval hhi]
  simp only[Instr.sliceAt,Instr.slice,Instr.sliceBounds,gx,AT ht,gz,gy,CA (P:=P) w rfl hjc,CA (P:=P) w rfl h1,hz,vsl])
 exact this a w hk hX
theorem D1 {t e:TypeId} {x lo:Operand} {k:IntKind} {zl:Int} (i:Nat) (ho:o.op=.slice t x (some lo) none none) (ht:P.underlying t=some (.slice e)) (hz:∀w,(sizeOf e).run P w=.ok E.sz w)
 (hx:ev L x=some v) (hr:∀w,X w->RdV w v E l) (hlo:ev L lo=some (.int k zl)) (el:zl=(i:Int)) (h1:i<=l.length) :
 QOp P n L X o (vsl v E.sz i l.length):=fun a w hk hX=>by
 obtain⟨ad,c,rfl,hc,_⟩:=hr w hX
 subst el
 have:=QOp.mk (P:=P) (n:=n) (L:=L) (X:=X) (o:=o) (v:=vsl (.slice ad l.length c) E.sz i l.length) (fun a=>Instr.sliceAt t (a.eval x) (some (a.eval lo)) none none) (fun a=>by simp[execOp,ho]) (fun a w hk _=>by
  rw[hk.eval hx,hk.eval hlo]
  simp only[Instr.sliceAt,Instr.slice,Instr.sliceBounds,gx,AT ht,gz,gy,CA (P:=P) w rfl h1,hz,vsl])
 exact this a w hk hX
theorem Fg {t e:TypeId} {x hi:Operand} {k':IntKind} {zh:Int} (j:Nat) (ho:o.op=.slice t x none (some hi) none) (ht:P.underlying t=some (.slice e)) (hz:∀w,(sizeOf e).run P w=.ok E.sz w)
 (hx:ev L x=some v) (hr:∀w,X w->RdV w v E l) (hhi:ev L hi=some (.int k' zh)) (eh:zh=(j:Int)) (h2:j<=l.length) :
 QOp P n L X o (vsl v E.sz 0 j):=fun a w hk hX=>by
 obtain⟨ad,c,rfl,hc,_⟩:=hr w hX
 subst eh
 have hjc:j<=c:=by omega
 have:=QOp.mk (P:=P) (n:=n) (L:=L) (X:=X) (o:=o) (v:=vsl (.slice ad l.length c) E.sz 0 j) (fun a=>Instr.sliceAt t (a.eval x) none (some (a.eval hi)) none) (fun a=>by simp[execOp,ho]) (fun a w hk _=>by
  rw[hk.eval hx,hk.eval hhi]
  simp only[Instr.sliceAt,Instr.slice,Instr.sliceBounds,gx,AT ht,gz,gy,CA (P:=P) w rfl hjc,hz,vsl])
 exact this a w hk hX
theorem H6 {w:World} (h:RdV w v E l):(Builtin.lenOf v).run P w=.ok l.length w:=by
 obtain⟨a,c,rfl,_⟩:=h; rfl
theorem D2 {w:World} (h:RdV w v E l):(Builtin.firstCells E.sz l.length v).run P w=.ok (E.flat l).toArray w:=by
 obtain⟨a,c,rfl,_,h⟩:=h
 rcases h with rfl|⟨b,off,rfl,h⟩
 · cases a<;>simp[Builtin.firstCells,loadCells,loadCellsFrom,Enc.flat_nil]
 · simp only[Builtin.firstCells,loadCells]
   have:=Ea (P:=P) b off w (l.length*E.sz) 0 (E.flat l) #[] (E.fa l) (fun j u hu=>by rw[gE]; exact h j u hu)
   simpa using this
theorem RdV.drew {w:World} (h:RdV w v E l):RdV w.drew v E l:=h.congr (fun _=>rfl)
variable {w0:World} {D:List Nat} {H:List Ent}
theorem St.row0 {w:World} (e:TypeId) (E:Enc α) (a:Option Addr) (h:St w0 D H w):St w0 D (Az (.slice a 0 0) e E []::H) w :=
 h.add (by cases a<;>simp[Az,C4]) (.inl ⟨a,rfl,rfl⟩)
theorem St.rowLit {w:World} {b m:Nat} {e:TypeId} {cs:List Value} (E:Enc α) (l:List α) (hl:l.length=m) (hcs:cs=E.flat l) (h:St w0 D (Ad b e cs::H) w):St w0 D (Az (.slice (some ⟨b,0,none⟩) m m) e E l::H) w:=by
 subst hl; subst hcs
 by_cases h0:l=[]
 · subst h0
   exact h.drop.row0 e E _
 · have hp:0<l.length:=ji.2 h0
   have h1:St w0 D (Ad b e ([]++E.flat l++[])::H) w:=by simpa using h
   exact CX (cap:=l.length) h1 hp (ga _) (by simp)
theorem Pg {t tx e e':TypeId} {i:TypeInfo} {z x:Value} {m:List α} {ty:TypeId} {w:World} (ht:P.underlying t=some (.slice e)) (htx:P.underlying tx=some (.slice e')) (hi:P.info? e=some i) (hs:i.size=E.sz) (hz:i.zero=some z) (hzc:z.cells.size=E.sz)
 (h:St w0 D (Az v e E l::H) w) (hx:RdV w x E m) (hb:(l.length+m.length)*i.bytes<=140737488355328) (hn:l.length+m.length<=9223372036854775807) :
 ∃v' w',(Builtin.append_ #[t,tx] ty #[v,x]).run P w=.ok v' w'/\St w0 D (Az v' e E (l++m)::H) w':=by
 have hrd:RdV w v E l:=BO (h.at 0 rfl)
 have hvl:=hrd
 obtain⟨a,c,rfl,hc,_⟩:=hvl
 have hsz:∀w,(sizeOf e).run P w=.ok E.sz w:=fun w=>by simp[sizeOf,typeInfo,hi,hs]
 have hti:∀w,(typeInfo e).run P w=.ok i w:=fun w=>by simp[typeInfo,hi]
 have hzv:∀w,(zeroValue e).run P w=.ok z w:=fun w=>by simp[zeroValue,typeInfo,hi,hz]
 have hlen:=H6 (P:=P) hx
 by_cases hroom:l.length+m.length<=c
 · -- there is room
   have hrun:(Builtin.append_ #[t,tx] ty #[.slice a l.length c,x]).run P w=(Sem.run P (match a with|some a=>storeCells (a.add (l.length*E.sz)) (E.flat m)|none=>pure ():Sem Unit) w).andThen (fun _ w'=>.ok (.slice a (l.length+m.length) c) w'):=by
    have hf:=D2 (P:=P) hx
    cases a<;>simp[Builtin.append_,AT ht,AT htx,hsz,hlen,hroom,hf]
   by_cases hm:m=[]
   · subst hm
     refine⟨.slice a l.length c,w,?_,by simpa using h⟩
     rw[hrun]
     cases a<;>simp[Enc.flat_nil,storeCells]
   · have hmp:0<m.length:=ji.2 hm
     have hat:Row (.slice a l.length c) e E l ((C4 (.slice a l.length c)).bind (w.heap[·]?)):=h.at 0 rfl
     rcases hat with⟨a',he,rfl⟩|⟨b,cap,pre,post,he,hcp,ho,hlc,hpost⟩
     · cases he; simp at hroom; exact absurd hroom hm
     · cases he
       have hown:C4 (.slice (some ⟨b,pre.length,none⟩) l.length c)=some b:=by simp[C4]; omega
       have h1:St w0 D (Ad b e (pre++E.flat l++post)::H) w:=h.head hown.symm (fun _=>by rw[hown] at ho; exact ho)
       have hl1:=E.fa l
       have hl2:=E.fa m
       have hmul:(l.length+m.length)*E.sz<=c*E.sz:=gr _ hroom
       have hsub:(c-l.length)*E.sz=c*E.sz-l.length*E.sz:=jj ..
       rw[fW] at hmul
       have hfit:pre.length+l.length*E.sz+0+(E.flat m).length<=(pre++E.flat l++post).length:=by
        simp only[fL]; omega
       obtain⟨w',hr,h'⟩:=B6 (P:=P) (off:=pre.length+l.length*E.sz) (E.flat m) _ 0 h1 hfit (fun u hu=>E.flat_one m u hu)
       refine⟨.slice (some ⟨b,pre.length,none⟩) (l.length+m.length) c,w',?_,?_⟩
       · rw[hrun]
         simp only[BF,hr,gz]
       · rw[splice_eq _ _ _ (by simpa using hfit)] at h'
         have t1:(pre++E.flat l++post).take (pre.length+l.length*E.sz+0)=pre++E.flat l:=by
          rw[iM,<-hl1,<-fL,ja]
         rw[t1] at h'
         have e2:pre++E.flat l++E.flat m=pre++E.flat (l++m):=by rw[E.fm,gK]
         rw[e2] at h'
         have:=CX (cap:=c) h' (by omega) (by simpa using hroom) (by
          simp only[fK,fL,iM]
          have hs2:(c-(l.length+m.length))*E.sz=c*E.sz-(l.length*E.sz+m.length*E.sz):=by rw[jj,fW]
          rw[hs2]
          omega)
         simpa using this
 · -- a new block
   have hgt:c<l.length+m.length:=by omega
   have h64:¬(9223372036854775807<((l.length:Int)+(m.length:Int))):=by omega
   have hfits:=growslice_fits hgt hb
   have h48:¬(281474976710656<Builtin.nextslicecap (l.length+m.length) c*i.bytes):=by omega
   have hf1:=D2 (P:=P) hrd.drew
   have hf2:=D2 (P:=P) hx.drew
   have hrun:(Builtin.append_ #[t,tx] ty #[.slice a l.length c,x]).run P w=.ok (.slice (some ⟨w.heap.size,0,none⟩) (l.length+m.length) (grownCap w (l.length+m.length) c e))
    (w.drew.alloc (.cells ((E.flat l).toArray++(E.flat m).toArray++Builtin.zeroCells z.cells (grownCap w (l.length+m.length) c e-(l.length+m.length))) e)):=by
    simp[Builtin.append_,AT ht,AT htx,hsz,hti,hzv,hlen,hroom,h64,h48,Question.forced,hf1,hf2,newRow,grownCap,<-Array.append_assoc]
   refine⟨_,_,hrun,?_⟩
   have hge:=grownCap_ge w (l.length+m.length) c e
   have hb2:C4 (.slice (some ⟨w.heap.size,0,none⟩) (l.length+m.length) (grownCap w (l.length+m.length) c e))=some w.heap.size:=by simp[C4]; omega
   have h1:=(h.drop.drew).alloc (o:=.cells ((E.flat l).toArray++(E.flat m).toArray++Builtin.zeroCells z.cells (grownCap w (l.length+m.length) c e-(l.length+m.length))) e)
    (φ:=Row (.slice (some ⟨w.heap.size,0,none⟩) (l.length+m.length) (grownCap w (l.length+m.length) c e)) e E (l++m)) (.inr ⟨w.heap.size,grownCap w (l.length+m.length) c e,[],(Builtin.zeroCells z.cells (grownCap w (l.length+m.length) c e-(l.length+m.length))).toList,by simp,by omega,by
     congr 2
     apply jk.1
     simp[E.fm],by simp; omega,by
     rw[ij,jl,hzc,fL]⟩)
   show St w0 D (⟨C4 _,_⟩::H) _
   rw[hb2]
   exact h1
theorem BZ {t tx e e':TypeId} {i:TypeInfo} {z xv:Value} {s x:Operand} {m:List α} {d:Nat} (ho:o.op=.call ⟨.builtin .append,#[s,x],#[t,tx]⟩) (hd:o.dst=some d) (hnn:d.blt n=true) (ht:P.underlying t=some (.slice e)) (htx:P.underlying tx=some (.slice e')) (hi:P.info? e=some i) (hs:i.size=E.sz) (hz:i.zero=some z) (hzc:z.cells.size=E.sz)
 (hsv:ev L s=some v) (hxv:ev L x=some xv) (hx:∀w,St w0 D (Az v e E l::H) w->RdV w xv E m) (hb:(l.length+m.length)*i.bytes<=140737488355328) (hn:l.length+m.length<=9223372036854775807)
 (h:∀v',Pre n ((d,v')::L) (St w0 D (Az v' e E (l++m)::H)) K):EOp P n L (St w0 D (Az v e E l::H)) o Q K :=
 EOp.val (β:=Value) (fun v=>v) (fun _=>True) (fun v'=>St w0 D (Az v' e E (l++m)::H)) hd hnn (fun a w kn hX=>by
  obtain⟨v',w',hr,h'⟩:=Pg (P:=P) (ty:=o.type) ht htx hi hs hz hzc hX (hx w hX) hb hn
  exact⟨v',w',by simp[execOp,ho,resolve,invoke,builtin,kn.eval hsv,kn.eval hxv,hr],trivial,h'⟩) (fun v' _=>h v')
variable {F:Act->World->Prop} {a b c d e f g h i:Ent}
theorem AM (k:Pre n L (St w0 D (b::a::H)) F):Pre n L (St w0 D (a::b::H)) F:=k.world _ (fun w s=>s.perm (.swap b a H))
theorem AV (k:Pre n L (St w0 D (c::a::b::H)) F):Pre n L (St w0 D (a::b::c::H)) F:=k.world _ (fun w s=>s.perm (.trans (.cons a (.swap c b H)) (.swap c a (b::H))))
theorem DS (k:Pre n L (St w0 D (d::a::b::c::H)) F):Pre n L (St w0 D (a::b::c::d::H)) F:=k.world _ (fun w s=>s.perm (.trans (.cons a (.cons b (.swap d c H))) (.trans (.cons a (.swap d b (c::H))) (.swap d a (b::c::H)))))
theorem CY (k:Pre n L (St w0 D (e::a::b::c::d::H)) F):Pre n L (St w0 D (a::b::c::d::e::H)) F:=k.world _ (fun w s=>s.perm (jm (l₁:=[a,b,c,d]) (l₂:=H)))
theorem Ex (k:Pre n L (St w0 D (f::a::b::c::d::e::H)) F):Pre n L (St w0 D (a::b::c::d::e::f::H)) F:=k.world _ (fun w s=>s.perm (jm (l₁:=[a,b,c,d,e]) (l₂:=H)))
theorem D0 (k:Pre n L (St w0 D (g::a::b::c::d::e::f::H)) F):Pre n L (St w0 D (a::b::c::d::e::f::g::H)) F:=k.world _ (fun w s=>s.perm (jm (l₁:=[a,b,c,d,e,f]) (l₂:=H)))
theorem Av (k:Pre n L (St w0 D H) F):Pre n L (St w0 D (a::H)) F:=k.world _ (fun w s=>s.drop)
theorem B0 {w:World} {e:TypeId} (h:(Az v e E l).at w):∃a c,v=.slice a l.length c:=by
 obtain⟨a,c,h,_⟩:=BO h; exact⟨a,c,h⟩
theorem F0 {w:World} (h:RdV w v E l):∃a c,v=.slice a l.length c:=by
 obtain⟨a,c,h,_⟩:=h; exact⟨a,c,h⟩
theorem EB {w:World} {n c:Nat} (h:RdV w (.slice none n c) E l):l=[]:=by
 obtain⟨a,c',e,_,h⟩:=h
 cases e
 rcases h with h|⟨b,off,e,_⟩
 · exact h
 · cases e
theorem Ay {F:Act->World->Prop} {b:Nat} {t:TypeId} {cs cs':List Value} (he:cs=cs') (k:Pre n L (St w0 D (Ad b t cs'::H)) F):Pre n L (St w0 D (Ad b t cs::H)) F:=he▸k
theorem Bo {F:Act->World->Prop} {v:Value} {t:TypeId} {E:Enc α} {l l':List α} (he:l=l') (k:Pre n L (St w0 D (Az v t E l'::H)) F):Pre n L (St w0 D (Az v t E l::H)) F:=he▸k
theorem row0 {F:Act->World->Prop} (e:TypeId) (E:Enc α) (a:Option Addr) (k:Pre n L (St w0 D (Az (.slice a 0 0) e E []::H)) F):Pre n L (St w0 D H) F:=k.world _ (fun w s=>s.row0 e E a)
theorem rowLit {F:Act->World->Prop} {b m:Nat} {e:TypeId} {cs:List Value} (E:Enc α) (l:List α) (hl:l.length=m) (hcs:cs=E.flat l) (k:Pre n L (St w0 D (Az (.slice (some ⟨b,0,none⟩) m m) e E l::H)) F):Pre n L (St w0 D (Ad b e cs::H)) F:=k.world _ (fun w s=>s.rowLit E l hl hcs)
end
end Go.Sep
namespace Go.Sep
section
variable {P:Program} {n:Nat} {L:Env} {o:Oper} {Q:Exit->Act->World->Prop} {K:Act->World->Prop} {w0:World} {D:List Nat}
theorem cC {β:Type} {v:β->Value} {p:β->Prop} {E:World->Prop} {F:List Ent} {f:FuncId} {xs:List Operand} {ts:Array TypeId} {d:Nat} {vs:List Value} (s:Con P f vs E [] v p (fun b=>[])) (ho:o.op=.call ⟨.value (.func f),xs.toArray,ts⟩) (hd:o.dst=some d) (hn:d.blt n=true)
 (hc:∀us w,(callFunc f us).run P w=.ok (.enter f us) w) (hv:evs L xs=some vs) (hE:∀w,St w0 D (F) w->E w) (h:∀b,p b->Pre n ((d,v b)::L) (St w0 D (F)) K):EOp P n L (St w0 D (F)) o Q K :=
 Dw ho hd hn hc hv (fun w h=>s.frame (F:=F) h (hE w h)) h
theorem AX {β:Type} {v:β->Value} {p:β->Prop} {E:World->Prop} {F:List Ent} {y0:β->Ent} {f:FuncId} {xs:List Operand} {ts:Array TypeId} {d:Nat} {vs:List Value} (s:Con P f vs E [] v p (fun b=>[y0 b])) (ho:o.op=.call ⟨.value (.func f),xs.toArray,ts⟩) (hd:o.dst=some d) (hn:d.blt n=true)
 (hc:∀us w,(callFunc f us).run P w=.ok (.enter f us) w) (hv:evs L xs=some vs) (hE:∀w,St w0 D (F) w->E w) (h:∀b,p b->Pre n ((d,v b)::L) (St w0 D (y0 b::F)) K):EOp P n L (St w0 D (F)) o Q K :=
 Dw ho hd hn hc hv (fun w h=>s.frame (F:=F) h (hE w h)) h
theorem R4 {β:Type} {v:β->Value} {p:β->Prop} {E:World->Prop} {F:List Ent} {y0 y1:β->Ent} {f:FuncId} {xs:List Operand} {ts:Array TypeId} {d:Nat} {vs:List Value} (s:Con P f vs E [] v p (fun b=>[y0 b,y1 b])) (ho:o.op=.call ⟨.value (.func f),xs.toArray,ts⟩) (hd:o.dst=some d) (hn:d.blt n=true)
 (hc:∀us w,(callFunc f us).run P w=.ok (.enter f us) w) (hv:evs L xs=some vs) (hE:∀w,St w0 D (F) w->E w) (h:∀b,p b->Pre n ((d,v b)::L) (St w0 D (y0 b::y1 b::F)) K):EOp P n L (St w0 D (F)) o Q K :=
 Dw ho hd hn hc hv (fun w h=>s.frame (F:=F) h (hE w h)) h
theorem R5 {β:Type} {v:β->Value} {p:β->Prop} {E:World->Prop} {F:List Ent} {y0 y1 y2:β->Ent} {f:FuncId} {xs:List Operand} {ts:Array TypeId} {d:Nat} {vs:List Value} (s:Con P f vs E [] v p (fun b=>[y0 b,y1 b,y2 b])) (ho:o.op=.call ⟨.value (.func f),xs.toArray,ts⟩) (hd:o.dst=some d) (hn:d.blt n=true)
 (hc:∀us w,(callFunc f us).run P w=.ok (.enter f us) w) (hv:evs L xs=some vs) (hE:∀w,St w0 D (F) w->E w) (h:∀b,p b->Pre n ((d,v b)::L) (St w0 D (y0 b::y1 b::y2 b::F)) K):EOp P n L (St w0 D (F)) o Q K :=
 Dw ho hd hn hc hv (fun w h=>s.frame (F:=F) h (hE w h)) h
theorem EG {β:Type} {v:β->Value} {p:β->Prop} {E:World->Prop} {F:List Ent} {y0 y1 y2 y3:β->Ent} {f:FuncId} {xs:List Operand} {ts:Array TypeId} {d:Nat} {vs:List Value} (s:Con P f vs E [] v p (fun b=>[y0 b,y1 b,y2 b,y3 b])) (ho:o.op=.call ⟨.value (.func f),xs.toArray,ts⟩) (hd:o.dst=some d) (hn:d.blt n=true)
 (hc:∀us w,(callFunc f us).run P w=.ok (.enter f us) w) (hv:evs L xs=some vs) (hE:∀w,St w0 D (F) w->E w) (h:∀b,p b->Pre n ((d,v b)::L) (St w0 D (y0 b::y1 b::y2 b::y3 b::F)) K):EOp P n L (St w0 D (F)) o Q K :=
 Dw ho hd hn hc hv (fun w h=>s.frame (F:=F) h (hE w h)) h
theorem Bg {β:Type} {v:β->Value} {p:β->Prop} {E:World->Prop} {F:List Ent} {x0:Ent} {y0:β->Ent} {f:FuncId} {xs:List Operand} {ts:Array TypeId} {d:Nat} {vs:List Value} (s:Con P f vs E [x0] v p (fun b=>[y0 b])) (ho:o.op=.call ⟨.value (.func f),xs.toArray,ts⟩) (hd:o.dst=some d) (hn:d.blt n=true)
 (hc:∀us w,(callFunc f us).run P w=.ok (.enter f us) w) (hv:evs L xs=some vs) (hE:∀w,St w0 D (x0::F) w->E w) (h:∀b,p b->Pre n ((d,v b)::L) (St w0 D (y0 b::F)) K):EOp P n L (St w0 D (x0::F)) o Q K :=
 Dw ho hd hn hc hv (fun w h=>s.frame (F:=F) h (hE w h)) h
theorem H7 {β:Type} {v:β->Value} {p:β->Prop} {E:World->Prop} {F:List Ent} {x0:Ent} {y0 y1:β->Ent} {f:FuncId} {xs:List Operand} {ts:Array TypeId} {d:Nat} {vs:List Value} (s:Con P f vs E [x0] v p (fun b=>[y0 b,y1 b])) (ho:o.op=.call ⟨.value (.func f),xs.toArray,ts⟩) (hd:o.dst=some d) (hn:d.blt n=true)
 (hc:∀us w,(callFunc f us).run P w=.ok (.enter f us) w) (hv:evs L xs=some vs) (hE:∀w,St w0 D (x0::F) w->E w) (h:∀b,p b->Pre n ((d,v b)::L) (St w0 D (y0 b::y1 b::F)) K):EOp P n L (St w0 D (x0::F)) o Q K :=
 Dw ho hd hn hc hv (fun w h=>s.frame (F:=F) h (hE w h)) h
theorem R6 {β:Type} {v:β->Value} {p:β->Prop} {E:World->Prop} {F:List Ent} {x0 x1:Ent} {y0:β->Ent} {f:FuncId} {xs:List Operand} {ts:Array TypeId} {d:Nat} {vs:List Value} (s:Con P f vs E [x0,x1] v p (fun b=>[y0 b])) (ho:o.op=.call ⟨.value (.func f),xs.toArray,ts⟩) (hd:o.dst=some d) (hn:d.blt n=true)
 (hc:∀us w,(callFunc f us).run P w=.ok (.enter f us) w) (hv:evs L xs=some vs) (hE:∀w,St w0 D (x0::x1::F) w->E w) (h:∀b,p b->Pre n ((d,v b)::L) (St w0 D (y0 b::F)) K):EOp P n L (St w0 D (x0::x1::F)) o Q K :=
 Dw ho hd hn hc hv (fun w h=>s.frame (F:=F) h (hE w h)) h
theorem Gn {β:Type} {v:β->Value} {p:β->Prop} {E:World->Prop} {F:List Ent} {x0 x1:Ent} {y0 y1:β->Ent} {f:FuncId} {xs:List Operand} {ts:Array TypeId} {d:Nat} {vs:List Value} (s:Con P f vs E [x0,x1] v p (fun b=>[y0 b,y1 b])) (ho:o.op=.call ⟨.value (.func f),xs.toArray,ts⟩) (hd:o.dst=some d) (hn:d.blt n=true)
 (hc:∀us w,(callFunc f us).run P w=.ok (.enter f us) w) (hv:evs L xs=some vs) (hE:∀w,St w0 D (x0::x1::F) w->E w) (h:∀b,p b->Pre n ((d,v b)::L) (St w0 D (y0 b::y1 b::F)) K):EOp P n L (St w0 D (x0::x1::F)) o Q K :=
 Dw ho hd hn hc hv (fun w h=>s.frame (F:=F) h (hE w h)) h
theorem BL {β:Type} {v:β->Value} {p:β->Prop} {E:World->Prop} {F:List Ent} {x0 x1 x2:Ent} {y0 y1 y2:β->Ent} {f:FuncId} {xs:List Operand} {ts:Array TypeId} {d:Nat} {vs:List Value} (s:Con P f vs E [x0,x1,x2] v p (fun b=>[y0 b,y1 b,y2 b])) (ho:o.op=.call ⟨.value (.func f),xs.toArray,ts⟩) (hd:o.dst=some d) (hn:d.blt n=true)
 (hc:∀us w,(callFunc f us).run P w=.ok (.enter f us) w) (hv:evs L xs=some vs) (hE:∀w,St w0 D (x0::x1::x2::F) w->E w) (h:∀b,p b->Pre n ((d,v b)::L) (St w0 D (y0 b::y1 b::y2 b::F)) K):EOp P n L (St w0 D (x0::x1::x2::F)) o Q K :=
 Dw ho hd hn hc hv (fun w h=>s.frame (F:=F) h (hE w h)) h
theorem K4 {β:Type} {v:β->Value} {p:β->Prop} {E:World->Prop} {F:List Ent} {x0 x1 x2:Ent} {y0 y1 y2 y3:β->Ent} {f:FuncId} {xs:List Operand} {ts:Array TypeId} {d:Nat} {vs:List Value} (s:Con P f vs E [x0,x1,x2] v p (fun b=>[y0 b,y1 b,y2 b,y3 b])) (ho:o.op=.call ⟨.value (.func f),xs.toArray,ts⟩) (hd:o.dst=some d) (hn:d.blt n=true)
 (hc:∀us w,(callFunc f us).run P w=.ok (.enter f us) w) (hv:evs L xs=some vs) (hE:∀w,St w0 D (x0::x1::x2::F) w->E w) (h:∀b,p b->Pre n ((d,v b)::L) (St w0 D (y0 b::y1 b::y2 b::y3 b::F)) K):EOp P n L (St w0 D (x0::x1::x2::F)) o Q K :=
 Dw ho hd hn hc hv (fun w h=>s.frame (F:=F) h (hE w h)) h
end
end Go.Sep
namespace Go.Sep
section
variable {P:Program} {n:Nat} {L:Env} {X:World->Prop} {Q:Exit->Act->World->Prop}
theorem Bc {A1:Type} {c:Code} (Lv:A1->Env) (Xv:A1->World->Prop) (p:A1->Prop) (μ:A1->Nat) (z1:A1) (h0:p z1) (hL:Sub (Lv z1) L) (hX:∀w,X w->Xv z1 w)
 (round:∀a1,p a1->Pre n (Lv a1) (Xv a1) (c.wp P (Exit.then (IL n (fun x:A1=>μ x) (fun x=>Lv x) (fun x=>Xv x) (fun x=>p x) (μ a1)) Q))):Pre n L X ((Code.loop c).wp P Q) :=
 H3 (α:=A1) (fun x=>Lv x) (fun x=>Xv x) (fun x=>p x) (fun x=>μ x) z1 h0 hL hX (fun x hp=>round x hp)
theorem Gp {A1:Type} {c:Code} {K:Act->World->Prop} (Lv:A1->Env) (Xv:A1->World->Prop) (p:A1->Prop) (h1:Pre n L X (c.wp P (Exit.then (Xk n (fun x:A1=>Lv x) (fun x=>Xv x) (fun x=>p x)) Q))) (h2:∀a1,p a1->Pre n (Lv a1) (Xv a1) K):Pre n L X (c.wp P (Exit.then K Q)) :=
 fun a w k x=>wp_mono (h1 a w k x) (fun e a' w' hq=>by
  cases e<;>first|(obtain⟨b,hp,hk,hx⟩:=hq; exact h2 _ hp a' w' hk hx)|exact hq)
theorem CN {A1 A2:Type} {c:Code} (Lv:A1->A2->Env) (Xv:A1->A2->World->Prop) (p:A1->A2->Prop) (μ:A1->A2->Nat) (z1:A1) (z2:A2) (h0:p z1 z2) (hL:Sub (Lv z1 z2) L) (hX:∀w,X w->Xv z1 z2 w)
 (round:∀a1 a2,p a1 a2->Pre n (Lv a1 a2) (Xv a1 a2) (c.wp P (Exit.then (IL n (fun x:A1×A2=>μ (x.1) (x.2)) (fun x=>Lv (x.1) (x.2)) (fun x=>Xv (x.1) (x.2)) (fun x=>p (x.1) (x.2)) (μ a1 a2)) Q))):Pre n L X ((Code.loop c).wp P Q) :=
 H3 (α:=A1×A2) (fun x=>Lv (x.1) (x.2)) (fun x=>Xv (x.1) (x.2)) (fun x=>p (x.1) (x.2)) (fun x=>μ (x.1) (x.2)) (z1,z2) h0 hL hX (fun x hp=>round (x.1) (x.2) hp)
theorem DC {A1 A2:Type} {c:Code} {K:Act->World->Prop} (Lv:A1->A2->Env) (Xv:A1->A2->World->Prop) (p:A1->A2->Prop) (h1:Pre n L X (c.wp P (Exit.then (Xk n (fun x:A1×A2=>Lv (x.1) (x.2)) (fun x=>Xv (x.1) (x.2)) (fun x=>p (x.1) (x.2))) Q))) (h2:∀a1 a2,p a1 a2->Pre n (Lv a1 a2) (Xv a1 a2) K):Pre n L X (c.wp P (Exit.then K Q)) :=
 fun a w k x=>wp_mono (h1 a w k x) (fun e a' w' hq=>by
  cases e<;>first|(obtain⟨b,hp,hk,hx⟩:=hq; exact h2 _ _ hp a' w' hk hx)|exact hq)
theorem E3 {A1 A2 A3:Type} {c:Code} (Lv:A1->A2->A3->Env) (Xv:A1->A2->A3->World->Prop) (p:A1->A2->A3->Prop) (μ:A1->A2->A3->Nat) (z1:A1) (z2:A2) (z3:A3) (h0:p z1 z2 z3) (hL:Sub (Lv z1 z2 z3) L) (hX:∀w,X w->Xv z1 z2 z3 w)
 (round:∀a1 a2 a3,p a1 a2 a3->Pre n (Lv a1 a2 a3) (Xv a1 a2 a3) (c.wp P (Exit.then (IL n (fun x:A1×A2×A3=>μ (x.1) (x.2.1) (x.2.2)) (fun x=>Lv (x.1) (x.2.1) (x.2.2)) (fun x=>Xv (x.1) (x.2.1) (x.2.2)) (fun x=>p (x.1) (x.2.1) (x.2.2)) (μ a1 a2 a3)) Q))):Pre n L X ((Code.loop c).wp P Q) :=
 H3 (α:=A1×A2×A3) (fun x=>Lv (x.1) (x.2.1) (x.2.2)) (fun x=>Xv (x.1) (x.2.1) (x.2.2)) (fun x=>p (x.1) (x.2.1) (x.2.2)) (fun x=>μ (x.1) (x.2.1) (x.2.2)) (z1,z2,z3) h0 hL hX (fun x hp=>round (x.1) (x.2.1) (x.2.2) hp)
theorem Xm {A1 A2 A3:Type} {c:Code} {K:Act->World->Prop} (Lv:A1->A2->A3->Env) (Xv:A1->A2->A3->World->Prop) (p:A1->A2->A3->Prop) (h1:Pre n L X (c.wp P (Exit.then (Xk n (fun x:A1×A2×A3=>Lv (x.1) (x.2.1) (x.2.2)) (fun x=>Xv (x.1) (x.2.1) (x.2.2)) (fun x=>p (x.1) (x.2.1) (x.2.2))) Q))) (h2:∀a1 a2 a3,p a1 a2 a3->Pre n (Lv a1 a2 a3) (Xv a1 a2 a3) K):Pre n L X (c.wp P (Exit.then K Q)) :=
 fun a w k x=>wp_mono (h1 a w k x) (fun e a' w' hq=>by
  cases e<;>first|(obtain⟨b,hp,hk,hx⟩:=hq; exact h2 _ _ _ hp a' w' hk hx)|exact hq)
theorem Xn {A1 A2 A3 A4:Type} {c:Code} (Lv:A1->A2->A3->A4->Env) (Xv:A1->A2->A3->A4->World->Prop) (p:A1->A2->A3->A4->Prop) (μ:A1->A2->A3->A4->Nat) (z1:A1) (z2:A2) (z3:A3) (z4:A4) (h0:p z1 z2 z3 z4) (hL:Sub (Lv z1 z2 z3 z4) L) (hX:∀w,X w->Xv z1 z2 z3 z4 w)
 (round:∀a1 a2 a3 a4,p a1 a2 a3 a4->Pre n (Lv a1 a2 a3 a4) (Xv a1 a2 a3 a4) (c.wp P (Exit.then (IL n (fun x:A1×A2×A3×A4=>μ (x.1) (x.2.1) (x.2.2.1) (x.2.2.2)) (fun x=>Lv (x.1) (x.2.1) (x.2.2.1) (x.2.2.2)) (fun x=>Xv (x.1) (x.2.1) (x.2.2.1) (x.2.2.2)) (fun x=>p (x.1) (x.2.1) (x.2.2.1) (x.2.2.2)) (μ a1 a2 a3 a4)) Q))):Pre n L X ((Code.loop c).wp P Q) :=
 H3 (α:=A1×A2×A3×A4) (fun x=>Lv (x.1) (x.2.1) (x.2.2.1) (x.2.2.2)) (fun x=>Xv (x.1) (x.2.1) (x.2.2.1) (x.2.2.2)) (fun x=>p (x.1) (x.2.1) (x.2.2.1) (x.2.2.2)) (fun x=>μ (x.1) (x.2.1) (x.2.2.1) (x.2.2.2)) (z1,z2,z3,z4) h0 hL hX (fun x hp=>round (x.1) (x.2.1) (x.2.2.1) (x.2.2.2) hp)
theorem L7 {A1 A2 A3 A4 A5:Type} {c:Code} (Lv:A1->A2->A3->A4->A5->Env) (Xv:A1->A2->A3->A4->A5->World->Prop) (p:A1->A2->A3->A4->A5->Prop) (μ:A1->A2->A3->A4->A5->Nat) (z1:A1) (z2:A2) (z3:A3) (z4:A4) (z5:A5) (h0:p z1 z2 z3 z4 z5) (hL:Sub (Lv z1 z2 z3 z4 z5) L) (hX:∀w,X w->Xv z1 z2 z3 z4 z5 w)
 (round:∀a1 a2 a3 a4 a5,p a1 a2 a3 a4 a5->Pre n (Lv a1 a2 a3 a4 a5) (Xv a1 a2 a3 a4 a5) (c.wp P (Exit.then (IL n (fun x:A1×A2×A3×A4×A5=>μ (x.1) (x.2.1) (x.2.2.1) (x.2.2.2.1) (x.2.2.2.2)) (fun x=>Lv (x.1) (x.2.1) (x.2.2.1) (x.2.2.2.1) (x.2.2.2.2)) (fun x=>Xv (x.1) (x.2.1) (x.2.2.1) (x.2.2.2.1) (x.2.2.2.2)) (fun x=>p (x.1) (x.2.1) (x.2.2.1) (x.2.2.2.1) (x.2.2.2.2)) (μ a1 a2 a3 a4 a5)) Q))):Pre n L X ((Code.loop c).wp P Q) :=
 H3 (α:=A1×A2×A3×A4×A5) (fun x=>Lv (x.1) (x.2.1) (x.2.2.1) (x.2.2.2.1) (x.2.2.2.2)) (fun x=>Xv (x.1) (x.2.1) (x.2.2.1) (x.2.2.2.1) (x.2.2.2.2)) (fun x=>p (x.1) (x.2.1) (x.2.2.1) (x.2.2.2.1) (x.2.2.2.2)) (fun x=>μ (x.1) (x.2.1) (x.2.2.1) (x.2.2.2.1) (x.2.2.2.2)) (z1,z2,z3,z4,z5) h0 hL hX (fun x hp=>round (x.1) (x.2.1) (x.2.2.1) (x.2.2.2.1) (x.2.2.2.2) hp)
theorem Xo {A1 A2 A3 A4 A5 A6 A7 A8 A9:Type} {c:Code} (Lv:A1->A2->A3->A4->A5->A6->A7->A8->A9->Env) (Xv:A1->A2->A3->A4->A5->A6->A7->A8->A9->World->Prop) (p:A1->A2->A3->A4->A5->A6->A7->A8->A9->Prop) (μ:A1->A2->A3->A4->A5->A6->A7->A8->A9->Nat) (z1:A1) (z2:A2) (z3:A3) (z4:A4) (z5:A5) (z6:A6) (z7:A7) (z8:A8) (z9:A9) (h0:p z1 z2 z3 z4 z5 z6 z7 z8 z9) (hL:Sub (Lv z1 z2 z3 z4 z5 z6 z7 z8 z9) L) (hX:∀w,X w->Xv z1 z2 z3 z4 z5 z6 z7 z8 z9 w)
 (round:∀a1 a2 a3 a4 a5 a6 a7 a8 a9,p a1 a2 a3 a4 a5 a6 a7 a8 a9->Pre n (Lv a1 a2 a3 a4 a5 a6 a7 a8 a9) (Xv a1 a2 a3 a4 a5 a6 a7 a8 a9) (c.wp P (Exit.then (IL n (fun x:A1×A2×A3×A4×A5×A6×A7×A8×A9=>μ (x.1) (x.2.1) (x.2.2.1) (x.2.2.2.1) (x.2.2.2.2.1) (x.2.2.2.2.2.1) (x.2.2.2.2.2.2.1) (x.2.2.2.2.2.2.2.1) (x.2.2.2.2.2.2.2.2)) (fun x=>Lv (x.1) (x.2.1) (x.2.2.1) (x.2.2.2.1) (x.2.2.2.2.1) (x.2.2.2.2.2.1) (x.2.2.2.2.2.2.1) (x.2.2.2.2.2.2.2.1) (x.2.2.2.2.2.2.2.2)) (fun x=>Xv (x.1) (x.2.1) (x.2.2.1) (x.2.2.2.1) (x.2.2.2.2.1) (x.2.2.2.2.2.1) (x.2.2.2.2.2.2.1) (x.2.2.2.2.2.2.2.1) (x.2.2.2.2.2.2.2.2)) (fun x=>p (x.1) (x.2.1) (x.2.2.1) (x.2.2.2.1) (x.2.2.2.2.1) (x.2.2.2.2.2.1) (x.2.2.2.2.2.2.1) (x.2.2.2.2.2.2.2.1) (x.2.2.2.2.2.2.2.2)) (μ a1 a2 a3 a4 a5 a6 a7 a8 a9)) Q))):Pre n L X ((Code.loop c).wp P Q) :=
 H3 (α:=A1×A2×A3×A4×A5×A6×A7×A8×A9) (fun x=>Lv (x.1) (x.2.1) (x.2.2.1) (x.2.2.2.1) (x.2.2.2.2.1) (x.2.2.2.2.2.1) (x.2.2.2.2.2.2.1) (x.2.2.2.2.2.2.2.1) (x.2.2.2.2.2.2.2.2)) (fun x=>Xv (x.1) (x.2.1) (x.2.2.1) (x.2.2.2.1) (x.2.2.2.2.1) (x.2.2.2.2.2.1) (x.2.2.2.2.2.2.1) (x.2.2.2.2.2.2.2.1) (x.2.2.2.2.2.2.2.2)) (fun x=>p (x.1) (x.2.1) (x.2.2.1) (x.2.2.2.1) (x.2.2.2.2.1) (x.2.2.2.2.2.1) (x.2.2.2.2.2.2.1) (x.2.2.2.2.2.2.2.1) (x.2.2.2.2.2.2.2.2)) (fun x=>μ (x.1) (x.2.1) (x.2.2.1) (x.2.2.2.1) (x.2.2.2.2.1) (x.2.2.2.2.2.1) (x.2.2.2.2.2.2.1) (x.2.2.2.2.2.2.2.1) (x.2.2.2.2.2.2.2.2)) (z1,z2,z3,z4,z5,z6,z7,z8,z9) h0 hL hX (fun x hp=>round (x.1) (x.2.1) (x.2.2.1) (x.2.2.2.1) (x.2.2.2.2.1) (x.2.2.2.2.2.1) (x.2.2.2.2.2.2.1) (x.2.2.2.2.2.2.2.1) (x.2.2.2.2.2.2.2.2) hp)
end
end Go.Sep
namespace Go.Sep
open Go.Proofs.YtloldofjddbjoaaGreat
theorem T7 {α:Type} {w:World} {B:Nat} {A:Option Addr} {E:Enc α} {l:List α} {c:Nat} (h:Rd w B A (E.flat l)) (hc:l.length<=c):RdV w (.slice A l.length c) E l:=by
 refine⟨A,c,rfl,hc,?_⟩
 by_cases h0:E.flat l=[]
 · left
   have h1:=E.fa l
   rw[h0,jn] at h1
   have:=E.pos
   rcases gw.1 h1.symm with h2|h2
   · exact fS h2
   · omega
 · right
   obtain⟨b,off,e,_,hk⟩:=h h0
   exact⟨b,off,e,hk⟩
theorem Xp {α:Type} (E:Enc α) {ks:List Sc} {W:α->Prop} (hk:ks.length=E.sz) (one:∀cs,Kinds ks cs->∃a,cs=E.f a/\W a):∀(n:Nat) (xs:List Value),xs.length=n*ks.length->(∀i,i<n->Kinds ks ((xs.drop (i*ks.length)).take ks.length))->∃l:List α,xs=E.flat l/\l.length=n/\∀a∈l,W a
 |0,xs,h,_=>⟨[],fS (by simpa using h),rfl,by simp⟩
 |n+1,xs,h,hc=>by
  obtain⟨a,ha,hw⟩:=one _ (hc 0 (by omega))
  rw[Nat.zero_mul,fV] at ha
  obtain⟨l,hl,hn,hW⟩:=Xp E hk one n (xs.drop ks.length) (by rw[fK,h,fW]; omega) (fun i hi=>by
   have:=hc (i+1) (by omega)
   rw[fX]
   rwa[show ks.length+i*ks.length=(i+1)*ks.length from by rw[fW]; omega])
  refine⟨a::l,?_,by simp[hn],fun b hb=>by rcases fq.1 hb with rfl|hb; exact hw; exact hW b hb⟩
  rw[E.fo,<-hl,<-ha,gP]
theorem K5 {α:Type} (E:Enc α) (f:α->Value) (hE:∀a,E.f a=[f a]) (l:List α):E.flat l=l.map f:=by
 induction l with
 |nil=>rfl
 |cons a l ih=>rw[E.fo,hE,ih]; rfl
theorem wf_u8 {a:Int} (h:(Lit.int .u8 a).wf=true):0<=a/\a<=255:=by
 simp only[Lit.wf,gQ,ia] at h
 exact⟨h.1,h.2⟩
theorem wf_u64 {a:Int} (h:(Lit.int .u64 a).wf=true):0<=a/\a<=18446744073709551615:=by
 simp only[Lit.wf,gQ,ia] at h
 exact⟨h.1,h.2⟩
theorem T8 {α:Type} {w:World} {a:Option Addr} {c:Nat} (E:Enc α):RdV w (.slice a 0 c) E ([]:List α):=⟨a,c,rfl,gb _,.inl rfl⟩
def rdE {α:Type} (w0:World) (s:Bool) (v:Value) (t:TypeId) (E:Enc α) (l:List α):Ent:=if s then Az v t E l else⟨none,fun _=>RdV w0 v E l⟩
theorem St.rdE {α:Type} {w0 w:World} {H:List Ent} {s:Bool} {v:Value} {t:TypeId} {E:Enc α} {l:List α} (h:St w0 [] H w) (i:Nat) (hi:H[i]?=some (Sep.rdE w0 s v t E l)):RdV w v E l:=by
 have hat:=h.at i hi
 cases s with
 |true=>exact BO hat
 |false=>exact RdV.keep (hat:RdV w0 v E l) h (by simp)
theorem T9 {P:Program} {f:FuncId} {vs:List Value} {E:World->Prop} {w:World} (s:Con P f vs E [] (fun _:Unit=>.bool true) (fun _=>True) (fun _=>[])) (hE:E w):Calls P f vs.toArray w (fun e w'=>e=.returned (.bool true)/\Go.RowKit.Below w.heap.size w w') :=
 (s w hE (HP.nil w)).mono (fun e w' ⟨b,he,_,h⟩=>⟨he,St.below h⟩)
end Go.Sep
namespace Go.Sep
open Go.RowKit Go.Proofs.YtloldofjddbjoaaGreat
open Go.Instr
section
variable {P:Program} {n:Nat} {L:Env} {X:World->Prop} {o:Oper}
theorem Hn {t:TypeId} {x:Operand} {v:Value} {d:TypeDesc} (ho:o.op=.makeInterface t x) (ht:P.underlying t=some d) (hd:∀ms,d≠.interface ms) (hx:ev L x=some v):QOp P n L X o (.iface t v) :=
 QOp.mk (fun a=>Instr.makeInterface t (a.eval x)) (fun a=>by simp[execOp,ho]) (fun a w hk _=>by
  rw[hk.eval hx]
  unfold Instr.makeInterface
  simp only[gx,AT ht]
  cases d with
  |interface ms=>exact absurd rfl (hd ms)
  |_=>rfl)
theorem Cw {t u:TypeId} {x:Operand} {v:Value} {d:TypeDesc} (ho:o.op=.typeAssert x t u true) (ht:P.underlying u=some d) (hd:∀ms,d≠.interface ms) (hx:ev L x=some (.iface u v)):QOp P n L X o (.tuple #[v,.bool true]) :=
 QOp.mk (fun a=>Instr.typeAssert (a.eval x) t u true) (fun a=>by simp[execOp,ho]) (fun a w hk _=>by
  rw[hk.eval hx]
  unfold Instr.typeAssert
  simp only[gx,AT ht]
  cases d with
  |interface ms=>exact absurd rfl (hd ms)
  |_=>simp)
theorem CO {t u s:TypeId} {x:Operand} {v z:Value} {d:TypeDesc} (ho:o.op=.typeAssert x t u true) (ht:P.underlying u=some d) (hd:∀ms,d≠.interface ms) (hx:ev L x=some (.iface s v)) (hs:s≠u) (hz:∀w,(zeroValue u).run P w=.ok z w):QOp P n L X o (.tuple #[z,.bool false]) :=
 QOp.mk (fun a=>Instr.typeAssert (a.eval x) t u true) (fun a=>by simp[execOp,ho]) (fun a w hk _=>by
  rw[hk.eval hx]
  unfold Instr.typeAssert
  simp only[gx,AT ht]
  cases d with
  |interface ms=>exact absurd rfl (hd ms)
  |_=>simp[hs,hz w])
variable {Q:Exit->Act->World->Prop} {K:Act->World->Prop}
theorem Xq {β:Type} {v:β->Value} {p:β->Prop} {X':β->World->Prop} {f:FuncId} {d:Nat} {vs:List Value} (hd:o.dst=some d) (hn:d.blt n=true)
 (hrun:∀a w,Know n L a->X w->(execOp a.eval o).run P w=.ok (.enter f vs.toArray) w)
 (hs:∀w,X w->Calls P f vs.toArray w (fun e w'=>∃b,e=.returned (v b)/\p b/\X' b w')) (h:∀b,p b->Pre n ((d,v b)::L) (X' b) K):EOp P n L X o Q K:=fun a w k x=>by
 show o.upon P a K Q ((execOp a.eval o).run P w)
 rw[hrun a w k x]
 show Calls P f vs.toArray w _
 refine (hs w x).mono ?_
 rintro e w' ⟨b,rfl,hp,hx⟩
 show K (a.put o.dst (v b)) w'
 rw[hd]
 exact h b hp _ _ (k.put _ hn) hx
theorem Pj {r:Operand} {name:String} {xs:List Operand} {ts:Array TypeId} {t:TypeId} {x:Value} {us:List Value} {f:FuncId} {vs:List Value} (ho:o.op=.call ⟨.invoke r name,xs.toArray,ts⟩) (hr:ev L r=some (.iface t x)) (hv:evs L xs=some us)
 (hm:∀w,(callMethod (.iface t x) name us.toArray).run P w=.ok (.enter f vs.toArray) w) (a:Act) (w:World) (k:Know n L a):(execOp a.eval o).run P w=.ok (.enter f vs.toArray) w:=by
 have hargs:(xs.toArray.map a.eval)=us.toArray:=by rw[gA,k.evals hv]
 have hx:((#[Value.iface t x]++us.toArray).extract 1 (#[Value.iface t x]++us.toArray).size)=us.toArray:=by simp
 have h0:(#[Value.iface t x]++us.toArray)[0]?=some (.iface t x):=by simp
 simp only[execOp,ho,resolve,gx,gy,gz,invoke,hargs,k.eval hr,h0,hx,hm]
end
end Go.Sep
namespace Go.Proofs.YtloldofjddbjoaaGreat
open Go.Sep Go.RowKit
variable {l:Nat} {J:Act->World->Prop}
section
variable {P:Program} {n:Nat} {L:Env} {X:World->Prop} {Q:Exit->Act->World->Prop}
theorem Gq {c rest:Code} (l:Nat) (hf:findLabel c l=some rest) (h:Pre n L X (c.wp P (Exit.jump l (rest.wp P (Exit.noGoto Q)) Q))):Pre n L X ((Code.scope c).wp P Q):=fun a w k x =>
 wp_scope_jumps l _ (fun _ _=>0) hf (h a w k x) (fun a w hJ=>wp_mono hJ (fun e a' w' hq=>by
  cases e<;>first|exact hq|exact hq.elim))
theorem QR (h:Pre n L X (Q .normal)):Pre n L X ((Code.label l).wp P Q):=fun a w k x=>wp_label (h a w k x)
theorem Fy (h:Pre n L X (Q (.goto l))):Pre n L X ((Code.goto l).wp P Q):=fun a w k x=>wp_goto (h a w k x)
theorem CP {K:Act->World->Prop} (h:Pre n L X (Q (.goto l))):Pre n L X (Exit.then K Q (.goto l)):=h
theorem Cx {id:Nat} (h:Pre n L X (Q (.goto l))):Pre n L X (Exit.inBlock id Q (.goto l)):=h
theorem CQ (h:Pre n L X J):Pre n L X (Exit.jump l J Q (.goto l)):=fun a w k x=>⟨rfl,h a w k x⟩
theorem JA (h:Pre n L X (Q .ret)):Pre n L X (Exit.jump l J Q .ret):=h
theorem Cy (h:Pre n L X (Q .ret)):Pre n L X (Exit.noGoto Q .ret):=h
theorem Fz (h:Eg Q):Eg (Exit.jump l J Q):=fun c a d v w hq=>h c a d v w hq
end
end Go.Proofs.YtloldofjddbjoaaGreat
namespace Go.Sep
section tail
variable {P:Program} {ops:Array Oper} {Q:Exit->Act->World->Prop} {md:Region.Mode} {S:World->Prop} {T:List Nat}
def FA (md:Region.Mode) (ops:Array Oper) (T:List Nat):Bool:=T.all (fun t=>(List.range ops.size).all (fun i=>T.contains i||FW md ops i 8 t))
theorem L8 {listed:Array Bool} (h:FA md ops T=true) (hc:Eo md ops listed) {t i:Nat} (ht:T.contains t=true) (hi:T.contains i=false) (hlt:i<ops.size) (hr:t∈Region.ready md ops listed):listed.getD i false=true:=by
 have h1:=iD.1 (iD.1 h t (by simpa using ht)) i (gk.2 hlt)
 rw[hi,Bool.false_or] at h1
 obtain⟨_,ot,hot,hall⟩:=mem_ready.1 hr
 exact Fu hc 8 t h1 (fun o ho=>by rw[hot] at ho; cases ho; exact hall)
theorem KM {i:Nat} {oi:Oper} {v:Value} (hi:ops[i]?=some oi) (hT:FA md ops T=true) (hiT:T.contains i=false) (hsel:∀(j:Nat) (o:Oper) cs b,ops[j]?=some o->o.op≠.select cs b)
 (hQ:∀c a w,Q (.panic c) (a.put oi.dst v) w->Q (.panic c) a w) :
 ∀(fuel:Nat) (listed:Array Bool) (a:Act) (w:World),Eo md ops listed ->
  (∀j oj,ops[j]?=some oj->j≠i->listed.getD j true=false->(∀e∈oj.after,Region.binds md e=true->e.on≠i)->oi.apart ops oj=true) ->
  i∈Region.ready md ops listed->YieldsIf P ops S oi v a->S w ->
  Du P md ops Q S T fuel (listed.setIfInBounds i true) (a.put oi.dst v) w->Du P md ops Q S T (fuel+1) listed a w:=by
 intro fuel
 induction fuel with
 |zero =>
  intro listed a w _ _ hr hy hS H
  refine⟨fun h=>(by rw[h] at hr; cases hr),fun j hj=>?_⟩
  by_cases hji:j=i
  · subst hji; exact hy.wpOp hi hS ⟨fun _=>hS,H⟩
  · have:=ready_mono hj hji
    rw[H.1] at this
    cases this
 |succ fuel ih =>
  intro listed a w hcl hfree hr hy hS H
  refine⟨fun h=>(by rw[h] at hr; cases hr),fun j hj=>?_⟩
  by_cases hji:j=i
  · subst hji; exact hy.wpOp hi hS ⟨fun _=>hS,H⟩
  · have h1:=H.2 j (ready_mono hj hji)
    obtain⟨hjun,oj,hoj,hall⟩:=mem_ready.1 hj
    have hnl:listed.getD i false≠true:=fun h1=>by
     have h0:=(mem_ready.1 hr).1
     rcases fG i listed.size with h'|h'
     · simp[h'] at h0 h1; rw[h0] at h1; cases h1
     · simp[gG h'] at h1
    have hnot:∀e∈oj.after,Region.binds md e=true->e.on≠i:=fun e he hb heq=>hnl (heq▸hall e he hb)
    have hjT:T.contains j=false:=by
     cases hc:T.contains j with
     |false=>rfl
     |true=>exact absurd (L8 hT hcl hc hiT (fY.1 hi).1 hj) hnl
    have h2:=wpOp_putIf hoj (hfree j oj hoj hji hjun hnot) (fun cs b=>hsel i oi cs b hi) (fun cs b=>hsel j oj cs b hoj) hQ hy h1
    have hfree':∀k ok,ops[k]?=some ok->k≠i->(listed.setIfInBounds j true).getD k true=false ->
     (∀e∈ok.after,Region.binds md e=true->e.on≠i)->oi.apart ops ok=true:=fun k ok hk hki hun hno=>by
     refine hfree k ok hk hki ?_ hno
     by_cases hjk:j=k
     · subst hjk; exact hjun
     · rw[getD_set_ne true hjk] at hun; exact hun
    refine wpOp_mono (fun a' w' h3=>⟨h3.2.1,ih (listed.setIfInBounds j true) a' w' (Ck hcl hj) hfree' (ready_mono hr (iA hji)) h3.1 (h3.2.1 hjT) ?_⟩) h2
    rw[Array.setIfInBounds_comm _ _ hji]
    exact h3.2.2
end tail
theorem R7 {P:Program} {ops:Array Oper} {Q:Exit->Act->World->Prop} {S:World->Prop} {T:List Nat} {i:Nat} {oi:Oper} {v:Value} {fuel:Nat} {listed:Array Bool} {a:Act} {w:World} (hcl:Eo .any ops listed) (hi:ops[i]?=some oi) (hT:FA .any ops T=true) (hiT:T.contains i=false)
 (hs:Region.noSelect ops=true) (hf:Region.free .any ops listed i=true) (hr:(Region.ready .any ops listed).contains i=true)
 (hQ:∀c a w,Q (.panic c) (a.put oi.dst v) w->Q (.panic c) a w) (hy:YieldsIf P ops S oi v a) (hS:S w)
 (h:Du P .any ops Q S T fuel (listed.setIfInBounds i true) (a.put oi.dst v) w):Du P .any ops Q S T (fuel+1) listed a w :=
 KM hi hT hiT (Region.noSelect_spec hs) hQ fuel listed a w hcl (Region.free_spec hi hf) (by simpa using hr) hy hS h
theorem Ng {P:Program} {ops:Array Oper} {Q:Exit->Act->World->Prop} {S:World->Prop} {T:List Nat} {i:Nat} {fuel:Nat} {listed:Array Bool} {a:Act} {w:World} (hr:Region.ready .any ops listed=[i])
 (h:wpOp P ops Q i (fun a' w'=>(T.contains i=false->S w')/\Du P .any ops Q S T fuel (listed.setIfInBounds i true) a' w') a w):Du P .any ops Q S T (fuel+1) listed a w :=
 ⟨fun h0=>(by rw[h0] at hr; cases hr),fun j hj=>by rw[hr] at hj; simp only[iE] at hj; subst hj; exact h⟩
theorem D3 {P:Program} {ops:Array Oper} {Q:Exit->Act->World->Prop} (hB:Eg Q) {S:World->Prop} {T:List Nat} (hT:FA .any ops T=true) (hs:Region.noSelect ops=true):∀(ord:List (Nat×Dv)) (l:List (Oper×Dv)) (listed:Array Bool) (a:Act) (w:World),
 l.map (fun x=>some x.1)=ord.map (fun x=>ops[x.1]?)->l.map (·.2)=ord.map (·.2)->Cv ops T ord listed=true->Eo .any ops listed->(S w\/(ord.all (fun x=>match x.2 with|none=>true|_=>false))=true)->wpD P ops Q S l a w->Du P .any ops Q S T ord.length listed a w
 |[],l,listed,a,w,h1,h2,h3,hcl,hS,hw=>by
  cases l with
  |nil=>exact⟨by simpa [Cv] using h3,hw⟩
  |cons x l=>simp at h1
 |(i,q)::ord,[],listed,a,w,h1,h2,h3,hcl,hS,hw=>by simp at h1
 |(i,q)::ord,(o,q')::l,listed,a,w,h1,h2,h3,hcl,hS,hw=>by
  simp only[gB,List.cons.injEq] at h1 h2
  obtain⟨ho,h1⟩:=h1
  obtain⟨rfl,h2⟩:=h2
  match q',h2,h3,hS,hw with
  |some true,h2,h3,hS,hw =>
   simp only[Cv,gQ,iF] at h3
   obtain⟨⟨⟨hiT,hf⟩,hr⟩,h3⟩:=h3
   have hS':S w:=hS.resolve_right (by simp)
   obtain⟨v,hy,hw⟩:=hw
   have hri:i∈Region.ready .any ops listed:=by simpa using hr
   exact R7 hcl ho.symm hT hiT hs hf hr (fun c a w h=>hB c a _ _ w h) hy hS' (D3 hB hT hs ord l _ _ _ h1 h2 h3 (Ck hcl hri) (.inl hS') hw)
  |some false,h2,h3,hS,hw =>
   simp only[Cv,gQ,iC] at h3
   obtain⟨hr,h3⟩:=h3
   have hS':S w:=hS.resolve_right (by simp)
   have hri:i∈Region.ready .any ops listed:=by rw[hr]; exact iG ..
   refine Ng hr ?_
   unfold wpOp
   rw[<-ho]
   simp only
   unfold wpD at hw
   split
   · rename_i hq
     rw[fO hq] at hw
     exact .inl (Oper.wp_mono (fun a w h=>⟨fun _=>h.1,D3 hB hT hs ord l _ _ _ h1 h2 h3 (Ck hcl hri) (.inl h.1) h.2⟩) hw)
   · rename_i hq
     rw[fR hq] at hw
     exact⟨fun _=>hS',D3 hB hT hs ord l _ _ _ h1 h2 h3 (Ck hcl hri) (.inl hS') hw⟩
  |none,h2,h3,hS,hw =>
   simp only[Cv,gQ,iC] at h3
   obtain⟨⟨⟨hiT,hr⟩,hall⟩,h3⟩:=h3
   have hri:i∈Region.ready .any ops listed:=by rw[hr]; exact iG ..
   refine Ng hr ?_
   unfold wpOp
   rw[<-ho]
   simp only
   unfold wpD at hw
   split
   · rename_i hq
     rw[fO hq] at hw
     exact .inl (Oper.wp_mono (fun a w h=>⟨fun hc=>(by rw[hiT] at hc; cases hc),D3 hB hT hs ord l _ _ _ h1 h2 h3 (Ck hcl hri) (.inr hall) h⟩) hw)
   · rename_i hq
     rw[fR hq] at hw
     exact⟨fun hc=>(by rw[hiT] at hc; cases hc),D3 hB hT hs ord l _ _ _ h1 h2 h3 (Ck hcl hri) (.inr hall) hw⟩
section region
variable {P:Program} {n:Nat} {L:Env} {X:World->Prop} {Q:Exit->Act->World->Prop} {ops:Array Oper}
theorem Gs {id:Nat} {l0:List Oper} (ord:List (Nat×Dv)) (T:List Nat) (l:List (Oper×Dv)) (S:World->Prop) (hB:Eg Q) (hm:P.follows .mixedOrders=true) (hs:Region.noSelect l0.toArray=true) (hT:FA .any l0.toArray T=true) (hl:ord.length=l0.length)
 (h1:l.map (fun x=>some x.1)=ord.map (fun x=>l0[x.1]?)) (h2:l.map (·.2)=ord.map (·.2)) (hok:Cv l0.toArray T ord (Array.replicate l0.length false)=true)
 (hd:IN X) (hS:∀w,X w->S w) (h:Pre n L X (wpD P l0.toArray Q S l)):Pre n L X ((Code.region id l0.toArray true).wp P Q):=fun a w k x=>by
 refine wp_region_any hm (GP (S:=S) (T:=T) _ _ _ _ ?_)
 have h1':l.map (fun x=>some x.1)=ord.map (fun x=>l0.toArray[x.1]?):=by simpa using h1
 rw[List.size_toArray,<-hl]
 exact D3 hB hT hs ord l _ a _ h1' h2 (by rw[hl]; exact hok) (by rw[hl]; simpa using IM (ops:=l0.toArray)) (.inl (hS _ (hd w _ x))) (h a _ k (hd w _ x))
end region
end Go.Sep
namespace Go.Sep
section anyC
variable {P:Program} {n:Nat} {L:Env} {X:World->Prop} {Q:Exit->Act->World->Prop} {S:World->Prop} {T:List Nat} {l:List Oper} {listed:Array Bool} {k:Nat}
end anyC
section
variable {P:Program} {n:Nat} {L:Env} {X:World->Prop} {o:Oper}
theorem q_addS {t u:TypeId} {x y:Operand} {p q:ByteArray} (ho:o.op=.binOp .add t x y u) (hx:ev L x=some (.string p)) (hy:ev L y=some (.string q)) (hb:p.size+q.size<=9223372036854775807):QOp P n L X o (.string (p++q)) :=
 CW ho hx hy (fun w _=>by
  have h:(binOp .add t (.string p) (.string q)).run P w=.ok (.string (p++q)) w:=by
   have hb':¬((p.size+q.size:Nat):Int)>IntKind.i64.max:=by
    show ¬((p.size+q.size:Nat):Int)>9223372036854775807
    omega
   show (Go.Op.stringOp .add p q).run P w=_
   unfold Go.Op.stringOp
   simp only[fR hb']; rfl
  exact DQ rfl h)
end
end Go.Sep
namespace Go.Sep
theorem I.{u} {α:Sort u} {a:α}:a=a:=rfl
section short
variable {P:Program} {n:Nat} {L:Env} {X:World->Prop} {Q:Exit->Act->World->Prop} {ops:Array Oper} {o:Oper} {rest:List Oper} {restD:List (Oper×Dv)} {S:World->Prop} {v:Value} {d:Nat} {x:Operand} {p:Addr}
theorem Lq (h:(o.dst,Cf ops L o,d.blt n)=(some d,some true,true)) (hq:QOp P n L X o v) (k:Pre n ((d,v)::L) X (wpL P ops Q rest)):Pre n L X (wpL P ops Q (o::rest)):=by
 simp only[Prod.mk.injEq] at h
 exact l_q h.1 hq h.2.1 h.2.2 k
theorem Lm (h:(o.dst,o.op,ev L x,Cf ops L o,d.blt n)=(some d,Op.move x,some v,some true,true)) (k:Pre n ((d,v)::L) X (wpL P ops Q rest)):Pre n L X (wpL P ops Q (o::rest)):=by
 simp only[Prod.mk.injEq] at h
 exact l_q h.1 (A0 h.2.1 h.2.2.1) h.2.2.2.1 h.2.2.2.2 k
theorem Las (h:(o.dst,o.op,ev L x,Cf ops L o,d.blt n)=(some d,Op.assign x,some v,some true,true)) (k:Pre n ((d,v)::L) X (wpL P ops Q rest)):Pre n L X (wpL P ops Q (o::rest)):=by
 simp only[Prod.mk.injEq] at h
 exact l_q h.1 (AE h.2.1 h.2.2.1) h.2.2.2.1 h.2.2.2.2 k
theorem Lc (h:(o.dst,o.op,ev L x,Cf ops L o,d.blt n)=(some d,Op.nilCheck x,some (.pointer (some p)),some true,true)) (k:Pre n ((d,.pointer (some p))::L) X (wpL P ops Q rest)):Pre n L X (wpL P ops Q (o::rest)):=by
 simp only[Prod.mk.injEq] at h
 exact l_q h.1 (Bt h.2.1 h.2.2.1) h.2.2.2.1 h.2.2.2.2 k
theorem Lx (h:(o.dst,Cf ops L o,d.blt n)=(some d,some false,true)) (k:Pre n ((d,undef)::L) X (wpL P ops Q rest)):Pre n L X (wpL P ops Q (o::rest)):=by
 simp only[Prod.mk.injEq] at h
 exact cF h.1 h.2.1 h.2.2 k
theorem Dq (h:(o.dst,Cf ops L o,d.blt n)=(some d,some true,true)) (hq:QOp P n L S o v) (k:Pre n ((d,v)::L) X (wpD P ops Q S restD)):Pre n L X (wpD P ops Q S ((o,some true)::restD)):=by
 simp only[Prod.mk.injEq] at h
 exact d_q h.1 hq h.2.1 h.2.2 k
theorem Dm (h:(o.dst,o.op,ev L x,Cf ops L o,d.blt n)=(some d,Op.move x,some v,some true,true)) (k:Pre n ((d,v)::L) X (wpD P ops Q S restD)):Pre n L X (wpD P ops Q S ((o,some true)::restD)):=by
 simp only[Prod.mk.injEq] at h
 exact d_q h.1 (A0 h.2.1 h.2.2.1) h.2.2.2.1 h.2.2.2.2 k
theorem Das (h:(o.dst,o.op,ev L x,Cf ops L o,d.blt n)=(some d,Op.assign x,some v,some true,true)) (k:Pre n ((d,v)::L) X (wpD P ops Q S restD)):Pre n L X (wpD P ops Q S ((o,some true)::restD)):=by
 simp only[Prod.mk.injEq] at h
 exact d_q h.1 (AE h.2.1 h.2.2.1) h.2.2.2.1 h.2.2.2.2 k
theorem Dc (h:(o.dst,o.op,ev L x,Cf ops L o,d.blt n)=(some d,Op.nilCheck x,some (.pointer (some p)),some true,true)) (k:Pre n ((d,.pointer (some p))::L) X (wpD P ops Q S restD)):Pre n L X (wpD P ops Q S ((o,some true)::restD)):=by
 simp only[Prod.mk.injEq] at h
 exact d_q h.1 (Bt h.2.1 h.2.2.1) h.2.2.2.1 h.2.2.2.2 k
theorem Dx {q:Dv} (h:(o.dst,Cf ops L o,d.blt n)=(some d,some false,true)) (k:Pre n ((d,undef)::L) X (wpD P ops Q S restD)):Pre n L X (wpD P ops Q S ((o,q)::restD)):=by
 simp only[Prod.mk.injEq] at h
 exact cG h.1 h.2.1 h.2.2 k
theorem Cr {id:Nat} {l:List Oper} (hl:ops=l.toArray) (h:Pre n L X (wpL P ops Q l)):Pre n L X ((Code.region id ops false).wp P Q):=Na l hl h
theorem Cs {id:Nat} {l:List Oper} {c:Code} (hl:ops=l.toArray) (h:Pre n L X (wpL P ops (Exit.then (c.wp P Q) Q) l)):Pre n L X ((Code.seq (Code.region id ops false) c).wp P Q):=Ag (Na l hl h)
theorem Kt {K:Act->World->Prop} (h:Pre n L X K):Pre n L X (Exit.then K Q .normal):=h
theorem Ks {c e:Code} (h:Pre n L X (c.wp P (Exit.then (e.wp P Q) Q))):Pre n L X (Exit.then ((Code.seq c e).wp P Q) Q .normal):=LZ (Ag h)
theorem Nk {K:Act->World->Prop} (h:Pre n L X K):Pre n L X (wpL P ops (Exit.then K Q) []):=AB (LZ h)
theorem Ns {c e:Code} (h:Pre n L X (c.wp P (Exit.then (e.wp P Q) Q))):Pre n L X (wpL P ops (Exit.then ((Code.seq c e).wp P Q) Q) []):=AB (LZ (Ag h))
theorem Ak {K:Act->World->Prop} (h:(o.dst,o.op,ev L x,Cf ops L o,d.blt n)=(some d,Op.assign x,some v,some true,true)) (k:Pre n ((d,v)::L) X K):Pre n L X (wpL P ops (Exit.then K Q) [o]):=Las h (AB (LZ k))
theorem Sb {F:Act->World->Prop} (t:Nat) (c:Bool) {b:Bool} (hl:look L t=some (.bool b)) (e:b=c) (h:Pre n ((t,.bool c)::L) X F):Pre n L X F:=Pre.setB hl e h
theorem Sv' {F:Act->World->Prop} (t:Nat) (c:Value) {b:Value} (hl:look L t=some b) (e:b=c) (h:Pre n ((t,c)::L) X F):Pre n L X F:=Pre.setV hl e h
theorem Hat {w0:World} {D:List Nat} {H:List Ent} {e:Ent} (i:Nat) (hi:H[i]?=some e):∀w,St w0 D H w->e.at w:=fun _ h=>h.at i hi
theorem Hrd {w0:World} {D:List Nat} {H:List Ent} {α:Type} {v:Value} {t:TypeId} {E:Enc α} {l:List α} (i:Nat) (hi:H[i]?=some (Az v t E l)):∀w,St w0 D H w->RdV w v E l:=fun _ h=>h.rd i hi
abbrev O:Dv:=some true
abbrev V:Dv:=some false
abbrev W:Dv:=none
theorem D4 {id:Nat} {l0:List Oper} (ord:List (Nat×Dv)) (T:List Nat) (l:List (Oper×Dv)) (S:World->Prop) (hm:P.follows .mixedOrders=true) (hl:ord.length=l0.length)
 (h1:l.map (fun x=>some x.1)=ord.map (fun x=>l0[x.1]?)) (h2:l.map (·.2)=ord.map (·.2)) (hd:IN X) (hS:∀w,X w->S w) (h:Pre n L X (wpD P l0.toArray Q S l)) (hB:Eg Q:=by repeat (first|exact C1|refine BY ?_|refine CM ?_)) (hs:Region.noSelect l0.toArray=true:=by kernel_rfl) (hT:GQ .any l0.toArray T=true:=by kernel_rfl) (hok:Cv l0.toArray T ord (Array.replicate l0.length false)=true:=by kernel_rfl):Pre n L X ((Code.region id l0.toArray true).wp P Q):=T0 ord T l S hB hm hs hT hl h1 h2 hok hd hS h
theorem D8 {id:Nat} {l0:List Oper} (ord:List (Nat×Dv)) (T:List Nat) (l:List (Oper×Dv)) (S:World->Prop) (hm:P.follows .mixedOrders=true) (hl:ord.length=l0.length)
 (h1:l.map (fun x=>some x.1)=ord.map (fun x=>l0[x.1]?)) (h2:l.map (·.2)=ord.map (·.2)) (hd:IN X) (hS:∀w,X w->S w) (h:Pre n L X (wpD P l0.toArray Q S l)) (hB:Eg Q:=by repeat (first|exact C1|refine BY ?_|refine CM ?_)) (hs:Region.noSelect l0.toArray=true:=by kernel_rfl) (hT:FA .any l0.toArray T=true:=by kernel_rfl) (hok:Cv l0.toArray T ord (Array.replicate l0.length false)=true:=by kernel_rfl):Pre n L X ((Code.region id l0.toArray true).wp P Q):=Gs ord T l S hB hm hs hT hl h1 h2 hok hd hS h
theorem B4:(∀(p:Prop) [Decidable p],(decide p=true)=p)/\(∀(p:Prop) [Decidable p],(decide p=false)=¬p)/\(∀b:Bool,((!b)=true)=(b=false))/\(∀b:Bool,((!b)=false)=(b=true)):=⟨fun p _=>by simp,fun p _=>by simp,fun b=>by simp,fun b=>by simp⟩
theorem Ih {α:Type} {p:α->Prop}:∀w,p w->p w:=fun _ h=>h
theorem Tt {α:Type} {p:α->Prop}:∀w,p w->True:=fun _ _=>trivial
theorem H2 {w0:World} {D:List Nat} {H:List Ent} {e f:Ent} (i j:Nat) (h:(H[i]?,H[j]?)=(some e,some f)):∀w,St w0 D H w->e.at w/\f.at w:=fun _ x=>by
 simp only[Prod.mk.injEq] at h
 exact⟨x.at i h.1,x.at j h.2⟩
theorem Sn {t:Nat} {v:Value} {A B:Env} (hl:look B t=some v) (h:Sub A B):Sub ((t,v)::A) B:=Sub.cons hl h
theorem Lfa {s:TypeId} {i b off:Nat} {fs:List Field} {f:Field} {sz:Nat} (hs:P.underlying s=some (.struct fs.toArray)) (h:(o.dst,o.op,fs[i]?,ev L x,Cf ops L o,d.blt n)=(some d,Op.fieldAddr s x i,some f,some (.pointer (some ⟨b,off,none⟩)),some true,true)) (hz:∀w,(sizeOf f.type).run P w=.ok sz w) (hnz:sz.beq 0=false) (k:Pre n ((d,.pointer (some ⟨b,off+f.offset,none⟩))::L) X (wpL P ops Q rest)):Pre n L X (wpL P ops Q (o::rest)):=by
 simp only[Prod.mk.injEq] at h
 exact l_q h.1 (Ba h.2.1 hs h.2.2.1 hz hnz h.2.2.2.1) h.2.2.2.2.1 h.2.2.2.2.2 k
theorem Dfa {s:TypeId} {i b off:Nat} {fs:List Field} {f:Field} {sz:Nat} (hs:P.underlying s=some (.struct fs.toArray)) (h:(o.dst,o.op,fs[i]?,ev L x,Cf ops L o,d.blt n)=(some d,Op.fieldAddr s x i,some f,some (.pointer (some ⟨b,off,none⟩)),some true,true)) (hz:∀w,(sizeOf f.type).run P w=.ok sz w) (hnz:sz.beq 0=false) (k:Pre n ((d,.pointer (some ⟨b,off+f.offset,none⟩))::L) X (wpD P ops Q S restD)):Pre n L X (wpD P ops Q S ((o,some true)::restD)):=by
 simp only[Prod.mk.injEq] at h
 exact d_q h.1 (Ba h.2.1 hs h.2.2.1 hz hnz h.2.2.2.1) h.2.2.2.2.1 h.2.2.2.2.2 k
theorem Lo {w0:World} {D:List Nat} {H:List Ent} {t T:TypeId} {b off:Nat} {cs:List Value} (hg:∀w,(isAgg t).run P w=.ok false w) (i:Nat) (h:(o.dst,o.op,ev L x,H[i]?,cs[off]?,Cf ops L o,d.blt n)=(some d,Op.load t x,some (.pointer (some ⟨b,off,none⟩)),some (Ad b T cs),some v,some true,true)) (k:Pre n ((d,v)::L) (St w0 D H) (wpL P ops Q rest)):Pre n L (St w0 D H) (wpL P ops Q (o::rest)):=by
 simp only[Prod.mk.injEq] at h
 exact l_q h.1 (Ao h.2.1 hg h.2.2.1 (fun _ x=>x.at i h.2.2.2.1) h.2.2.2.2.1) h.2.2.2.2.2.1 h.2.2.2.2.2.2 k
section any
variable {l:List Oper} {listed:Array Bool} {k:Nat} {T:List Nat}
theorem Aq (i:Nat) (hi:(l[i]?,o.dst,Cf l.toArray L o,d.blt n)=(some o,some d,some true,true)) (hXS:∀w,X w->S w) (hq:QOp P n L S o v)
 (h:Pre n ((d,v)::L) X (wpAnyH P .any l.toArray Q S k (listed.setIfInBounds i true))) (hB:Eg Q:=by repeat (first|exact C1|refine BY ?_|refine CM ?_)) (hs:Region.noSelect l.toArray=true:=by kernel_rfl) (hf:Region.free .any l.toArray listed i=true:=by kernel_rfl) (hr:(Region.ready .any l.toArray listed).contains i=true:=by kernel_rfl):Pre n L X (wpAnyH P .any l.toArray Q S (k+1) listed):=by
 simp only[Prod.mk.injEq] at hi
 exact a_q hB i hi.1 hs hf hr hXS hi.2.1 hq hi.2.2.1 hi.2.2.2 h
end any
end short
end Go.Sep
namespace Go.Sep
section short
variable {P:Program} {n:Nat} {L:Env} {X:World->Prop} {Q:Exit->Act->World->Prop} {ops:Array Oper} {o:Oper} {rest:List Oper} {restD:List (Oper×Dv)} {S:World->Prop} {v u:Value} {d:Nat} {x y z:Operand} {t s:TypeId} {K:Act->World->Prop} {w0:World} {D:List Nat} {H:List Ent} {k:IntKind} {p q:Int} {F:Act->World->Prop} {b:Bool}
theorem Ey {f:Nat} {fn:Func} {c:Code} {vs:List Value} {w:World} {R:Ending->World->Prop} (hf:P.funcs[f]?=some fn) (hb:(fn.body,fn.ntmps,vs.length.ble n)=(some c,n,true)) (hX:HP H w) (h:Pre n (H4 0 vs) (St w (dom H) H) (c.wp P (bodyPost P fn R))):Calls P f vs.toArray w R:=by
 simp only[Prod.mk.injEq] at hb
 exact enter (St w (dom H) H) hf hb.1 hb.2.1 hb.2.2 (St.init hX) h
theorem E0 {f:Nat} {fn:Func} {c:Code} {vs:List Value} {w:World} {R:Ending->World->Prop} (hf:P.funcs[f]?=some fn) (hb:(fn.body,fn.ntmps,vs.length.ble n)=(some c,n,true)) (hX:HP [] w) (h:Pre n (H4 0 vs) (St w [] []) (c.wp P (bodyPost P fn R))):Calls P f vs.toArray w R:=by
 simp only[Prod.mk.injEq] at hb
 exact enter (St w [] []) hf hb.1 hb.2.1 hb.2.2 (St.init hX) h
theorem Ce {b:Nat} {cs:List Value} (cs':List Value) (he:cs=cs') (k:Pre n L (St w0 D (Ad b t cs'::H)) F):Pre n L (St w0 D (Ad b t cs::H)) F:=Ay he k
theorem Pw (X':World->Prop) (h:Pre n L X' F) (s:∀w,X w->X' w:=by exact fun _ h=>h):Pre n L X F:=h.world _ s
theorem Qe (h:(o.op,ev L x,ev L y)=(.binOp .eql t x y s,some (.int k p),some (.int k q))):QOp P n L X o (.bool (decide (p=q))):=by simp only[Prod.mk.injEq] at h; exact cJ h.1 h.2.1 h.2.2
theorem Qn (h:(o.op,ev L x,ev L y)=(.binOp .neq t x y s,some (.int k p),some (.int k q))):QOp P n L X o (.bool (!decide (p=q))):=by simp only[Prod.mk.injEq] at h; exact cK h.1 h.2.1 h.2.2
theorem Ql (h:(o.op,ev L x,ev L y)=(.binOp .lss t x y s,some (.int k p),some (.int k q))):QOp P n L X o (.bool (decide (p<q))):=by simp only[Prod.mk.injEq] at h; exact cL h.1 h.2.1 h.2.2
theorem Qg (h:(o.op,ev L x,ev L y)=(.binOp .geq t x y s,some (.int k p),some (.int k q))):QOp P n L X o (.bool (decide (q<=p))):=by simp only[Prod.mk.injEq] at h; exact cM h.1 h.2.1 h.2.2
theorem Qt (h:(o.op,ev L x)=(.unOp .not t x,some (.bool b))):QOp P n L X o (.bool (!b)):=by simp only[Prod.mk.injEq] at h; exact cN h.1 h.2
theorem Qy (h:(o.op,ev L x,ev L y)=(.pick x y z,some (.bool true),some v)):QOp P n L X o v:=by simp only[Prod.mk.injEq] at h; exact T1 h.1 h.2.1 h.2.2
theorem Qz (h:(o.op,ev L x,ev L z)=(.pick x y z,some (.bool false),some v)):QOp P n L X o v:=by simp only[Prod.mk.injEq] at h; exact T2 h.1 h.2.1 h.2.2
theorem Qi {p:Nat} (h:(o.op,ev L x,ev L y)=(.binOp .add t x y s,some (.int .i64 (p:Int)),some (.int .i64 1))) (hb:p<9223372036854775807):QOp P n L X o (.int .i64 ((p+1:Nat):Int)):=by simp only[Prod.mk.injEq] at h; exact cI h.1 h.2.1 h.2.2 hb
theorem Qx {i:Nat} {vs:List Value} (h:(o.op,ev L x,vs[i]?)=(.extract x i,some (.tuple vs.toArray),some v)):QOp P n L X o v:=by simp only[Prod.mk.injEq] at h; exact R3 h.1 h.2.1 h.2.2
theorem Cq {T:TypeId} {b off sz:Nat} {cs:List Value} (vs:List Value) (hg:∀w,(isAgg t).run P w=.ok true w) (hz:∀w,(sizeOf t).run P w=.ok sz w) (j:Nat) (h:(o.op,ev L x,H[j]?)=(.load t x,some (.pointer (some ⟨b,off,none⟩)),some (Ad b T cs))) (hv:(cs.drop off).take sz=vs) (hl:vs.length=sz):QOp P n L (St w0 D H) o (.agg vs.toArray):=by
 simp only[Prod.mk.injEq] at h
 exact AP vs h.1 hg hz h.2.1 (fun _ x=>x.at j h.2.2) hv hl
theorem SA {T:TypeId} {b off sz:Nat} {cs vs:List Value} (hs:∀w,(sizeOf t).run P w=.ok sz w) (h1:(o.op,o.dst,ev L x,ev L y,vs.length,(off+vs.length).ble cs.length)=(.store t x y,none,some (.pointer (some ⟨b,off,none⟩)),some (.agg vs.toArray),sz,true)) (hv:∀v∈vs,v.oneCell'=true)
 (h:Pre n L (St w0 D (Ad b T (splice cs off vs)::H)) K):EOp P n L (St w0 D (Ad b T cs::H)) o Q K:=by
 simp only[Prod.mk.injEq] at h1
 exact Ah h1.1 h1.2.1 hs h1.2.2.1 h1.2.2.2.1 h1.2.2.2.2.1 hv (iy h1.2.2.2.2.2) h
theorem Sf {a:Prop} [Decidable a] (t:Nat) (hl:look L t=some (.bool (decide a))) (e:¬a) (h:Pre n ((t,.bool false)::L) X F):Pre n L X F:=Pre.setB hl (jo e) h
theorem St' {a:Prop} [Decidable a] (t:Nat) (hl:look L t=some (.bool (decide a))) (e:a) (h:Pre n ((t,.bool true)::L) X F):Pre n L X F:=Pre.setB hl (jq e) h
def Nh (H:List Ent):List Nat->Option (List Ent)
 |[]=>some H
 |i::l=>match H[i]? with
  |some x=>match Nh (H.eraseIdx i) l with
   |some r=>some (x::r)
   |none=>none
  |none=>none
theorem QS:∀{H:List Ent} {i:Nat} {x:Ent},H[i]?=some x->H.Perm (x::H.eraseIdx i)
 |[],i,x,h=>by simp at h
 |y::H,0,x,h=>by simp at h; subst h; exact jr _
 |y::H,i+1,x,h=>((QS (H:=H) (i:=i) (x:=x) (by simpa using h)).cons y).trans (List.Perm.swap x y _)
theorem JB:∀{l:List Nat} {H H':List Ent},Nh H l=some H'->H.Perm H'
 |[],H,H',h=>by cases h; exact jr _
 |i::l,H,H',h=>by
  unfold Nh at h
  cases hx:H[i]? with
  |none=>rw[hx] at h; cases h
  |some x =>
   rw[hx] at h
   dsimp only at h
   cases hr:Nh (H.eraseIdx i) l with
   |none=>rw[hr] at h; cases h
   |some r =>
    rw[hr] at h
    cases h
    have h1:=JB hr
    exact (QS hx).trans (h1.cons _)
theorem Pm {H':List Ent} (l:List Nat) (hp:Nh H l=some H') (h:Pre n L (St w0 D H') F):Pre n L (St w0 D H) F:=h.world _ (fun _ s=>s.perm (JB hp))
theorem Ee {β:Type} {v:β->Value} {p:β->Prop} {E:World->Prop} {HA:List Ent} {HB:β->List Ent} {f:FuncId} {xs:List Operand} {ts:Array TypeId} {d:Nat} {vs:List Value} (pre:List Ent) (s:Con P f vs E HA v p HB)
 (h1:(o.op,o.dst,d.blt n,evs L xs)=(.call ⟨.value (.func f),xs.toArray,ts⟩,some d,true,some vs)) (hc:∀us w,(callFunc f us).run P w=.ok (.enter f us) w) (hE:∀w,St w0 D (pre++HA) w->E w) (h:∀b,p b->Pre n ((d,v b)::L) (St w0 D (pre++HB b)) K):EOp P n L (St w0 D (pre++HA)) o Q K:=by
 simp only[Prod.mk.injEq] at h1
 exact Dw h1.1 h1.2.1 h1.2.2.1 hc h1.2.2.2 (fun w x=>(s.frame (F:=pre) (x.perm js) (hE w x)).mono (fun e w' ⟨b,he,hp,h'⟩=>⟨b,he,hp,h'.perm js⟩)) h
theorem E1 {β:Type} {v:β->Value} {p:β->Prop} {E:World->Prop} {f:FuncId} {xs:List Operand} {ts:Array TypeId} {d:Nat} {vs:List Value} (s:Con P f vs E [] v p (fun _=>[]))
 (h1:(o.op,o.dst,d.blt n,evs L xs)=(.call ⟨.value (.func f),xs.toArray,ts⟩,some d,true,some vs)) (hc:∀us w,(callFunc f us).run P w=.ok (.enter f us) w) (hE:∀w,St w0 D H w->E w) (h:∀b,p b->Pre n ((d,v b)::L) (St w0 D H) K):EOp P n L (St w0 D H) o Q K:=by
 simp only[Prod.mk.injEq] at h1
 exact Dw h1.1 h1.2.1 h1.2.2.1 hc h1.2.2.2 (fun w x=>(s.frame (F:=H) x (hE w x)).mono (fun e w' ⟨b,he,hp,h'⟩=>⟨b,he,hp,h'⟩)) h
def kq:Nat->Nat->List Dv
 |0,_=>[]
 |n+1,c=>(if c%3=0 then some true else if c%3=1 then some false else none)::kq n (c/3)
def mkl (l0:List Oper):List Nat->List Dv->Option (List (Oper×Dv))
 |[],[]=>some []
 |i::is,k::ks=>match l0[i]? with
  |some o=>match mkl l0 is ks with
   |some r=>some ((o,k)::r)
   |none=>none
  |none=>none
 |_,_=>none
theorem JC {l0:List Oper}:∀{is:List Nat} {ks:List Dv} {l:List (Oper×Dv)},mkl l0 is ks=some l->l.map (fun x=>some x.1)=(is.zip ks).map (fun x=>l0[x.1]?)/\l.map (·.2)=(is.zip ks).map (·.2)
 |[],[],l,h=>by cases h; exact⟨rfl,rfl⟩
 |i::is,k::ks,l,h=>by
  unfold mkl at h
  cases hx:l0[i]? with
  |none=>rw[hx] at h; cases h
  |some o =>
   rw[hx] at h
   dsimp only at h
   cases hr:mkl l0 is ks with
   |none=>rw[hr] at h; cases h
   |some r =>
    rw[hr] at h
    cases h
    obtain⟨h1,h2⟩:=JC hr
    exact⟨by simp[hx,h1],by simp[h2]⟩
 |[],k::ks,l,h=>by cases h
 |i::is,[],l,h=>by cases h
abbrev tz (is:List Nat) (ks:List Dv):List Nat:=((is.zip ks).filter (fun x=>x.2.isNone)).map (·.1)
theorem Dn {id:Nat} {l0:List Oper} {l:List (Oper×Dv)} (is:List Nat) (c:Nat) (S:World->Prop) (h1:(P.follows .mixedOrders,(is.zip (kq is.length c)).length,mkl l0 is (kq is.length c))=(true,l0.length,some l)) (hd:IN X) (hS:∀w,X w->S w) (h:Pre n L X (wpD P l0.toArray Q S l)) (hB:Eg Q:=by repeat (first|exact C1|refine BY ?_|refine CM ?_)) (hs:Region.noSelect l0.toArray=true:=by kernel_rfl) (hT:GQ .any l0.toArray (tz is (kq is.length c))=true:=by kernel_rfl) (hok:Cv l0.toArray (tz is (kq is.length c)) (is.zip (kq is.length c)) (Array.replicate l0.length false)=true:=by kernel_rfl):Pre n L X ((Code.region id l0.toArray true).wp P Q):=by
 simp only[Prod.mk.injEq] at h1
 exact T0 _ _ l S hB h1.1 hs hT h1.2.1 (JC h1.2.2).1 (JC h1.2.2).2 hok hd hS h
theorem Do8 {id:Nat} {l0:List Oper} {l:List (Oper×Dv)} (is:List Nat) (c:Nat) (S:World->Prop) (h1:(P.follows .mixedOrders,(is.zip (kq is.length c)).length,mkl l0 is (kq is.length c))=(true,l0.length,some l)) (hd:IN X) (hS:∀w,X w->S w) (h:Pre n L X (wpD P l0.toArray Q S l)) (hB:Eg Q:=by repeat (first|exact C1|refine BY ?_|refine CM ?_)) (hs:Region.noSelect l0.toArray=true:=by kernel_rfl) (hT:FA .any l0.toArray (tz is (kq is.length c))=true:=by kernel_rfl) (hok:Cv l0.toArray (tz is (kq is.length c)) (is.zip (kq is.length c)) (Array.replicate l0.length false)=true:=by kernel_rfl):Pre n L X ((Code.region id l0.toArray true).wp P Q):=by
 simp only[Prod.mk.injEq] at h1
 exact Gs _ _ l S hB h1.1 hs hT h1.2.1 (JC h1.2.2).1 (JC h1.2.2).2 hok hd hS h
abbrev rg:Nat->List Nat:=List.range
theorem Si:∀{L' L:Env},L'.map (fun p=>look L p.1)=L'.map (fun p=>some p.2)->Sub L' L
 |[],_,_=>Sub.nil
 |(i,v)::L',L,h=>by
  simp only[gB,List.cons.injEq] at h
  exact Sub.cons h.1 (Si h.2)
class BD (b:Bool) (p q:outParam Prop):Prop where
 t:b=true->p
 f:b=false->q
instance (priority:=100) {b:Bool}:BD b (b=true) (b=false):=⟨id,id⟩
instance {p:Prop} [Decidable p]:BD (decide p) p (¬p):=⟨jt,of_decide_eq_false⟩
instance (priority:=500) {b:Bool}:BD (!b) (b=false) (b=true):=⟨fun h=>(by simpa using h),fun h=>(by simpa using h)⟩
instance {p:Prop} [Decidable p]:BD (!decide p) (¬p) p:=⟨fun h=>(by simpa using h),fun h=>(by simpa using h)⟩
theorem CB {b:Bool} {p q:Prop} [i:BD b p q] (t:Nat) (hl:look L t=some (.bool b)) (h1:p->Pre n ((t,.bool true)::L) X F) (h2:q->Pre n ((t,.bool false)::L) X F):Pre n L X F:=Pre.caseB t hl (fun h=>h1 (i.t h)) (fun h=>h2 (i.f h))
theorem Ap {α:Type} {E:Enc α} {l m:List α} {v xv z:Value} {s x:Operand} {t tx e e':TypeId} {i:TypeInfo} {d:Nat} (ht:P.underlying t=some (.slice e)) (htx:P.underlying tx=some (.slice e')) (hi:P.info? e=some i) (h1:(o.op,o.dst,d.blt n,i.size,i.zero,z.cells.size,ev L s,ev L x,i.bytes.ble 1024)=(.call ⟨.builtin .append,#[s,x],#[t,tx]⟩,some d,true,E.sz,some z,E.sz,some v,some xv,true)) (hx:∀w,St w0 D (Az v e E l::H) w->RdV w xv E m) (hb:l.length+m.length<=137438953472)
 (h:∀v',Pre n ((d,v')::L) (St w0 D (Az v' e E (l++m)::H)) K):EOp P n L (St w0 D (Az v e E l::H)) o Q K:=by
 simp only[Prod.mk.injEq] at h1
 obtain⟨a1,a2,a3,a4,a5,a6,a7,a8,a9⟩:=h1
 exact BZ a1 a2 a3 ht htx hi a4 a5 a6 a7 a8 hx (gF (Nat.mul_le_mul hb (iy a9)) (by decide)) (gF hb (by decide)) h
end short
end Go.Sep
