/- Part 4 of the proof: texts of my own, laid behind one another. No condition. -/
import Derived.Test.YtloldofjddbjoaaGreatT3
set_option linter.unusedVariables false
set_option linter.unusedSimpArgs false
set_option maxHeartbeats 8000000
set_option maxRecDepth 100000
namespace Go.Proofs.YtloldofjddbjoaaGreat
open Go.Sep Go.RowKit Tryz
variable {l:List En} {i:Nat}
theorem KV (nv:NV) (m:Ms) (hlf:nv.d.leaf=false) (hr:DV Ms.key nv.d.msgs) (hr2:DV Ms.key (DW nv.d.msgs m)) (hn:nv.d.Sm 30000):Con prog 253 [.agg nv.c.toArray,.agg m.c.toArray] (fun w=>NRd w nv) [] (fun s:Sv=>if GC (CJ nv.d m)=true then .tuple #[.agg (⟨⟨nv.s.e,nv.s.k,nv.s.p,s⟩,CJ nv.d m⟩:NV).c.toArray,.bool true] else .tuple #[.agg nv.c.toArray,.bool false]) (fun _=>True) (fun s=>[EN s (DW nv.d.msgs m)]):=by
 intro w hE hH
 refine E0 func253 I hH ?_
 refine Cs I (l_e I (AQ I I I I (fun bn=>Ce nv.c I (l_e I (AQ I I I I (fun bm=>Ce m.c I (l_e I (Au I I I zeroValue135 (fun br=>Ce nv0.c I (Ak I (Ag ?_)))))))))))
 have hin:(CJ nv.d m).msgs.length<=nv.d.msgs.length+1:=Od _ _
 obtain⟨n1,n2,n3,n4⟩:=hn
 refine DC (fun (s:Sv) (bx:Nat)=>[(2,.pointer (some ⟨bn,0,none⟩)),(4,.pointer (some ⟨br,0,none⟩)),(6,.pointer (some ⟨bx,0,none⟩))]) (fun (s:Sv) (bx:Nat)=>St w [] [EN s (DW nv.d.msgs m),Ad bx 135 (⟨⟨nv.s.e,nv.s.k,nv.s.p,s⟩,CJ nv.d m⟩:NV).c,Ad br 135 nv0.c,Ad bm 154 m.c,Ad bn 135 nv.c]) (fun (s:Sv) (bx:Nat)=>True) ?_ ?_
 · refine EZ (fun w2=>(Ad bn 135 nv.c).at w2/\(Ad bm 154 m.c).at w2) I St.drawn (Aq 0 I (H2 2 1 I) (AP (nv.c) I Bs AR I (fun _ h=>h.1) (I) (I)) (Aq 3 I (H2 2 1 I) (AP (nv.c) I Bs AR I (fun _ h=>h.1) (I) (I)) (Aq 4 I (H2 2 1 I) (AP (m.c) I Cm Bi I (fun _ h=>h.2) (Bm _) (Ms.e6 _)) ?_)))
   refine H5 1 5 7 (by kernel_rfl) I I I I I I ?_ ?_ ?_
   · refine E1 (Fl nv hlf) I call270 Tt (fun _ _=>Aj (H2 2 1 I) (Aq 2 I (H2 2 1 I) (DB I I8 I KO I I) ?_))
     refine BK 5 7 (by kernel_rfl) I I I I ?_ ?_
     · refine Ax (sz:=29) [.tmp 11] I I I I I BP Bi I zeroValue154 (by simp[Value.cells,Ms.e6]) (fun bl=>Aj (H2 3 2 I) ?_)
       refine BK 6 7 (by kernel_rfl) I I I I ?_ ?_
       · refine Cz (CZ nv [m] (Dj hr hr2) (by show nv.d.msgs.length+1<=40000; omega)) I I I I call296 I (fun _ h=>⟨hE.keep h,AW (h.at 0 I) Ms.enc [m] I rfl⟩) ?_
         rintro⟨s,own⟩ ⟨ho,_⟩
         have ho2:=ho (by simp)
         dsimp only at ho2
         subst ho2
         refine Ct (Aj (H2 4 3 I) (AH 7 (by kernel_rfl) I I (Au I I I zeroValue135 (fun bx=>Ce nv0.c I (Aj (H2 5 4 I) (AH 8 (by kernel_rfl) I I (Ah I I AR I I I (NV.one _) (by show 0+5<=5; decide) (Ay (show Sep.splice _ 0 ((⟨⟨nv.s.e,nv.s.k,nv.s.p,s⟩,CJ nv.d m⟩:NV)).c=((⟨⟨nv.s.e,nv.s.k,nv.s.p,s⟩,CJ nv.d m⟩:NV)).c from Sep.e7 I) (Aj (H2 5 4 I) (BW (by kernel_rfl) (AV (Av (Pm [1] I ?_)))))))))))))
         exact Bb ((s,bx)) trivial (Si I) (fun _ h=>h)
       · refine Au I I I zeroValue135 (fun bx=>Ce nv0.c I (Aj (H2 4 3 I) (AH 6 (by kernel_rfl) I I (Cz (CZ nv [m] (Dj hr hr2) (by show nv.d.msgs.length+1<=40000; omega)) I I I I call296 I (fun _ h=>⟨hE.keep h,AW (h.at 1 I) Ms.enc [m] I rfl⟩) ?_))))
         rintro⟨s,own⟩ ⟨ho,_⟩
         have ho2:=ho (by simp)
         dsimp only at ho2
         subst ho2
         refine Ct (Aj (H2 5 4 I) (AM (AH 8 (by kernel_rfl) I I (Ah I I AR I I I (NV.one _) (by show 0+5<=5; decide) (Ay (show Sep.splice _ 0 ((⟨⟨nv.s.e,nv.s.k,nv.s.p,s⟩,CJ nv.d m⟩:NV)).c=((⟨⟨nv.s.e,nv.s.k,nv.s.p,s⟩,CJ nv.d m⟩:NV)).c from Sep.e7 I) (Aj (H2 5 4 I) (BW (by kernel_rfl) (AV (Av (Pm [1] I ?_))))))))))
         exact Bb ((s,bx)) trivial (Si I) (fun _ h=>h)
     · refine Au I I I zeroValue135 (fun bx=>Ce nv0.c I (Aj (H2 3 2 I) (AH 5 (by kernel_rfl) I I (Ax (sz:=29) [.tmp 11] I I I I I BP Bi I zeroValue154 (by simp[Value.cells,Ms.e6]) (fun bl=>Aj (H2 4 3 I) (AH 6 (by kernel_rfl) I I (Cz (CZ nv [m] (Dj hr hr2) (by show nv.d.msgs.length+1<=40000; omega)) I I I I call296 I (fun _ h=>⟨hE.keep h,AW (h.at 0 I) Ms.enc [m] I rfl⟩) ?_)))))))
       rintro⟨s,own⟩ ⟨ho,_⟩
       have ho2:=ho (by simp)
       dsimp only at ho2
       subst ho2
       refine Ct (Aj (H2 5 4 I) (AV (AH 8 (by kernel_rfl) I I (Ah I I AR I I I (NV.one _) (by show 0+5<=5; decide) (Ay (show Sep.splice _ 0 ((⟨⟨nv.s.e,nv.s.k,nv.s.p,s⟩,CJ nv.d m⟩:NV)).c=((⟨⟨nv.s.e,nv.s.k,nv.s.p,s⟩,CJ nv.d m⟩:NV)).c from Sep.e7 I) (Aj (H2 5 4 I) (BW (by kernel_rfl) (AV (Av (Pm [1] I ?_))))))))))
       exact Bb ((s,bx)) trivial (Si I) (fun _ h=>h)
   · refine Ax (sz:=29) [.tmp 11] I I I I I BP Bi I zeroValue154 (by simp[Value.cells,Ms.e6]) (fun bl=>Aj (H2 3 2 I) ?_)
     refine BK 1 7 (by kernel_rfl) I I I I ?_ ?_
     · refine E1 (Fl nv hlf) I call270 Tt (fun _ _=>Aj (H2 3 2 I) (Aq 2 I (H2 3 2 I) (DB I I8 I KO I I) ?_))
       refine BK 6 7 (by kernel_rfl) I I I I ?_ ?_
       · refine Cz (CZ nv [m] (Dj hr hr2) (by show nv.d.msgs.length+1<=40000; omega)) I I I I call296 I (fun _ h=>⟨hE.keep h,AW (h.at 0 I) Ms.enc [m] I rfl⟩) ?_
         rintro⟨s,own⟩ ⟨ho,_⟩
         have ho2:=ho (by simp)
         dsimp only at ho2
         subst ho2
         refine Ct (Aj (H2 4 3 I) (AH 7 (by kernel_rfl) I I (Au I I I zeroValue135 (fun bx=>Ce nv0.c I (Aj (H2 5 4 I) (AH 8 (by kernel_rfl) I I (Ah I I AR I I I (NV.one _) (by show 0+5<=5; decide) (Ay (show Sep.splice _ 0 ((⟨⟨nv.s.e,nv.s.k,nv.s.p,s⟩,CJ nv.d m⟩:NV)).c=((⟨⟨nv.s.e,nv.s.k,nv.s.p,s⟩,CJ nv.d m⟩:NV)).c from Sep.e7 I) (Aj (H2 5 4 I) (BW (by kernel_rfl) (AV (Av (Pm [1] I ?_)))))))))))))
         exact Bb ((s,bx)) trivial (Si I) (fun _ h=>h)
       · refine Au I I I zeroValue135 (fun bx=>Ce nv0.c I (Aj (H2 4 3 I) (AH 6 (by kernel_rfl) I I (Cz (CZ nv [m] (Dj hr hr2) (by show nv.d.msgs.length+1<=40000; omega)) I I I I call296 I (fun _ h=>⟨hE.keep h,AW (h.at 1 I) Ms.enc [m] I rfl⟩) ?_))))
         rintro⟨s,own⟩ ⟨ho,_⟩
         have ho2:=ho (by simp)
         dsimp only at ho2
         subst ho2
         refine Ct (Aj (H2 5 4 I) (AM (AH 8 (by kernel_rfl) I I (Ah I I AR I I I (NV.one _) (by show 0+5<=5; decide) (Ay (show Sep.splice _ 0 ((⟨⟨nv.s.e,nv.s.k,nv.s.p,s⟩,CJ nv.d m⟩:NV)).c=((⟨⟨nv.s.e,nv.s.k,nv.s.p,s⟩,CJ nv.d m⟩:NV)).c from Sep.e7 I) (Aj (H2 5 4 I) (BW (by kernel_rfl) (AV (Av (Pm [1] I ?_))))))))))
         exact Bb ((s,bx)) trivial (Si I) (fun _ h=>h)
     · refine Au I I I zeroValue135 (fun bx=>Ce nv0.c I (Aj (H2 4 3 I) (AH 1 (by kernel_rfl) I I (E1 (Fl nv hlf) I call270 Tt (fun _ _=>Aj (H2 4 3 I) (Aq 2 I (H2 4 3 I) (DB I I8 I KO I I) (AH 6 (by kernel_rfl) I I (Cz (CZ nv [m] (Dj hr hr2) (by show nv.d.msgs.length+1<=40000; omega)) I I I I call296 I (fun _ h=>⟨hE.keep h,AW (h.at 1 I) Ms.enc [m] I rfl⟩) ?_))))))))
       rintro⟨s,own⟩ ⟨ho,_⟩
       have ho2:=ho (by simp)
       dsimp only at ho2
       subst ho2
       refine Ct (Aj (H2 5 4 I) (AM (AH 8 (by kernel_rfl) I I (Ah I I AR I I I (NV.one _) (by show 0+5<=5; decide) (Ay (show Sep.splice _ 0 ((⟨⟨nv.s.e,nv.s.k,nv.s.p,s⟩,CJ nv.d m⟩:NV)).c=((⟨⟨nv.s.e,nv.s.k,nv.s.p,s⟩,CJ nv.d m⟩:NV)).c from Sep.e7 I) (Aj (H2 5 4 I) (BW (by kernel_rfl) (AV (Av (Pm [1] I ?_))))))))))
       exact Bb ((s,bx)) trivial (Si I) (fun _ h=>h)
   · refine Au I I I zeroValue135 (fun bx=>Ce nv0.c I (Aj (H2 3 2 I) ?_))
     refine BK 1 5 (by kernel_rfl) I I I I ?_ ?_
     · refine E1 (Fl nv hlf) I call270 Tt (fun _ _=>Aj (H2 3 2 I) (Aq 2 I (H2 3 2 I) (DB I I8 I KO I I) (AH 5 (by kernel_rfl) I I (Ax (sz:=29) [.tmp 11] I I I I I BP Bi I zeroValue154 (by simp[Value.cells,Ms.e6]) (fun bl=>Aj (H2 4 3 I) (AH 6 (by kernel_rfl) I I (Cz (CZ nv [m] (Dj hr hr2) (by show nv.d.msgs.length+1<=40000; omega)) I I I I call296 I (fun _ h=>⟨hE.keep h,AW (h.at 0 I) Ms.enc [m] I rfl⟩) ?_)))))))
       rintro⟨s,own⟩ ⟨ho,_⟩
       have ho2:=ho (by simp)
       dsimp only at ho2
       subst ho2
       refine Ct (Aj (H2 5 4 I) (AV (AH 8 (by kernel_rfl) I I (Ah I I AR I I I (NV.one _) (by show 0+5<=5; decide) (Ay (show Sep.splice _ 0 ((⟨⟨nv.s.e,nv.s.k,nv.s.p,s⟩,CJ nv.d m⟩:NV)).c=((⟨⟨nv.s.e,nv.s.k,nv.s.p,s⟩,CJ nv.d m⟩:NV)).c from Sep.e7 I) (Aj (H2 5 4 I) (BW (by kernel_rfl) (AV (Av (Pm [1] I ?_))))))))))
       exact Bb ((s,bx)) trivial (Si I) (fun _ h=>h)
     · refine Ax (sz:=29) [.tmp 11] I I I I I BP Bi I zeroValue154 (by simp[Value.cells,Ms.e6]) (fun bl=>Aj (H2 4 3 I) (AH 1 (by kernel_rfl) I I (E1 (Fl nv hlf) I call270 Tt (fun _ _=>Aj (H2 4 3 I) (Aq 2 I (H2 4 3 I) (DB I I8 I KO I I) (AH 6 (by kernel_rfl) I I (Cz (CZ nv [m] (Dj hr hr2) (by show nv.d.msgs.length+1<=40000; omega)) I I I I call296 I (fun _ h=>⟨hE.keep h,AW (h.at 0 I) Ms.enc [m] I rfl⟩) ?_)))))))
       rintro⟨s,own⟩ ⟨ho,_⟩
       have ho2:=ho (by simp)
       dsimp only at ho2
       subst ho2
       refine Ct (Aj (H2 5 4 I) (AV (AH 8 (by kernel_rfl) I I (Ah I I AR I I I (NV.one _) (by show 0+5<=5; decide) (Ay (show Sep.splice _ 0 ((⟨⟨nv.s.e,nv.s.k,nv.s.p,s⟩,CJ nv.d m⟩:NV)).c=((⟨⟨nv.s.e,nv.s.k,nv.s.p,s⟩,CJ nv.d m⟩:NV)).c from Sep.e7 I) (Aj (H2 5 4 I) (BW (by kernel_rfl) (AV (Av (Pm [1] I ?_))))))))))
       exact Bb ((s,bx)) trivial (Si I) (fun _ h=>h)
 · intro s bx _
   refine Ag (Cs I (Lq I (Cq ((⟨⟨nv.s.e,nv.s.k,nv.s.p,s⟩,CJ nv.d m⟩:NV).c) Bs AR 1 I (I) (I)) (l_e I (E1 (I0 (⟨⟨nv.s.e,nv.s.k,nv.s.p,s⟩,CJ nv.d m⟩:NV) hlf ⟨gF n1 (by decide),gF n2 (by decide),gF n3 (by decide),by show (DW nv.d.msgs m).length<=50000; have:(DW nv.d.msgs m).length<=nv.d.msgs.length+1:=hin; omega⟩) I call216 (fun _ h=>⟨hE.e.keep h (by simp),hE.k.keep h (by simp),hE.p.keep h (by simp),h.rd 0 rfl⟩) (fun _ _=>Lq I (Qt I) (Nk ?_))))))
   refine CB 16 I (fun hf=>?_) (fun hf=>?_)
   · refine Ai I (Cs I (Lq I (Cq (nv.c) Bs AR 4 I (I) (I)) (AV (l_e I (Ah I I AR I I I (NV.one _) (by show 0+5<=5; decide) (Ay (show Sep.splice _ 0 (nv).c=(nv).c from Sep.e7 I) (Ak I (Af (Aa (AM (BI I (AJ I Bs AR (Hat 1 I) (I)) (show Sep.look _ _=some _ from I) ?_)))))))))))
     exact fun _ h=>⟨s,by dsimp only; rw[fR (by rw[show GC (CJ nv.d m)=false from hf]; decide)],trivial,h.sublist (jR.2 (iQ _))⟩
   · refine Ab I (Ae (Kt (Cs I (Lq I (Cq ((⟨⟨nv.s.e,nv.s.k,nv.s.p,s⟩,CJ nv.d m⟩:NV).c) Bs AR 1 I (I) (I)) (AV (l_e I (Ah I I AR I I I (NV.one _) (by show 0+5<=5; decide) (Ay (show Sep.splice _ 0 ((⟨⟨nv.s.e,nv.s.k,nv.s.p,s⟩,CJ nv.d m⟩:NV)).c=((⟨⟨nv.s.e,nv.s.k,nv.s.p,s⟩,CJ nv.d m⟩:NV)).c from Sep.e7 I) (Ak I (Af (AM (BI I (AJ I Bs AR (Hat 1 I) (I)) (show Sep.look _ _=some _ from I) ?_))))))))))))
     exact fun _ h=>⟨s,by dsimp only; rw[fO (show GC (CJ nv.d m)=true from hf)],trivial,h.sublist (jR.2 (iQ _))⟩
def Gb (l:List En) (n:Nat):Bool:=decide (n<l.length-1)&&decide (lby (l.take n)<lby l-lby (l.take n))
def spl (l:List En):Nat:=((List.range l.length).takeWhile (Gb l)).length
theorem U6 (hi:i<l.length) (h1:∀j,j<i->Gb l j=true) (h2:Gb l i=false):spl l=i:=by
 unfold spl
 have hr:∀k,k<l.length->(List.range l.length)[k]?=some k:=fun k hk=>by rw[fD (by rw[jO]; exact hk)]; simp
 have hle:((List.range l.length).takeWhile (Gb l)).length<=l.length:=by have:=(j8 (p:=Gb l) (l:=List.range l.length)).length_le; rwa[jO] at this
 rcases Nat.lt_trichotomy ((List.range l.length).takeWhile (Gb l)).length i with h|h|h
 · have h3:=Mv (p:=Gb l) (l:=List.range l.length) (hr _ (by omega))
   rw[h1 _ h] at h3; cases h3
 · exact h
 · have h3:=UK (p:=Gb l) h (hr i hi)
   rw[h2] at h3; cases h3
theorem U7 (h2:2<=l.length) (hp:0<lby l):Gb l 0=true:=by
 unfold Gb
 rw[jq (by omega),jq (by simp[lby]; exact hp)]; rfl
theorem U8 {e:En} (h:l[i]?=some e):lby (l.take (i+1))=lby (l.take i)+lsz e:=Fe h
section
variable {P:Program} {n:Nat} {L:Env} {X:World->Prop} {fn:Func} {R:Ending->World->Prop}
theorem MD {r r' s s':ResultVar} {u v x y:Value} (hr:fn.results=#[r,r',s,s']) (h1:Hq P L X r u) (h2:Hq P L X r' v) (h3:Hq P L X s x) (h4:Hq P L X s' y) (hR:∀w,X w->R (.returned (.tuple #[u,v,x,y])) w):Pre n L X (bodyPost P fn R .ret):=fun a w k hx =>
 ⟨k.defers,_,by rw[GY,hr]; simp[DF k hx h1,DF k hx h2,DF k hx h3,DF k hx h4],hR w hx⟩
end
theorem Oi {va:Value} (l:List En) (hb:∀e∈l,e.Bd) (h2l:2<=l.length) (hpos:0<lby l) (hn:l.length<=30000):Con prog 295 [va] (fun w=>RdV w va En.enc l) [] (fun v:Value×Value=>.tuple #[v.1,v.2,.agg (l.getD (spl l) en0).key.c.toArray,.bool true]) (fun _=>True) (fun v=>[Az v.1 79 En.enc (l.take (spl l)),Az v.2 79 En.enc (l.drop (spl l))]):=by
 intro w hl hH
 have hbl:=PG hb l.length
 rw[jH] at hbl
 have hbl2 : -2000*(l.length:Int)<=lby l/\lby l<=2002*(l.length:Int):=hbl
 refine E0 func295 I hH ?_
 refine Cs I (Las I (Las I (l_e I (Au I I I zeroValue77 (fun bp=>Ce (kv0 8).c I (Ak I (Ag (Cs I (Lm I (Lq I (AL I U49 I (fun _ h=>hl.keep h (by simp[dom]))) (Lq I (Ql I) (Nk (Sf 11 I (by omega) (Ab I (Ae (Kt (Cs I (Lm I (l_e I (E1 (IX l hb (by omega)) I call307 (fun _ h=>hl.keep h (by simp)) (fun _ _=>Las I (Las I (Ak I (Ag ?_))))))))))))))))))))))))
 refine Gp (fun (i:Nat)=>[(0,va),(4,.pointer (some ⟨bp,0,none⟩)),(6,.int .i64 (i:Int))]) (fun (i:Nat)=>St w [] [Ad bp 77 (kv0 8).c]) (fun (i:Nat)=>i<l.length/\0<i/\spl l=i) ?_ ?_
 · refine Al ?_
   refine Bc (fun (i:Nat)=>[(0,va),(4,.pointer (some ⟨bp,0,none⟩)),(6,.int .i64 (i:Int)),(7,.int .i64 (lby (l.take i))),(8,.int .i64 (lby l))]) (fun (i:Nat)=>St w [] [Ad bp 77 (kv0 8).c]) (fun (i:Nat)=>i<l.length/\∀j,j<i->Gb l j=true) (fun (i:Nat)=>l.length-i) (0) ⟨by omega,fun j h=>absurd h (jy _)⟩ (Si I) Ih (fun i hp=>Ag (Ag ?_))
   obtain⟨hi,hj⟩:=hp
   have hti:=PG hb i
   have hti2 : -2000*(i:Int)<=lby (l.take i)/\lby (l.take i)<=2002*(i:Int):=hti
   refine Cr I (Lm I (Lm I (Lq I (AL I U49 I (fun _ h=>hl.keep h (by simp[dom]))) (Lq I (Dl I I I (by omega)) (Lq I (Ql I) (Lm I ?_))))))
   refine CB 20 I (fun h1=>?_) (fun h1=>?_)
   · refine Lm I (Lm I (Lm I (Lq I (Dl I I I (by omega)) (Lq I (Ql I) (Lq I (Qy I) (Nk ?_))))))
     refine CB 26 I (fun h2=>?_) (fun h2=>?_)
     · have hbi:Gb l i=true:=by unfold Gb; rw[jq (show i<l.length-1 by omega),jq h2]; rfl
       obtain⟨c,hc⟩:∃c,l[i]?=some c:=⟨_,fD (by omega)⟩
       have hcb:=hb c (hY hc)
       have hsn:=U8 hc
       have hcs:lsz c=2+c.key.n+c.val.n:=rfl
       unfold En.Bd at hcb
       refine Ai I (Ae (Kt (Al (Cs I (Lm I (Lm I (Lm I (Lq I (As i I U49 Z79 I (fun _ h=>hl.keep h (by simp[dom])) I I (by omega)) (Lq I (AU i I G79 Z79 I I (fun _ h=>hl.keep h (by simp[dom])) hc) (l_e I (E1 (J8 c (hb c (hY hc))) I call308 Tt (fun _ _=>Lq I (Bf I I I (by omega)) (Ak I (Cr I (Lm I (Lq I (Qi I (by omega)) (Las I (AB (Aw ?_)))))))))))))))))))
       exact AD (i+1) (by omega) ⟨by omega,fun j h=>by
        rcases ke.1 h with h|rfl
        · exact hj j h
        · exact hbi⟩ (Sub.cons I (Sub.cons I (Sub.cons I (Sub.consE I (by rw[hsn]) (Si I))))) (fun _ h=>h)
     · have hbi:Gb l i=false:=by unfold Gb; rw[jo h2]; simp
       have hsp:spl l=i:=U6 hi hj hbi
       have h0:0<i:=by
        rcases gh i with h|h
        · subst h; rw[U7 h2l hpos] at hbi; cases hbi
        · exact h
       refine Ab I (AO (Ac (Ac (Ar ?_))))
       exact Bb (i) ⟨hi,h0,hsp⟩ (Si I) (fun _ h=>h)
   · have hbi:Gb l i=false:=by unfold Gb; rw[jo (show ¬i<l.length-1 by omega)]; rfl
     have hsp:spl l=i:=U6 hi hj hbi
     have h0:0<i:=by
      rcases gh i with h|h
      · subst h; rw[U7 h2l hpos] at hbi; cases hbi
      · exact h
     refine Lx I (Lx I (Lx I (Lx I (Lx I (Lq I (Qz I) (Nk (Ab I (AO (Ac (Ac (Ar ?_)))))))))))
     exact Bb (i) ⟨hi,h0,hsp⟩ (Si I) (fun _ h=>h)
 · rintro i ⟨hi,h0,hsp⟩
   refine Ag ?_
   obtain⟨c,hc⟩:∃c,l[i]?=some c:=⟨_,fD (by omega)⟩
   have hrl:∀k,(List.replicate k en0).length=k:=fun k=>jB ..
   refine DC (fun (va2:Value) (vb2:Value)=>[(0,va),(2,va2),(3,vb2),(4,.pointer (some ⟨bp,0,none⟩)),(6,.int .i64 (i:Int))]) (fun (va2:Value) (vb2:Value)=>St w [] [Az va2 79 En.enc (List.replicate i en0),Az vb2 79 En.enc (List.replicate (l.length-i) en0),Ad bp 77 (kv0 8).c]) (fun (va2:Value) (vb2:Value)=>True) ?_ ?_
   · refine EZ (fun w2=>RdV w2 va En.enc l) I St.drawn (Aq 0 I (fun _ h=>hl.keep h (by simp)) (A0 I I) (Aq 2 I (fun _ h=>hl.keep h (by simp)) (A0 I I) (Aq 3 I (fun _ h=>hl.keep h (by simp)) (AL I U49 I Ih) (Aq 4 I (fun _ h=>hl.keep h (by simp)) (A0 I I) (Aq 5 I (fun _ h=>hl.keep h (by simp)) (Dl I I I (by omega)) ?_)))))
     refine BK 1 6 (by kernel_rfl) I I I I ?_ ?_
     · refine BN En.enc en0 i I I I U49 CV I I I I I I I (by simp only[GG]; omega) (by omega) (fun va=>Aj (fun _ h=>hl.keep h (by simp)) (Aq 7 I (fun _ h=>hl.keep h (by simp)) (AE I I) (AH 6 (by kernel_rfl) I I (BN En.enc en0 (l.length-i) I I I U49 CV I I I I I (by omega) (by omega) (by simp only[GG]; omega) (by omega) (fun vb=>Aj (fun _ h=>hl.keep h (by simp)) (Aq 8 I (fun _ h=>hl.keep h (by simp)) (AE I I) (BW (by kernel_rfl) (Pm [1] I ?_))))))))
       exact Bb ((va,vb)) trivial (Si I) (fun _ h=>h)
     · refine BN En.enc en0 (l.length-i) I I I U49 CV I I I I I (by omega) (by omega) (by simp only[GG]; omega) (by omega) (fun vb=>Aj (fun _ h=>hl.keep h (by simp)) (AH 1 (by kernel_rfl) I I (BN En.enc en0 i I I I U49 CV I I I I I I I (by simp only[GG]; omega) (by omega) (fun va=>Aj (fun _ h=>hl.keep h (by simp)) (Aq 7 I (fun _ h=>hl.keep h (by simp)) (AE I I) (Aq 8 I (fun _ h=>hl.keep h (by simp)) (AE I I) (BW (by kernel_rfl) ?_)))))))
       exact Bb ((va,vb)) trivial (Si I) (fun _ h=>h)
   · intro va2 vb2 _
     refine Ag ?_
     refine Dd (by rw[jB]; omega) (fun ba capa prea posta hva hcapa hposta=>?_)
     subst hva
     rw[jB] at hcapa hposta
     rw[jB]
     have hcla:(prea++En.enc.flat (List.replicate i en0)++posta).length=prea.length+i*26+posta.length:=by rw[fL,fL,Enc.fa,jB]; rfl
     have hmna:min (l).length i=i:=Nat.min_eq_right (by omega)
     have htka:(l).take (min (l).length i)=(l.take i):=by rw[hmna]
     have hnla:((l.take i)).length=i:=by rw[fJ]; omega
     refine Cr I (Lm I (Lm I (l_e I (Pr (E:=En.enc) (l:=l) I I I U49 Z79 I I (fun _ h=>hl.keep h (by simp)) (by rw[hcla,hmna]; show prea.length+i*26<=_; omega) (Ay (cs':=prea++En.enc.flat ((l.take i))++posta) (by rw[htka]; exact Sep.splice_part _ _ prea posta (by rw[Enc.fa,Enc.fa,jB,hnla])) (Fi (E:=En.enc) (len:=i) (cap:=capa) ((l.take i)) prea posta I hnla (by omega) hcapa hposta (Nk (Cs I (Lm I (Lm I (Lm I (Lq I (D1 i I U49 Z79 I (fun _ h=>hl.keep h (by simp[dom])) I I (by omega)) (AM ?_)))))))))))))
     refine Dd (by rw[jB]; omega) (fun bb capb preb postb hvb hcapb hpostb=>?_)
     subst hvb
     rw[jB] at hcapb hpostb
     rw[jB]
     have hclb:(preb++En.enc.flat (List.replicate (l.length-i) en0)++postb).length=preb.length+(l.length-i)*26+postb.length:=by rw[fL,fL,Enc.fa,jB]; rfl
     have hmnb:min ((l.drop i)).length (l.length-i)=(l.length-i):=by rw[fK]; exact Nat.min_self _
     have htkb:((l.drop i)).take (min ((l.drop i)).length (l.length-i))=(l.drop i):=by rw[hmnb]; exact fZ (by rw[fK]; exact ga _)
     have hnlb:((l.drop i)).length=(l.length-i):=fK
     refine l_e I (Pr (E:=En.enc) (l:=(l.drop i)) I I I U49 Z79 I I (fun _ h=>by have:=CF (hl.keep h (by simp)) (lo:=i) (hi:=l.length) (by omega) (ga _); rwa[jH] at this) (by rw[hclb,hmnb]; show preb.length+(l.length-i)*26<=_; omega) (Ay (cs':=preb++En.enc.flat ((l.drop i))++postb) (by rw[htkb]; exact Sep.splice_part _ _ preb postb (by rw[Enc.fa,Enc.fa,jB,hnlb])) (Fi (E:=En.enc) (len:=(l.length-i)) (cap:=capb) ((l.drop i)) preb postb I hnlb (by omega) hcapb hpostb (Ns (Do8 (rg 11) 157464 (fun w2=>RdV w2 va En.enc l) I St.drawn (fun _ h=>hl.keep h (by simp)) (Dm I (Dm I (Dm I (Dm I (Dq I (As i I U49 Z79 I Ih I I (by omega)) (Dfa U79 I Z77 I (Dq I (BQ (c.key.c) i 0 I G77 Z77 I I Ih hc (by decide) (En.fk _)) (Das I (Das I (AV (d_t I (Ah I I Z77 I I (Kv.e6 _) (Kv.one _) (by first|decide|(show 0+(Kv.c _).length<=(Kv.c _).length; rw[Kv.e6,Kv.e6]; decide)) (Ce (c.key).c (Sep.e7 (by first|rfl|(show (Kv.c _).length=_; rw[Kv.e6,Kv.e6]))) (d_t I (e_q I I (AE I I) (AK (Kt (Af ?_)))))))))))))))))))))))
     refine Pm [2,1] I ?_
     have hck:c.key=(l.getD (spl l) en0).key:=by rw[hsp,Mx hc]
     refine MD I (show Sep.look _ _=some _ from I) (show Sep.look _ _=some _ from I) (AJ I G77 Z77 (Hat 2 I) (Kv.e6 _)) (show Sep.look _ _=some _ from I) ?_
     exact fun _ h=>⟨(_,_),by rw[hck],trivial,by rw[hsp]; exact h.sublist (jR.2 (jR.2 (iQ _)))⟩
end Go.Proofs.YtloldofjddbjoaaGreat
namespace Go.Proofs.YtloldofjddbjoaaGreat
open Go.Sep Go.RowKit Tryz
variable {M:Mo} {B:Nat} {t b:Int}
def lfN (es:List En):Nd:=⟨true,es,[],[],[]⟩
abbrev lfV (s:Sv) (es:List En):NV:=⟨⟨s,sv0,sv0,sv0⟩,lfN es⟩
def idB (z:Int):Bool:=decide (1<=z)&&decide (z<256)
theorem Oj (x:Int):Con prog 269 [.int .i64 x] (fun _=>True) [] (fun _:Unit=>.bool (idB x)) (fun _=>True) (fun _=>[]):=by
 intro w hE hH
 refine E0 func269 I hH ?_
 refine Cs I (Ak I (Cs I (Lm I (Lq I (Qg I) (Lm I ?_)))))
 refine CB 5 I (fun h1=>?_) (fun h1=>?_)
 · refine Lm I (Lq I (Ql I) (Lq I (Qy I) (Ak I (Af (An I I ?_)))))
   exact fun _ h=>⟨(),congrArg (fun z=>Ending.returned (Value.bool z)) (by unfold idB; rw[jq (show 1<=x by omega)]; rfl),trivial,h⟩
 · refine Lx I (Lx I (Lq I (Qz I) (Ak I (Af (An I I ?_)))))
   exact fun _ h=>⟨(),congrArg (fun z=>Ending.returned (Value.bool z)) (by unfold idB; rw[jo (show ¬1<=x by omega)]; rfl),trivial,h⟩
theorem Gc (nv:NV) (hb:∀e∈nv.d.es,e.Bd) (h2l:2<=nv.d.es.length) (hpos:0<lby nv.d.es) (hn:nv.d.es.length<=30000):Con prog 267 [.agg nv.c.toArray] (fun w=>NRd w nv) [] (fun b:Sv×Sv=>.tuple #[.agg (lfV b.1 (nv.d.es.take (spl nv.d.es))).c.toArray,.agg (lfV b.2 (nv.d.es.drop (spl nv.d.es))).c.toArray,.agg (nv.d.es.getD (spl nv.d.es) en0).key.c.toArray,.bool true]) (fun _=>True) (fun b=>[Bp b.1 (nv.d.es.take (spl nv.d.es)),Bp b.2 (nv.d.es.drop (spl nv.d.es))]):=by
 intro w hE hH
 refine E0 func267 I hH ?_
 refine Cs I (l_e I (AQ I I I I (fun bn=>Ce nv.c I (l_e I (Au I I I zeroValue135 (fun b1=>Ce nv0.c I (l_e I (Au I I I zeroValue135 (fun b2=>Ce nv0.c I (l_e I (Au I I I zeroValue77 (fun bp=>Ce (kv0 8).c I (Ak I (Cs I (Lq I (AN (nvL.c) I I (fun w=>by kernel_rfl)) (Lq I (AN (nvL.c) I I (fun w=>by kernel_rfl)) (AV (l_e I (Ah I I AR I I I (NV.one _) (by show 0+5<=5; decide) (Ay (show Sep.splice _ 0 (nvL).c=(nvL).c from Sep.e7 I) (AV (l_e I (Ah I I AR I I I (NV.one _) (by show 0+5<=5; decide) (Ay (show Sep.splice _ 0 (nvL).c=(nvL).c from Sep.e7 I) (Ns (Cs I (Lfa CT I Z49 I (Lo G49 3 I (l_e I (R4 (Oi nv.d.es hb h2l hpos hn) I I I call295 I (fun _ h=>hE.e.keep h (by simp)) ?_))))))))))))))))))))))))))))))
 intro ⟨va,vb⟩ _
 refine Lm I (Lq I (Qx I) (Lq I (Qx I) (Lq I (Qx I) (Lq I (Qx I) (Lfa CT I Z49 I (Pre.fact (fun _ h=>B0 (h.at 0 I)) ?_))))))
 rintro⟨aa,ca,ha⟩
 dsimp only at ha
 subst ha
 refine Pre.fact (fun _ h=>B0 (h.at 1 I)) ?_
 rintro⟨ab,cb,hb⟩
 dsimp only at hb
 subst hb
 refine DS (l_e I (AF I I Z49 I I I (by show 1<5; decide) (Ce (lfV (⟨aa,(nv.d.es.take (spl nv.d.es)).length,ca⟩:Sv) (nv.d.es.take (spl nv.d.es))).c I (Lfa CT I Z49 I (DS (l_e I (AF I I Z49 I I I (by show 1<5; decide) (Ce (lfV (⟨ab,(nv.d.es.drop (spl nv.d.es)).length,cb⟩:Sv) (nv.d.es.drop (spl nv.d.es))).c I (CY (l_e I (Ah I I Z77 I I (Kv.e6 _) (Kv.one _) (by first|decide|(simp only[Kv.e6]; decide)|(show 0+(Kv.c _).length<=(Kv.c _).length; rw[Kv.e6,Kv.e6]; decide)) (Ce ((nv.d.es.getD (spl nv.d.es) en0).key).c (Sep.e7 (by first|rfl|(show (Kv.c _).length=_; rw[Kv.e6,Kv.e6]))) (Ak I (Cs I (Lm I (Lq I (Qt I) (Nk (Sb 19 false I (I) (Ab I (Ae (Ks (Do8 (rg 7) 2052 (fun w2=>(Ad b1 135 (lfV (⟨aa,(nv.d.es.take (spl nv.d.es)).length,ca⟩:Sv) (nv.d.es.take (spl nv.d.es))).c).at w2/\(Ad b2 135 (lfV (⟨ab,(nv.d.es.drop (spl nv.d.es)).length,cb⟩:Sv) (nv.d.es.drop (spl nv.d.es))).c).at w2/\(Ad bp 77 (nv.d.es.getD (spl nv.d.es) en0).key.c).at w2) I St.drawn (fun _ h=>⟨h.at 2 rfl,h.at 1 rfl,h.at 0 rfl⟩) (Dq I (AP ((lfV (⟨aa,(nv.d.es.take (spl nv.d.es)).length,ca⟩:Sv) (nv.d.es.take (spl nv.d.es))).c) I Bs AR I (fun _ h=>h.1) (I) (I)) ?_)))))))))))))))))))))))
 refine Dq I (AP ((lfV (⟨ab,(nv.d.es.drop (spl nv.d.es)).length,cb⟩:Sv) (nv.d.es.drop (spl nv.d.es))).c) I Bs AR I (fun _ h=>h.2.1) (I) (I)) (Dq I (AP ((nv.d.es.getD (spl nv.d.es) en0).key.c) I G77 Z77 I (fun _ h=>h.2.2) (AY _) (Kv.e6 _)) (AV (d_e I (Ah I I AR I I I (NV.one _) (by show 0+5<=5; decide) (Ay (show Sep.splice _ 0 ((lfV (⟨aa,(nv.d.es.take (spl nv.d.es)).length,ca⟩:Sv) (nv.d.es.take (spl nv.d.es)))).c=((lfV (⟨aa,(nv.d.es.take (spl nv.d.es)).length,ca⟩:Sv) (nv.d.es.take (spl nv.d.es)))).c from Sep.e7 I) (Aj (fun _ h=>⟨h.at 0 rfl,h.at 2 rfl,h.at 1 rfl⟩) (AV (d_e I (Ah I I AR I I I (NV.one _) (by show 0+5<=5; decide) (Ay (show Sep.splice _ 0 ((lfV (⟨ab,(nv.d.es.drop (spl nv.d.es)).length,cb⟩:Sv) (nv.d.es.drop (spl nv.d.es)))).c=((lfV (⟨ab,(nv.d.es.drop (spl nv.d.es)).length,cb⟩:Sv) (nv.d.es.drop (spl nv.d.es)))).c from Sep.e7 I) (Aj (fun _ h=>⟨h.at 1 rfl,h.at 0 rfl,h.at 2 rfl⟩) (AV (d_t I (Ah I I Z77 I I (Kv.e6 _) (Kv.one _) (by first|decide|(simp only[Kv.e6]; decide)|(show 0+(Kv.c _).length<=(Kv.c _).length; rw[Kv.e6,Kv.e6]; decide)) (Ce ((nv.d.es.getD (spl nv.d.es) en0).key).c (Sep.e7 (by first|rfl|(show (Kv.c _).length=_; rw[Kv.e6,Kv.e6]))) (d_t I (e_q I I (AE I I) (AK (Kt (Af (Pm [4,2,1] I ?_)))))))))))))))))))))
 refine CY (MD I (AJ I Bs AR (Hat 2 I) (I)) (AJ I Bs AR (Hat 3 I) (I)) (AJ I G77 Z77 (Hat 4 I) (Kv.e6 _)) (show Sep.look _ _=some _ from I) ?_)
 exact fun _ h=>⟨((⟨aa,(nv.d.es.take (spl nv.d.es)).length,ca⟩:Sv),(⟨ab,(nv.d.es.drop (spl nv.d.es)).length,cb⟩:Sv)),rfl,trivial,h.sublist (jR.2 (jR.2 (iQ _)))⟩
theorem BB (nv:NV) (hlf:nv.d.leaf=true) (ka kb2:Int) (hne:¬ka=kb2) (hia:idB ka=true) (hib:idB kb2=true) (hb:∀e∈nv.d.es,e.Bd) (h2l:2<=nv.d.es.length) (hpos:0<lby nv.d.es) (hn:nv.d.es.length<=30000):Con prog 212 [.agg nv.c.toArray,.int .i64 ka,.int .i64 kb2] (fun w=>NRd w nv) [] (fun b:Sv×Sv×Sv×Sv=>.tuple #[.agg (⟨⟨sv0,b.2.2.1,b.2.2.2,sv0⟩,⟨false,[],[ka,kb2],[(nv.d.es.getD (spl nv.d.es) en0).key],[]⟩⟩:NV).c.toArray,.agg (lfV b.1 (nv.d.es.take (spl nv.d.es))).c.toArray,.agg (lfV b.2.1 (nv.d.es.drop (spl nv.d.es))).c.toArray,.bool true]) (fun _=>True) (fun b=>[Bp b.1 (nv.d.es.take (spl nv.d.es)),Bp b.2.1 (nv.d.es.drop (spl nv.d.es)),CG b.2.2.1 [ka,kb2],CH b.2.2.2 [(nv.d.es.getD (spl nv.d.es) en0).key]]):=by
 intro w hE hH
 refine E0 func212 I hH ?_
 refine Cs I (l_e I (AQ I I I I (fun bn=>Ce nv.c I (l_e I (Au I I I zeroValue135 (fun br=>Ce nv0.c I (l_e I (Au I I I zeroValue135 (fun b1=>Ce nv0.c I (l_e I (Au I I I zeroValue135 (fun b2=>Ce nv0.c I (Ak I (Ag (Cs I (Lm I (Lm I (Lq I (Qe I) (Lm I (Sf 14 I hne (Lm I (l_e I (E1 (Oj ka) I call269 Tt (fun _ _=>Lq I (Qt I) (Lq I (Qz I) (Lm I (Sb 19 false I (by rw[hia]; rfl) (Lm I (l_e I (E1 (Oj kb2) I call269 Tt (fun _ _=>Lq I (Qt I) (Lq I (Qz I) (Nk (Sb 23 false I (by rw[hib]; rfl) (Ab I (Ae (Ks ?_)))))))))))))))))))))))))))))))))))))
 refine Xm (fun (s1:Sv) (s2:Sv) (bp:Nat)=>[(1,.int .i64 ka),(2,.int .i64 kb2),(3,.pointer (some ⟨bn,0,none⟩)),(6,.pointer (some ⟨br,0,none⟩)),(7,.pointer (some ⟨b1,0,none⟩)),(8,.pointer (some ⟨b2,0,none⟩)),(9,.bool true),(10,.pointer (some ⟨bp,0,none⟩))]) (fun (s1:Sv) (s2:Sv) (bp:Nat)=>St w [] [Bp s1 (nv.d.es.take (spl nv.d.es)),Bp s2 (nv.d.es.drop (spl nv.d.es)),Ad bp 77 (nv.d.es.getD (spl nv.d.es) en0).key.c,Ad b2 135 (lfV s2 (nv.d.es.drop (spl nv.d.es))).c,Ad b1 135 (lfV s1 (nv.d.es.take (spl nv.d.es))).c,Ad br 135 nv0.c,Ad bn 135 nv.c]) (fun (s1:Sv) (s2:Sv) (bp:Nat)=>True) ?_ ?_
 · refine EZ (fun w2=>(Ad bn 135 nv.c).at w2) I St.drawn (Aq 0 I (Hat 3 I) (AP (nv.c) I Bs AR I Ih (I) (I)) (Aq 3 I (Hat 3 I) (AP (nv.c) I Bs AR I Ih (I) (I)) ?_))
   refine BK 1 10 (by kernel_rfl) I I I I ?_ ?_
   · refine E1 (ER nv hlf) I call270 Tt (fun _ _=>Aj (Hat 3 I) (Aq 2 I (Hat 3 I) (DB I I8 I isAgg358 I I) ?_))
     refine BK 4 10 (by kernel_rfl) I I I I ?_ ?_
     · refine Cz (Gc nv hb h2l hpos hn) I I I I call267 I (fun _ h=>hE.keep h) ?_
       rintro⟨s1,s2⟩ _
       refine Pw (St _ _ (Bp s1 (nv.d.es.take (spl nv.d.es))::Bp s2 (nv.d.es.drop (spl nv.d.es))::_)) ?_
       refine Aj (Hat 5 I) (Aq 5 I (Hat 5 I) (A0 I I) (Aq 6 I (Hat 5 I) (Qx I) (Aq 7 I (Hat 5 I) (Qx I) (Aq 8 I (Hat 5 I) (Qx I) (Aq 9 I (Hat 5 I) (Qx I) (AH 10 (by kernel_rfl) I I (Au I I I zeroValue77 (fun bp=>Ce (kv0 8).c I (Aj (Hat 6 I) (CY (AH 11 (by kernel_rfl) I I (Ah I I AR I I I (NV.one _) (by show 0+5<=5; decide) (Ay (show Sep.splice _ 0 ((lfV s1 (nv.d.es.take (spl nv.d.es)))).c=((lfV s1 (nv.d.es.take (spl nv.d.es)))).c from Sep.e7 I) (Aj (Hat 6 I) (CY (AH 12 (by kernel_rfl) I I (Ah I I AR I I I (NV.one _) (by show 0+5<=5; decide) (Ay (show Sep.splice _ 0 ((lfV s2 (nv.d.es.drop (spl nv.d.es)))).c=((lfV s2 (nv.d.es.drop (spl nv.d.es)))).c from Sep.e7 I) (Aj (Hat 6 I) (AV (AH 13 (by kernel_rfl) I I (Ah I I Z77 I I (Kv.e6 _) (Kv.one _) (by first|decide|(simp only[Kv.e6]; decide)|(show 0+(Kv.c _).length<=(Kv.c _).length; rw[Kv.e6,Kv.e6]; decide)) (Ce ((nv.d.es.getD (spl nv.d.es) en0).key).c (Sep.e7 (by first|rfl|(show (Kv.c _).length=_; rw[Kv.e6,Kv.e6]))) (Aj (Hat 6 I) (Aq 14 I (Hat 6 I) (AE I I) (BW (by kernel_rfl) (Pm [0,0,0,2,2] I ?_)))))))))))))))))))))))))))
       refine Pm [5,5] I ?_
       exact Bb ((s1,s2,bp)) trivial (Si I) (fun _ h=>h)
     · refine Au I I I zeroValue77 (fun bp=>Ce (kv0 8).c I (Aj (Hat 4 I) (AH 4 (by kernel_rfl) I I (Cz (Gc nv hb h2l hpos hn) I I I I call267 I (fun _ h=>hE.keep h) ?_))))
       rintro⟨s1,s2⟩ _
       refine Pw (St _ _ (Bp s1 (nv.d.es.take (spl nv.d.es))::Bp s2 (nv.d.es.drop (spl nv.d.es))::_)) ?_
       refine Aj (Hat 6 I) (Aq 5 I (Hat 6 I) (A0 I I) (Aq 6 I (Hat 6 I) (Qx I) (Aq 7 I (Hat 6 I) (Qx I) (Aq 8 I (Hat 6 I) (Qx I) (Aq 9 I (Hat 6 I) (Qx I) (CY (AH 11 (by kernel_rfl) I I (Ah I I AR I I I (NV.one _) (by show 0+5<=5; decide) (Ay (show Sep.splice _ 0 ((lfV s1 (nv.d.es.take (spl nv.d.es)))).c=((lfV s1 (nv.d.es.take (spl nv.d.es)))).c from Sep.e7 I) (Aj (Hat 6 I) (CY (AH 12 (by kernel_rfl) I I (Ah I I AR I I I (NV.one _) (by show 0+5<=5; decide) (Ay (show Sep.splice _ 0 ((lfV s2 (nv.d.es.drop (spl nv.d.es)))).c=((lfV s2 (nv.d.es.drop (spl nv.d.es)))).c from Sep.e7 I) (Aj (Hat 6 I) (CY (AH 13 (by kernel_rfl) I I (Ah I I Z77 I I (Kv.e6 _) (Kv.one _) (by first|decide|(simp only[Kv.e6]; decide)|(show 0+(Kv.c _).length<=(Kv.c _).length; rw[Kv.e6,Kv.e6]; decide)) (Ce ((nv.d.es.getD (spl nv.d.es) en0).key).c (Sep.e7 (by first|rfl|(show (Kv.c _).length=_; rw[Kv.e6,Kv.e6]))) (Aj (Hat 6 I) (Aq 14 I (Hat 6 I) (AE I I) (BW (by kernel_rfl) (D0 ?_)))))))))))))))))))))))
       refine Pm [4,4,1,1,1,1] I ?_
       exact Bb ((s1,s2,bp)) trivial (Si I) (fun _ h=>h)
   · refine Au I I I zeroValue77 (fun bp=>Ce (kv0 8).c I (Aj (Hat 4 I) (AH 1 (by kernel_rfl) I I (E1 (ER nv hlf) I call270 Tt (fun _ _=>Aj (Hat 4 I) (Aq 2 I (Hat 4 I) (DB I I8 I isAgg358 I I) (AH 4 (by kernel_rfl) I I (Cz (Gc nv hb h2l hpos hn) I I I I call267 I (fun _ h=>hE.keep h) ?_))))))))
     rintro⟨s1,s2⟩ _
     refine Pw (St _ _ (Bp s1 (nv.d.es.take (spl nv.d.es))::Bp s2 (nv.d.es.drop (spl nv.d.es))::_)) ?_
     refine Aj (Hat 6 I) (Aq 5 I (Hat 6 I) (A0 I I) (Aq 6 I (Hat 6 I) (Qx I) (Aq 7 I (Hat 6 I) (Qx I) (Aq 8 I (Hat 6 I) (Qx I) (Aq 9 I (Hat 6 I) (Qx I) (CY (AH 11 (by kernel_rfl) I I (Ah I I AR I I I (NV.one _) (by show 0+5<=5; decide) (Ay (show Sep.splice _ 0 ((lfV s1 (nv.d.es.take (spl nv.d.es)))).c=((lfV s1 (nv.d.es.take (spl nv.d.es)))).c from Sep.e7 I) (Aj (Hat 6 I) (CY (AH 12 (by kernel_rfl) I I (Ah I I AR I I I (NV.one _) (by show 0+5<=5; decide) (Ay (show Sep.splice _ 0 ((lfV s2 (nv.d.es.drop (spl nv.d.es)))).c=((lfV s2 (nv.d.es.drop (spl nv.d.es)))).c from Sep.e7 I) (Aj (Hat 6 I) (CY (AH 13 (by kernel_rfl) I I (Ah I I Z77 I I (Kv.e6 _) (Kv.one _) (by first|decide|(simp only[Kv.e6]; decide)|(show 0+(Kv.c _).length<=(Kv.c _).length; rw[Kv.e6,Kv.e6]; decide)) (Ce ((nv.d.es.getD (spl nv.d.es) en0).key).c (Sep.e7 (by first|rfl|(show (Kv.c _).length=_; rw[Kv.e6,Kv.e6]))) (Aj (Hat 6 I) (Aq 14 I (Hat 6 I) (AE I I) (BW (by kernel_rfl) (D0 ?_)))))))))))))))))))))))
     refine Pm [4,4,1,1,1,1] I ?_
     exact Bb ((s1,s2,bp)) trivial (Si I) (fun _ h=>h)
 · intro s1 s2 bp _
   refine Ag (Cs I (Lm I (Lq I (Qt I) (Nk (Ab I (Ae (Ks (EZ (fun w2=>(Ad b1 135 (lfV s1 (nv.d.es.take (spl nv.d.es))).c).at w2/\(Ad b2 135 (lfV s2 (nv.d.es.drop (spl nv.d.es))).c).at w2/\(Ad bp 77 (nv.d.es.getD (spl nv.d.es) en0).key.c).at w2) I St.drawn (Aq 0 I (fun _ h=>⟨h.at 4 rfl,h.at 3 rfl,h.at 2 rfl⟩) (A0 I I) (Aq 1 I (fun _ h=>⟨h.at 4 rfl,h.at 3 rfl,h.at 2 rfl⟩) (A0 I I) (Aq 3 I (fun _ h=>⟨h.at 4 rfl,h.at 3 rfl,h.at 2 rfl⟩) (AP ((nv.d.es.getD (spl nv.d.es) en0).key.c) I G77 Z77 I (fun _ h=>h.2.2) (AY _) (Kv.e6 _)) (Aq 6 I (fun _ h=>⟨h.at 4 rfl,h.at 3 rfl,h.at 2 rfl⟩) (AP ((lfV s1 (nv.d.es.take (spl nv.d.es))).c) I Bs AR I (fun _ h=>h.1) (I) (I)) (Aq 7 I (fun _ h=>⟨h.at 4 rfl,h.at 3 rfl,h.at 2 rfl⟩) (AP ((lfV s2 (nv.d.es.drop (spl nv.d.es))).c) I Bs AR I (fun _ h=>h.2.1) (I) (I)) ?_)))))))))))))
   refine BK 2 4 (by kernel_rfl) I I I I ?_ ?_
   · refine Ax (sz:=1) [.tmp 42,.tmp 43] I I I I I U22 Z3 I zeroValue3 I (fun bk=>Aj (fun _ h=>⟨h.at 5 rfl,h.at 4 rfl,h.at 3 rfl⟩) (AH 4 (by kernel_rfl) I I (Ax (sz:=9) [.tmp 45] I I I I I Ho Z77 I zeroValue77 (by simp[Value.cells,Kv.e6]) (fun bq=>Aj (fun _ h=>⟨h.at 6 rfl,h.at 5 rfl,h.at 4 rfl⟩) (Aq 5 I (fun _ h=>⟨h.at 6 rfl,h.at 5 rfl,h.at 4 rfl⟩) (AN ((⟨⟨sv0,⟨some ⟨bk,0,none⟩,2,2⟩,⟨some ⟨bq,0,none⟩,1,1⟩,sv0⟩,⟨false,[],[ka,kb2],[(nv.d.es.getD (spl nv.d.es) en0).key],[]⟩⟩:NV).c) I I (fun w=>by kernel_rfl)) (Ld (AH 8 (by kernel_rfl) I I (Ah I I AR I I I (NV.one _) (by show 0+5<=5; decide) (Ay (show Sep.splice _ 0 ((⟨⟨sv0,⟨some ⟨bk,0,none⟩,2,2⟩,⟨some ⟨bq,0,none⟩,1,1⟩,sv0⟩,⟨false,[],[ka,kb2],[(nv.d.es.getD (spl nv.d.es) en0).key],[]⟩⟩:NV)).c=((⟨⟨sv0,⟨some ⟨bk,0,none⟩,2,2⟩,⟨some ⟨bq,0,none⟩,1,1⟩,sv0⟩,⟨false,[],[ka,kb2],[(nv.d.es.getD (spl nv.d.es) en0).key],[]⟩⟩:NV)).c from Sep.e7 I) (Aj (fun _ h=>⟨h.at 7 rfl,h.at 6 rfl,h.at 5 rfl⟩) (Ld (AH 9 (by kernel_rfl) I I (Ah I I AR I I I (NV.one _) (by show 0+5<=5; decide) (Ay (show Sep.splice _ 0 ((lfV s1 (nv.d.es.take (spl nv.d.es)))).c=((lfV s1 (nv.d.es.take (spl nv.d.es)))).c from Sep.e7 I) (Aj (fun _ h=>⟨h.at 0 rfl,h.at 7 rfl,h.at 6 rfl⟩) (Ld (AH 10 (by kernel_rfl) I I (Ah I I AR I I I (NV.one _) (by show 0+5<=5; decide) (Ay (show Sep.splice _ 0 ((lfV s2 (nv.d.es.drop (spl nv.d.es)))).c=((lfV s2 (nv.d.es.drop (spl nv.d.es)))).c from Sep.e7 I) (Aj (fun _ h=>⟨h.at 1 rfl,h.at 0 rfl,h.at 7 rfl⟩) (Aq 11 I (fun _ h=>⟨h.at 1 rfl,h.at 0 rfl,h.at 7 rfl⟩) (AE I I) (BW (by kernel_rfl) (Kt (Af (CY (rowLit (AG .i64) [ka,kb2] I I (CY ?_)))))))))))))))))))))))))))
     refine rowLit (Kv.enc 8) [(nv.d.es.getD (spl nv.d.es) en0).key] I I (Pm [5,5,1,0,2,1] I (MD I (AJ I Bs AR (Hat 4 I) (I)) (AJ I Bs AR (Hat 5 I) (I)) (AJ I Bs AR (Hat 6 I) (I)) (show Sep.look _ _=some _ from I) ?_))
     exact fun _ h=>⟨(s1,s2,⟨some ⟨bk,0,none⟩,2,2⟩,⟨some ⟨bq,0,none⟩,1,1⟩),rfl,trivial,h.sublist (jR.2 (jR.2 (jR.2 (jR.2 (iQ _)))))⟩
   · refine Ax (sz:=9) [.tmp 45] I I I I I Ho Z77 I zeroValue77 (by simp[Value.cells,Kv.e6]) (fun bq=>Aj (fun _ h=>⟨h.at 5 rfl,h.at 4 rfl,h.at 3 rfl⟩) (AH 2 (by kernel_rfl) I I (Ax (sz:=1) [.tmp 42,.tmp 43] I I I I I U22 Z3 I zeroValue3 I (fun bk=>Aj (fun _ h=>⟨h.at 6 rfl,h.at 5 rfl,h.at 4 rfl⟩) (Aq 5 I (fun _ h=>⟨h.at 6 rfl,h.at 5 rfl,h.at 4 rfl⟩) (AN ((⟨⟨sv0,⟨some ⟨bk,0,none⟩,2,2⟩,⟨some ⟨bq,0,none⟩,1,1⟩,sv0⟩,⟨false,[],[ka,kb2],[(nv.d.es.getD (spl nv.d.es) en0).key],[]⟩⟩:NV).c) I I (fun w=>by kernel_rfl)) (Ld (AH 8 (by kernel_rfl) I I (Ah I I AR I I I (NV.one _) (by show 0+5<=5; decide) (Ay (show Sep.splice _ 0 ((⟨⟨sv0,⟨some ⟨bk,0,none⟩,2,2⟩,⟨some ⟨bq,0,none⟩,1,1⟩,sv0⟩,⟨false,[],[ka,kb2],[(nv.d.es.getD (spl nv.d.es) en0).key],[]⟩⟩:NV)).c=((⟨⟨sv0,⟨some ⟨bk,0,none⟩,2,2⟩,⟨some ⟨bq,0,none⟩,1,1⟩,sv0⟩,⟨false,[],[ka,kb2],[(nv.d.es.getD (spl nv.d.es) en0).key],[]⟩⟩:NV)).c from Sep.e7 I) (Aj (fun _ h=>⟨h.at 7 rfl,h.at 6 rfl,h.at 5 rfl⟩) (Ld (AH 9 (by kernel_rfl) I I (Ah I I AR I I I (NV.one _) (by show 0+5<=5; decide) (Ay (show Sep.splice _ 0 ((lfV s1 (nv.d.es.take (spl nv.d.es)))).c=((lfV s1 (nv.d.es.take (spl nv.d.es)))).c from Sep.e7 I) (Aj (fun _ h=>⟨h.at 0 rfl,h.at 7 rfl,h.at 6 rfl⟩) (Ld (AH 10 (by kernel_rfl) I I (Ah I I AR I I I (NV.one _) (by show 0+5<=5; decide) (Ay (show Sep.splice _ 0 ((lfV s2 (nv.d.es.drop (spl nv.d.es)))).c=((lfV s2 (nv.d.es.drop (spl nv.d.es)))).c from Sep.e7 I) (Aj (fun _ h=>⟨h.at 1 rfl,h.at 0 rfl,h.at 7 rfl⟩) (Aq 11 I (fun _ h=>⟨h.at 1 rfl,h.at 0 rfl,h.at 7 rfl⟩) (AE I I) (BW (by kernel_rfl) (Kt (Af (DS (rowLit (AG .i64) [ka,kb2] I I (CY ?_)))))))))))))))))))))))))))
     refine rowLit (Kv.enc 8) [(nv.d.es.getD (spl nv.d.es) en0).key] I I (Pm [5,5,1,0,2,1] I (MD I (AJ I Bs AR (Hat 4 I) (I)) (AJ I Bs AR (Hat 5 I) (I)) (AJ I Bs AR (Hat 6 I) (I)) (show Sep.look _ _=some _ from I) ?_))
     exact fun _ h=>⟨(s1,s2,⟨some ⟨bk,0,none⟩,2,2⟩,⟨some ⟨bq,0,none⟩,1,1⟩),rfl,trivial,h.sublist (jR.2 (jR.2 (jR.2 (jR.2 (iQ _)))))⟩
theorem Z2 {f:Vw} (h:f.st≠3):isC t f=false:=by unfold isC; rw[jo h]; rfl
theorem Rk (h:M.find b=none):∀(j:Nat) (z:Vw),M.fr[j]?=some z->z.st=1\/z.st=2->z.blk≠b:=fun j z hz hs e=>by
 have:=Ji (p:=isB b) (l:=M.fr) h z (hY hz)
 unfold isB at this
 rcases hs with hs|hs<;>simp[e,hs] at this
theorem Va (h:bkB b=true):0<=b/\b<256:=by unfold bkB at h; simpa using h
theorem Z6 (h:tkB t=true):0<=t/\t<8:=by unfold tkB at h; simpa using h
theorem XV (h:M.mayW t b=true):tkB t=true:=by
 unfold Mo.mayW at h; cases hh:tkB t with
 |true=>rfl
 |false=>rw[hh] at h; simp at h
theorem pin_ok (h:M.Ok B) (t b:Int) (hB:B+1<=60000):(M.pin t b).2.Ok (B+1):=by
 have h1:=h.mono (jT B) hB
 cases hc:(bkB b&&M.mayW t b) with
 |false=>rw[PB hc]; exact h1
 |true =>
  have hbk:bkB b=true:=by rw[gQ] at hc; exact hc.1
  have hbr:=Va hbk
  cases hf:M.find b with
  |none =>
   cases hk:M.takes t with
   |none=>rw[Ls hc hf hk]; exact Uu h t b ⟨by omega,by omega⟩ hB
   |some k =>
    rw[NP hc hf hk]
    obtain⟨y,hy,hys,_⟩:=Hx hk
    refine J1 (M:=M.leave t) (leave_ok h1 t) (y:=y) hy (.inr (.inl rfl)) (fun e=>by rcases e with e|e<;>cases e) (fun _=>hbr) (fun e=>by cases e) (fun _=>rfl) ⟨by show (0:Int)<=1; decide,by show (1:Int)<=_; omega⟩ (fun _ j z _ hz hs=>Rk hf j z hz hs) (fun q _ e=>by rw[hys] at e; cases e) (Mp 1000)
  |some i =>
   obtain⟨y,hy,hyb,hys,hya⟩:=Ec hf
   rw[UC hc hf hya]
   have hm:=hY hy
   have hp:=h.pins y hm
   have hP:((M.put i {y with pins:=y.pins+1,ref:=true}).leave t).Ok (B+1):=leave_ok (E7 (y':={y with pins:=y.pins+1,ref:=true}) h1 hy rfl rfl rfl ⟨by show 0<=y.pins+1; omega,by show y.pins+1<=((B+1:Nat):Int); omega⟩ (h.es y hm)) t
   split
   · exact hP
   · rename_i h2
     refine⟨hP.n1,hP.n64,hP.st,hP.none',hP.blk,hP.own,hP.own0,hP.pins,hP.uni,?_,hP.lB,hP.ln,hP.lb,fun q hq=>?_,hP.es,hP.hw,hP.B9⟩
     · show (M.loads++[(t,b)]).length<=B+1
       rw[fL]; have:=h.ll; simp; omega
     · rcases ib.1 (show q∈M.loads++[(t,b)] from hq) with hq|hq
       · exact hP.lo q hq
       · rw[iE] at hq; subst hq
         refine⟨{y with pins:=y.pins+1,ref:=true},?_,by rcases hys with e|e; exact e; exact absurd e h2,hyb⟩
         exact hY (show (M.fr.set i _)[i]?=some _ from jV (gl.1 hy).1)
theorem claim_ok (h:M.Ok B) (t:Int) (hB:B+1<=60000):(M.claim t).2.Ok (B+1):=by
 have h1:=h.mono (jT B) hB
 cases hc:M.mayW t (-1) with
 |false=>rw[NQ hc]; exact h1
 |true =>
  have htr:=Z6 (XV hc)
  cases hk:M.takes t with
  |none=>rw[IV hc hk]; exact Uu h t (-1) ⟨by omega,by omega⟩ hB
  |some k =>
   rw[J5 hc hk]
   obtain⟨y,hy,hys,_⟩:=Hx hk
   exact J1 (M:=M.leave t) (leave_ok h1 t) (y:=y) hy (.inr (.inr (.inr rfl))) (fun _=>rfl) (fun e=>by rcases e with e|e<;>cases e) (fun _=>htr) (fun e=>absurd rfl e) ⟨by show (0:Int)<=1; decide,by show (1:Int)<=_; omega⟩ (fun e=>by rcases e with e|e<;>cases e) (fun q _ e=>by rw[hys] at e; cases e) (Mp 1000)
theorem fill_ok (h:M.Ok B) (b:Int) (nd:Nd) (he:nd.Sm 1000):(M.fill b nd).2.Ok B:=by
 cases hf:M.frI b 1 with
 |none=>rw[Ll nd hf]; exact h
 |some i =>
  rw[Ln nd hf]
  obtain⟨hf1,hst⟩:=G8 hf
  obtain⟨y,hy,hyb,hys,hya⟩:=Ec hf1
  rw[hya] at hst ⊢
  have hm:=hY hy
  have hF:({M with loads:=M.loads.filter (fun q=>!decide (q.2=b))}:Mo).Ok B :=
   ⟨h.n1,h.n64,h.st,h.none',h.blk,h.own,h.own0,h.pins,h.uni,gF (jL _ _) h.ll,h.lB,h.ln,h.lb,fun q hq=>h.lo q (jE.1 hq).1,h.es,h.hw,h.B9⟩
  refine J1 (M:={M with loads:=M.loads.filter (fun q=>!decide (q.2=b))}) hF (i:=i) (y:=y) (y':={y with st:=2,nd:=nd}) hy (.inr (.inr (.inl rfl))) (fun e=>by rcases e with e|e<;>cases e) (fun _=>h.blk y hm hys) (fun e=>by cases e) (fun _=>h.own0 y hm (by rw[hst]; decide)) (h.pins y hm) (fun _ j z hj hz hs e=>hj (h.uni j i z y hz hy hs hys e)) (fun q hq _ e=>?_) he
  have:=(jE.1 hq).2
  rw[show q.2=b from by rw[<-e]; exact hyb] at this
  simp at this
theorem give_ok (h:M.Ok B) (t:Int):(M.give t).Ok B:=by
 have hm:∀f∈(M.give t).fr,(f∈M.fr/\isC t f=false)\/f=BG:=fun f hf=>by
  obtain⟨g,hg,e⟩:=gj.1 (show f∈M.fr.map (fun f=>if isC t f=true then BG else f) from hf)
  split at e
  · exact .inr e.symm
  · rename_i hn; subst e; exact .inl ⟨hg,by simpa using hn⟩
 have hg:∀(i:Nat) (f:Vw),(M.give t).fr[i]?=some f->M.fr[i]?=some f\/f=BG:=fun i f hf=>by
  rw[show (M.give t).fr=M.fr.map (fun f=>if isC t f=true then BG else f) from rfl,gm,hU] at hf
  obtain⟨g,hg,e⟩:=hf
  split at e
  · exact .inr e.symm
  · subst e; exact .inl hg
 have hl:(M.give t).fr.length=M.fr.length:=gS ..
 refine⟨by rw[hl]; exact h.n1,by rw[hl]; exact h.n64,fun f hf=>?_,fun f hf=>?_,fun f hf=>?_,fun f hf=>?_,fun f hf=>?_,fun f hf=>?_,fun i j f g hi hj hf hg2 e=>?_,h.ll,h.lB,h.ln,h.lb,fun q hq=>?_,fun f hf=>?_,h.hw,h.B9⟩
 · rcases hm f hf with⟨hf,_⟩|rfl
   · exact h.st f hf
   · exact .inl I
 · rcases hm f hf with⟨hf,_⟩|rfl
   · exact h.none' f hf
   · exact fun _=>I
 · rcases hm f hf with⟨hf,_⟩|rfl
   · exact h.blk f hf
   · exact fun e=>by rcases e with e|e<;>cases e
 · rcases hm f hf with⟨hf,_⟩|rfl
   · exact h.own f hf
   · exact fun e=>by cases e
 · rcases hm f hf with⟨hf,_⟩|rfl
   · exact h.own0 f hf
   · exact fun _=>I
 · rcases hm f hf with⟨hf,_⟩|rfl
   · exact h.pins f hf
   · exact⟨by decide,by show (0:Int)<=_; omega⟩
 · rcases hg i f hi with hi|rfl
   · rcases hg j g hj with hj|rfl
     · exact h.uni i j f g hi hj hf hg2 e
     · rcases hg2 with e|e<;>cases e
   · rcases hf with e|e<;>cases e
 · obtain⟨f,hf,h1,h2⟩:=h.lo q hq
   refine⟨f,gj.2 ⟨f,hf,?_⟩,h1,h2⟩
   rw[fR]
   rw[Z2 (by rw[h1]; decide)]; decide
 · rcases hm f hf with⟨hf,_⟩|rfl
   · exact h.es f hf
   · exact Mp 1000
theorem XW (h:M.Ok B) (t b:Int) (nd:Nd) (he:nd.Sm 1000):(M.name t b nd).2.Ok B:=by
 cases hb:(bkB b&&(M.find b).isNone) with
 |false=>rw[J6 nd hb]; exact h
 |true =>
  cases hk:Cp (isC t) M.fr with
  |none=>rw[NT nd hk]; exact h
  |some k =>
   rw[NU nd hb hk]
   rw[gQ,jJ] at hb
   obtain⟨y,hy,hc,_⟩:=C6 hk
   have hys:y.st=3:=by unfold isC at hc; simp only[gQ,ia] at hc; exact hc.1
   exact J1 h hy (.inr (.inr (.inl rfl))) (fun e=>by rcases e with e|e<;>cases e) (fun _=>Va hb.1) (fun e=>by cases e) (fun _=>rfl) ⟨by show (0:Int)<=0; decide,by show (0:Int)<=_; omega⟩ (fun _ j z _ hz hs=>Rk hb.2 j z hz hs) (fun q _ e=>by rw[hys] at e; cases e) he
theorem unpin_ok (h:M.Ok B) (b:Int):(M.unpin b).2.Ok B:=by
 cases hf:M.frI b 2 with
 |none=>rw[J2 hf]; exact h
 |some i =>
  obtain⟨hf1,hst⟩:=G8 hf
  obtain⟨y,hy,hyb,hys,hya⟩:=Ec hf1
  by_cases hp:(M.at' i).pins=0
  · rw[J3 hf hp]; exact h
  · rw[J4 hf hp]
    rw[hya] at hp ⊢
    have hm:=hY hy
    have:=h.pins y hm
    exact E7 h hy I I I ⟨by show 0<=y.pins-1; omega,by show y.pins-1<=_; omega⟩ (h.es y hm)
theorem Z7 (h:M.Ok B) (b:Int) (nd:Nd) (he:nd.Sm 1000):(M.setN b nd).2.Ok B:=by
 cases hf:M.frI b 2 with
 |none=>rw[NM nd hf]; exact h
 |some i =>
  rw[NN nd hf]
  obtain⟨hf1,hst⟩:=G8 hf
  obtain⟨y,hy,hyb,hys,hya⟩:=Ec hf1
  rw[hya]
  exact E7 h hy I I I (h.pins y (hY hy)) he
theorem Z8 {n:Nat} (h1:1<=n) (h2:n<=64):(mo0 n).Ok 0:=by
 have hm:∀f∈(mo0 n).fr,f=BG:=fun f hf=>(ic.1 (show f∈List.replicate n BG from hf)).2
 have hl:(mo0 n).fr.length=n:=jB ..
 refine⟨by omega,by omega,fun f hf=>?_,fun f hf=>?_,fun f hf=>?_,fun f hf=>?_,fun f hf=>?_,fun f hf=>?_,fun i j f g hi _ hf _ _=>?_,ga _,ga _,iO,(fun q hq=>nomatch hq),(fun q hq=>nomatch hq),fun f hf=>?_,rfl,by decide⟩
 · rw[hm f hf]; exact .inl rfl
 · rw[hm f hf]; exact fun _=>rfl
 · rw[hm f hf]; exact fun e=>by rcases e with e|e<;>cases e
 · rw[hm f hf]; exact fun e=>by cases e
 · rw[hm f hf]; exact fun _=>rfl
 · rw[hm f hf]; exact⟨by decide,by decide⟩
 · rw[hm f (hY hi)] at hf; rcases hf with e|e<;>cases e
 · rw[hm f hf]; exact Mp 1000
section
variable {P:Program} {n:Nat} {L:Env} {X:World->Prop} {o:Oper} {Q:Exit->Act->World->Prop} {K:Act->World->Prop}
variable {w0:World} {D:List Nat} {H:List Ent} {α:Type} {E:Enc α} {l:List α} {v:Value}
theorem LA {t tx e:TypeId} {i:TypeInfo} {z:Value} {s x:Operand} {m d:Nat} {a0:α} (ho:o.op=.call ⟨.builtin .append,#[s,x],#[t,tx]⟩) (hd:o.dst=some d) (hnn:d.blt n=true) (ht:P.underlying t=some (.slice e)) (htx:P.underlying tx=some (.int .i64)) (hi:P.info? e=some i) (hs:i.size=E.sz) (hz:i.zero=some z) (hzc:z.cells.toList=E.f a0)
 (hsv:ev L s=some v) (hxv:ev L x=some (.int .i64 (m:Int))) (hb:(l.length+m)*i.bytes<=140737488355328) (hn:l.length+m<=9223372036854775807)
 (h:∀v',Pre n ((d,v')::L) (St w0 D (Az v' e E (l++List.replicate m a0)::H)) K):EOp P n L (St w0 D (Az v e E l::H)) o Q K:=by
 by_cases hgt:vcap v<l.length+m
 · exact Hr ho hd hnn ht htx hi hs hz hzc hsv hxv (fun _ h=>h.rd 0 I) hgt hb hn (fun v'=>(h v').world _ (fun w s=>s.sublist (jR.2 (iP _ _))))
 · exact EOp.val (β:=Value) (fun v=>v) (fun _=>True) (fun v'=>St w0 D (Az v' e E (l++List.replicate m a0)::H)) hd hnn (fun ac w kn hX=>by
    have hrd:RdV w v E l:=BO (hX.at 0 rfl)
    obtain⟨a,c,rfl,hc,_⟩:=hrd
    have hroom:l.length+m<=c:=by have:¬c<l.length+m:=hgt; omega
    have hsz:∀w,(sizeOf e).run P w=.ok E.sz w:=fun w=>by simp[sizeOf,typeInfo,hi,hs]
    have hti:∀w,(typeInfo e).run P w=.ok i w:=fun w=>by simp[typeInfo,hi]
    have hzv:∀w,(zeroValue e).run P w=.ok z w:=fun w=>by simp[zeroValue,typeInfo,hi,hz]
    have hw1:IntKind.i64.wrap (m:Int)=(m:Int):=Cj (by omega)
    have h5:¬((m:Int)*(i.bytes:Int)>281474976710656):=by
     have:m*i.bytes<=(l.length+m)*i.bytes:=gr _ (by omega)
     rw[<-jb]; omega
    have h6:¬((m:Int)<0):=by omega
    have hzc2:z.cells.size=E.sz:=by rw[<-ij,hzc,E.len]
    have hne:0<E.sz:=E.pos
    have hzf:(Builtin.zeroCells z.cells m).toList=E.flat (List.replicate m a0):=by
     refine gv (fun k=>?_)
     by_cases hk:k<m*E.sz
     · have hmod:k%E.sz<E.sz:=gg _ E.pos
       have hdiv:k/E.sz<m:=(Nat.div_lt_iff_lt_mul E.pos).2 hk
       have e1:k=k/E.sz*E.sz+k%E.sz:=by rw[gf]; exact (Nat.div_add_mod k E.sz).symm
       have hg:=E.flat_get (List.replicate m a0) (k/E.sz) (k%E.sz) a0 _ (by simp[hdiv]) (fD (by rw[E.len]; exact hmod))
       rw[<-e1] at hg
       rw[hg]
       have h2:z.cells[k%z.cells.size]! = (E.f a0)[k%E.sz]'(by rw[E.len]; exact hmod):=by
        rw[getElem!_pos z.cells (k%z.cells.size) (by rw[hzc2]; exact hmod)]
        have:z.cells.toList[k%z.cells.size]'(by rw[ij,hzc2]; exact hmod)=(E.f a0)[k%E.sz]'(by rw[E.len]; exact hmod):=by simp only[hzc,hzc2]
        simpa using this
       have h3:k<(Builtin.zeroCells z.cells m).size:=by rw[jl,hzc2]; exact hk
       rw[<-h2,jz,jA h3]
       simp[Builtin.zeroCells]
     · rw[fI (by rw[ij,jl,hzc2]; omega),fI (by rw[E.fa,jB]; omega)]
    have hm0:∀w,(if m*E.sz=0 then pure #[] else do pure (Builtin.zeroCells (<-zeroValue e).cells m):Sem (Array Value)).run P w=.ok (Builtin.zeroCells z.cells m) w:=fun w=>by
     split
     · rename_i h0
       have:m=0:=by rcases gw.1 h0 with h|h; exact h; omega
       subst this
       have:Builtin.zeroCells z.cells 0=#[]:=by apply jk.1; rw[hzf]; rfl
       rw[this]; rfl
     · simp[hzv]
    have hrun:(Builtin.append_ #[t,tx] o.type #[.slice a l.length c,.int .i64 (m:Int)]).run P w=(Sem.run P (match a with|some a=>storeCells (a.add (l.length*E.sz)) (E.flat (List.replicate m a0))|none=>pure ():Sem Unit) w).andThen (fun _ w'=>.ok (.slice a (l.length+m) c) w'):=by
     by_cases h0:m*E.sz=0
     · have hmz:m=0:=by rcases gw.1 h0 with h|h; exact h; omega
       subst hmz
       have hw0:IntKind.i64.wrap 0=0:=by decide
       cases a<;>simp[Builtin.append_,AT ht,AT htx,hsz,hti,asInt,asIntOf,hw0,hroom,storeCells,Enc.flat_nil,hc]
     · have hmw:=hm0 w
       cases a<;>simp[Builtin.append_,AT ht,AT htx,hsz,hti,hzv,asInt,asIntOf,hw1,h6,h5,hroom,h0,hzf]
    have hexec:∀r,(Builtin.append_ #[t,tx] o.type #[.slice a l.length c,.int .i64 (m:Int)]).run P w=r->(execOp ac.eval o).run P w=r.andThen (fun v w'=>.ok (.value v) w'):=fun r hr=>by
     simp[execOp,ho,resolve,invoke,builtin,kn.eval hsv,kn.eval hxv,hr]
    by_cases hm:m=0
    · subst hm
      refine⟨.slice a l.length c,w,?_,trivial,by simpa using hX⟩
      rw[hexec _ hrun]
      cases a<;>simp[Enc.flat_nil,storeCells]
    · have hat:Row (.slice a l.length c) e E l ((C4 (.slice a l.length c)).bind (w.heap[·]?)):=hX.at 0 rfl
      rcases hat with⟨a',he,rfl⟩|⟨b,cap,pre,post,he,hcp,ho',hlc,hpost⟩
      · cases he; simp at hroom; exact absurd hroom hm
      · cases he
        have hown:C4 (.slice (some ⟨b,pre.length,none⟩) l.length c)=some b:=by simp[C4]; omega
        have h1:St w0 D (Ad b e (pre++E.flat l++post)::H) w:=hX.head hown.symm (fun _=>by rw[hown] at ho'; exact ho')
        have hl1:=E.fa l
        have hl2:=E.fa (List.replicate m a0)
        rw[jB] at hl2
        have hmul:(l.length+m)*E.sz<=c*E.sz:=gr _ hroom
        have hsub:(c-l.length)*E.sz=c*E.sz-l.length*E.sz:=jj ..
        rw[fW] at hmul
        have hfit:pre.length+l.length*E.sz+0+(E.flat (List.replicate m a0)).length<=(pre++E.flat l++post).length:=by
         simp only[fL]; omega
        obtain⟨w',hr,h'⟩:=B6 (P:=P) (off:=pre.length+l.length*E.sz) (E.flat (List.replicate m a0)) _ 0 h1 hfit (fun u hu=>E.flat_one _ u hu)
        refine⟨.slice (some ⟨b,pre.length,none⟩) (l.length+m) c,w',?_,trivial,?_⟩
        · rw[hexec _ hrun]
          simp only[BF,hr,gz]
        · rw[splice_eq _ _ _ (by simpa using hfit)] at h'
          have t1:(pre++E.flat l++post).take (pre.length+l.length*E.sz+0)=pre++E.flat l:=by
           rw[iM,<-hl1,<-fL,ja]
          rw[t1] at h'
          have e2:pre++E.flat l++E.flat (List.replicate m a0)=pre++E.flat (l++List.replicate m a0):=by rw[E.fm,gK]
          rw[e2] at h'
          have:=CX (cap:=c) h' (by omega) (by simpa using hroom) (by
           simp only[fK,fL,iM,jB]
           have hs2:(c-(l.length+m))*E.sz=c*E.sz-(l.length*E.sz+m*E.sz):=by rw[jj,fW]
           omega)
          simpa using this) (fun v' _=>h v')
end
end Go.Proofs.YtloldofjddbjoaaGreat
namespace Go.Proofs.YtloldofjddbjoaaGreat
open Go.Sep Go.RowKit Tryz
variable {u:Bool} {va vb:Value} {i:Nat} {t e:TypeId} {x:Operand} {β:Type}
def DX:List Int:=[1,0,0,0]++List.replicate 252 0
def Dz:List Int:=[1,0,0,0]++le (FQ DX) 4++List.replicate 248 0
theorem Ek:DX.length=256:=by unfold DX; rw[fL,jB]; rfl
theorem Kd:Dz.length=256:=by unfold Dz; rw[fL,fL,jB,B1]; rfl
theorem Ke:[1,0,0,0]++List.replicate 4 (0:Int)++List.replicate 248 0=DX:=by
 unfold DX; rw[gK,jG]
theorem PN (pre post:List Value):Sep.splice (pre++(AG .u8).flat DX++post) (pre.length+4) ((AG .u8).flat (le (FQ DX) 4))=pre++(AG .u8).flat Dz++post:=by
 have h0:DX=[1,0,0,0]++(List.replicate 4 0++List.replicate 248 0):=by rw[<-gK,Ke]
 have h1:(AG .u8).flat DX=(AG .u8).flat [1,0,0,0]++((AG .u8).flat (List.replicate 4 0)++(AG .u8).flat (List.replicate 248 0)):=by
  conv=>lhs; rw[h0]
  rw[Enc.fm,Enc.fm]
 have h2:(AG .u8).flat Dz=(AG .u8).flat [1,0,0,0]++(AG .u8).flat (le (FQ DX) 4)++(AG .u8).flat (List.replicate 248 0):=by
  unfold Dz; rw[Enc.fm,Enc.fm]
 have hA:(pre++(AG .u8).flat [1,0,0,0]).length=pre.length+4:=by rw[fL,Enc.fa]; rfl
 have:=Sep.splice_part ((AG .u8).flat (le (FQ DX) 4)) ((AG .u8).flat (List.replicate 4 0)) (pre++(AG .u8).flat [1,0,0,0]) ((AG .u8).flat (List.replicate 248 0)++post) (by rw[Enc.fa,Enc.fa,jB,B1])
 rw[hA] at this
 rw[h1,h2]
 simp only[gK] at this ⊢
 exact this
theorem S0 (pre post:List Value):Sep.splice (pre++(AG .u8).flat Dz++post) (pre.length+4) (List.replicate 4 (.int .u8 0))=pre++(AG .u8).flat DX++post:=by
 have h0:DX=[1,0,0,0]++(List.replicate 4 0++List.replicate 248 0):=by rw[<-gK,Ke]
 have h1:(AG .u8).flat DX=(AG .u8).flat [1,0,0,0]++((AG .u8).flat (List.replicate 4 0)++(AG .u8).flat (List.replicate 248 0)):=by
  conv=>lhs; rw[h0]
  rw[Enc.fm,Enc.fm]
 have h2:(AG .u8).flat Dz=(AG .u8).flat [1,0,0,0]++((AG .u8).flat (le (FQ DX) 4)++(AG .u8).flat (List.replicate 248 0)):=by
  unfold Dz; rw[gK,Enc.fm,Enc.fm]
 have hA:(pre++(AG .u8).flat [1,0,0,0]).length=pre.length+4:=by rw[fL,Enc.fa]; rfl
 have h4:(AG .u8).flat (List.replicate 4 0)=List.replicate 4 (.int .u8 0):=rfl
 have:=Sep.splice_part (List.replicate 4 (.int .u8 0)) ((AG .u8).flat (le (FQ DX) 4)) (pre++(AG .u8).flat [1,0,0,0]) ((AG .u8).flat (List.replicate 248 0)++post) (by rw[Enc.fa,jB,B1]; rfl)
 rw[hA] at this
 rw[h1,h2,h4]
 simp only[gK] at this ⊢
 exact this
theorem Vb:(Dz.take 8).drop 4=le (FQ DX) 4:=by
 unfold Dz
 have hl:([1,0,0,0]++le (FQ DX) 4).length=8:=by rw[fL,B1]; rfl
 rw[jg (by omega),fZ (by omega)]
 exact List.drop_left' I
theorem ae:Dz[0]?=some 1:=rfl
theorem ag:Dz[1]?=some 0:=rfl
theorem ah:Dz[2]?=some 0:=rfl
theorem PO (vb:Value):Con prog 217 [vb,.agg nvL.c.toArray] (fun _=>True) [] (fun _:Unit=>vb) (fun _=>True) (fun _=>[]):=by
 intro w hE hH
 refine E0 func217 I hH ?_
 refine Cs I (l_e I (AQ I I I I (fun bn=>Ce nvL.c I (Ak I (Ag (Cs I (Lfa CT I Z49 I (Lo G49 0 I (Lq I (Ew I U49 I) (Lm I (Nk (Al ?_))))))))))))
 refine Bc (fun (u:Unit)=>[(0,vb),(3,.pointer (some ⟨bn,0,none⟩)),(15,.int .i64 ((0:Nat):Int)),(16,.int .i64 ((0:Nat):Int))]) (fun (u:Unit)=>St w [] [Ad bn 135 nvL.c]) (fun (u:Unit)=>True) (fun (u:Unit)=>0) (()) trivial (Si I) Ih (fun u _=>Cs I (Lq I (Ql I) (Ns (Sb 17 false I (I) (Ab I (AO (Ac (Ac (Ar (Ks (Cs I (Lfa CT I Z22 I (Lo G22 0 I (Lq I (Ew I U22 I) (Lm I (Nk (Al ?_)))))))))))))))))
 refine Bc (fun (u:Unit)=>[(0,vb),(3,.pointer (some ⟨bn,0,none⟩)),(38,.int .i64 ((0:Nat):Int)),(39,.int .i64 ((0:Nat):Int))]) (fun (u:Unit)=>St w [] [Ad bn 135 nvL.c]) (fun (u:Unit)=>True) (fun (u:Unit)=>0) (()) trivial (Si I) Ih (fun u _=>Cs I (Lq I (Ql I) (Ns (Sb 40 false I (I) (Ab I (AO (Ac (Ac (Ar (Ks (Cs I (Lfa CT I Ni I (Lo isAgg132 0 I (Lq I (Ew I Ho I) (Lm I (Nk (Al ?_)))))))))))))))))
 refine Bc (fun (u:Unit)=>[(0,vb),(3,.pointer (some ⟨bn,0,none⟩)),(50,.int .i64 ((0:Nat):Int)),(51,.int .i64 ((0:Nat):Int))]) (fun (u:Unit)=>St w [] [Ad bn 135 nvL.c]) (fun (u:Unit)=>True) (fun (u:Unit)=>0) (()) trivial (Si I) Ih (fun u _=>Cs I (Lq I (Ql I) (Ns (Sb 52 false I (I) (Ab I (AO (Ac (Ac (Ar (Ks (Cs I (Lfa CT I Hp I (Lo I7 0 I (Lq I (Ew I BP I) (Lm I (Nk (Al ?_)))))))))))))))))
 refine Bc (fun (u:Unit)=>[(0,vb),(3,.pointer (some ⟨bn,0,none⟩)),(64,.int .i64 ((0:Nat):Int)),(65,.int .i64 ((0:Nat):Int))]) (fun (u:Unit)=>St w [] [Ad bn 135 nvL.c]) (fun (u:Unit)=>True) (fun (u:Unit)=>0) (()) trivial (Si I) Ih (fun u _=>Cs I (Lq I (Ql I) (Ns (Sb 66 false I (I) (Ab I (AO (Ac (Ac (Ar (Kt (Cs I (Lm I (Ak I (Af (An I I ?_)))))))))))))))
 exact fun _ h=>⟨(),rfl,trivial,h.e8⟩
theorem ai (B:Nat):nvL.d.Sm B:=JP B
theorem aj (w:World):NRd w nvL:=⟨Fc _,Fc _,Fc _,Fc _⟩
theorem Rl:Cd nvL.d=true:=by decide
theorem GK :Con prog 145 [.agg nvL.c.toArray] (fun _=>True) [] (fun v:Value=>.tuple #[v,.int .i64 0]) (fun _=>True) (fun v=>[Az v 5 (AG .u8) Dz]):=by
 intro w hE hH
 refine E0 func145 I hH ?_
 refine Cs I (l_e I (AQ I I I I (fun bn=>Ce nvL.c I (Las I (Ak I (Ag (Cs I (Lq I (Cq (nvL.c) Bs AR 0 I (I) (I)) (l_e I (E1 (Hc nvL I (ai _)) I call216 (fun _ _=>aj _) (fun _ _=>Lq I (Qt I) (Nk (Sb 9 false I (by rw[Rl]; rfl) (Ab I (Ae (Ks (Dn (rg 5) 162 _ I St.drawn Ih (Dfa CT I Z22 I (Dq I (Ao I G22 I (Hat 0 I) I) (Dq I (Ew I U22 I) (Das I (d_t I (e_q I I (AE I I) (AK (Ks (Cs I (Lfa CT I Z4 I (Lo G4 0 I (Nk (Ai I (Dn (rg 5) 162 _ I St.drawn Ih (Dfa CT I Z49 I (Dq I (Ao I G49 I (Hat 0 I) I) (Dq I (Ew I U49 I) ?_))))))))))))))))))))))))))))))))))
 refine Das I (d_t I (e_q I I (AE I I) (AK (Ks (Dn [0,1,2,3,4,5,6,9,7,8,10,11] 439587 (fun w2=>(Ad bn 135 nvL.c).at w2) I St.drawn (Hat 0 I) (Dm I (Dm I (Dq I (Bq (p:=0) I U3 U5 I (BR (by decide))) (Dfa CT I Hp I (Dq I (Ao I I7 I Ih I) (Dq I (Ew I BP I) (Dq I (Bq (p:=0) I U3 U5 I (BR (by decide))) (Dq I (AP (nvL.c) I Bs AR I Ih (I) (I)) (d_e I (Ax (sz:=1) [.tmp 18,.tmp 20,.tmp 24,.const (.int .u8 0)] I I I I I U23 Z5 I zeroValue5 I (fun bb=>Aj (Hat 1 I) (rowLit (AG .u8) [1,0,0,0] I I (d_e I (LA (E:=AG .u8) (m:=4) (a0:=(0:Int)) I I I U23 U3 IQ I I I I I (by simp only[Sh]; simp) (by simp) (fun v1=>Bo (l':=[1,0,0,0]++List.replicate 4 (0:Int)) (I) (Aj (Hat 1 I) (d_e I (E1 (PO v1) I call217 Tt (fun _ _=>Aj (Hat 1 I) (d_t I (e_q I I (AE I I) (AK (Ks ?_))))))))))))))))))))))))))))
 have hl8:([1,0,0,0]++List.replicate 4 (0:Int)).length=8:=rfl
 refine Cr I (Lm I (Lm I (Lq I (AL I U23 I (Hrd 0 I)) (Lq I (Dl I I I (by simp)) (Sv' 32 (.int .i64 ((248:Nat):Int)) I (by rw[hl8]; rfl) (l_e I (LA (E:=AG .u8) (m:=248) (a0:=(0:Int)) I I I U23 U3 IQ I I I I I (by simp only[Sh]; simp) (by simp) (fun v2=>Bo (l':=DX) (Ke) (Ak I (Ag ?_))))))))))
 refine Dd (by rw[Ek]; decide) (fun b0 cap pre post hv hcap hpost=>?_)
 subst hv
 rw[Ek] at hcap hpost
 rw[Ek]
 have hcl:(pre++(AG .u8).flat DX++post).length=pre.length+256+post.length:=by rw[fL,fL,Enc.fa,Ek]; rfl
 refine Dn (rg 5) 189 (fun w2=>(Ad b0 5 (pre++(AG .u8).flat DX++post)).at w2) I St.drawn (Hat 0 I) (Dm I (Dq I (Da 4 I U23 Z5 I I I (by omega)) (Dm I (Sv' 35 (.slice (some ⟨b0,pre.length+4,none⟩) 252 (cap-4)) I (by rw[fR (show ¬cap=4 by omega)]) (d_e I (AX (IY DX (by rw[Ek]; decide)) I I I call218 I (fun _ h=>by have:=EF (h.at 0 I) (AG .u8) DX pre.length cap pre post I I (by rw[Ek]; exact hcap); rwa[Ek] at this) (fun v3 _=>Aj (Hat 1 I) ?_)))))))
 have hs4:(le (FQ DX) 4).length=4:=B1 _ _
 refine Pre.fact (fun _ h=>B0 (h.at 0 I)) ?_
 rintro⟨sa,sc,rfl⟩
 refine AM (d_t I (Gt (E:=AG .u8) (sa:=sa) (sl:=(le (FQ DX) 4).length) (sc:=sc) (sc':=sc) (m:=le (FQ DX) 4) 4 I I I U23 Z5 I I (by rw[hs4]; rfl) (fun _ h=>by have:=h.rd 1 rfl; rw[hs4] at this; exact this) (by rw[hcl]; show pre.length+4+4*1<=_; omega) (Ay (PN pre post) (AK (Ks (Fi (E:=AG .u8) (len:=256) (cap:=cap) Dz pre post I Kd (by omega) hcap hpost (Cr I (Lm I (Las I (Ak I (Af (Be (rs:=[.tmp 2,.tmp 3]) I I ?_))))))))))))
 exact fun _ h=>⟨_,rfl,trivial,h.sublist (jR.2 (iQ _))⟩
theorem Ol (l:List Int) (hn:l.length<=65536):Con prog 228 [va] (fun w=>RdV w va (AG .u8) l) [] (fun v:Value=>v) (fun _=>True) (fun v=>[Az v 5 (AG .u8) l]):=by
 intro w hl hH
 obtain⟨a,c,rfl⟩:=F0 hl
 refine E0 func228 I hH ?_
 refine Cs I (Ak I (Ag (Cs I (Lm I (Lq I (Fv I U23 I I) (Nk ?_))))))
 refine Pre.caseB 4 I (fun hn=>?_) (fun hn=>?_)
 · rw[jJ] at hn
   subst hn
   have hl0:=EB hl
   subst hl0
   refine Ai I (Cs I (Ak I (Af (Aa (row0 5 (AG .u8) none (An I I ?_))))))
   exact fun _ h=>⟨_,rfl,trivial,h⟩
 · refine Ab I (Ae (Kt (Cs I (l_e I (Ax (sz:=1) [] I I I I I U23 Z5 I zeroValue5 I (fun b=>rowLit (AG .u8) [] I I (Lm I (l_e I (Ap U23 U23 IQ I (fun _ h=>hl.keep h (by simp)) (by simp only[fL,fv,jn]; omega) (fun v=>Ak I (Af ?_)))))))))))
   rw[gO]
   refine An I I ?_
   exact fun _ h=>⟨v,rfl,trivial,h⟩
theorem I1 (l:List Int):Con prog 229 [va,vb] (fun w=>RdV w va (AG .u8) l/\RdV w vb (AG .u8) l) [] (fun _:Unit=>.bool true) (fun _=>True) (fun _=>[]):=by
 intro w hE hH
 obtain⟨ha,hb⟩:=hE
 refine E0 func229 I hH ?_
 refine Cs I (Ak I (Cs I (Lm I (Lq I (E4 I U23 U5 U9 I (fun _ h=>ha.keep h (by simp[dom]))) (Lm I (Lq I (E4 I U23 U5 U9 I (fun _ h=>hb.keep h (by simp[dom]))) (Lq I (cS I I I) (Ak I (Af (An I I ?_))))))))))
 exact fun _ h=>⟨(),congrArg (fun z=>Ending.returned (Value.bool z)) (by simp),trivial,h⟩
theorem ak (vf:Value):Con prog 230 [.int .i64 0,vf] (fun _=>True) [] (fun _:Unit=>Cg) (fun _=>True) (fun _=>[]):=by
 intro w hE hH
 refine E0 func230 I hH ?_
 refine Cs I (Ak I (Cs I (Ak I (Ag (Cs I (Lm I (Lm I (Nk (Al ?_)))))))))
 refine Bc (fun (u:Unit)=>[(5,Cg),(6,.int .i64 0),(7,.int .i64 0)]) (fun (u:Unit)=>St w [] []) (fun (u:Unit)=>True) (fun (u:Unit)=>0) (()) trivial (Si I) Ih (fun u _=>Cs I (Lq I (Ql I) (Ns (Sb 8 false I (I) (Ab I (AO (Ac (Ac (Ar (Kt (Cs I (Lm I (Ak I (Af (An I I ?_)))))))))))))))
 exact fun _ h=>⟨(),rfl,trivial,h⟩
theorem an (vf:Value):Con prog 236 [.int .i64 0,vf] (fun _=>True) [] (fun _:Unit=>Cg) (fun _=>True) (fun _=>[]):=by
 intro w hE hH
 refine E0 func236 I hH ?_
 refine Cs I (Ak I (Cs I (Ak I (Ag (Cs I (Lm I (Lm I (Nk (Al ?_)))))))))
 refine Bc (fun (u:Unit)=>[(5,Cg),(6,.int .i64 0),(7,.int .i64 0)]) (fun (u:Unit)=>St w [] []) (fun (u:Unit)=>True) (fun (u:Unit)=>0) (()) trivial (Si I) Ih (fun u _=>Cs I (Lq I (Ql I) (Ns (Sb 8 false I (I) (Ab I (AO (Ac (Ac (Ar (Kt (Cs I (Lm I (Ak I (Af (An I I ?_)))))))))))))))
 exact fun _ h=>⟨(),rfl,trivial,h⟩
theorem KW:Con prog 167 [vb] (fun w=>RdV w vb (AG .u8) Dz) [] (fun _:Unit=>.tuple #[.agg nvL.c.toArray,.int .i64 0]) (fun _=>True) (fun _=>[]):=by
 intro w hb hH
 have hl:=Kd
 obtain⟨ba,bc,rfl⟩:=F0 hb
 refine E0 func167 I hH ?_
 refine Cs I (l_e I (Au I I I zeroValue135 (fun br=>Ce nv0.c I (Ak I (Ag (Cs I (Lm I (Lq I (AL I U23 I (fun _ h=>hb.keep h (by simp[dom]))) (Lq I (Qn I) (Nk (Sb 13 false I (by rw[hl]; rfl) (Ab I (Ae (Kt (Cs I (Lm I (l_e I (AX (Ol Dz (by rw[hl]; decide)) I I I call228 I (fun _ h=>hb.keep h (by simp)) (fun vx _=>Ak I (Cs I (Lm I ?_)))))))))))))))))))))
 refine Dd (by rw[hl]; decide) (fun b0 cap pre post hv hcap hpost=>?_)
 subst hv
 rw[hl] at hcap hpost
 rw[hl]
 have hl0:=Ek
 have hcl:(pre++(AG .u8).flat Dz++post).length=pre.length+256+post.length:=by rw[fL,fL,Enc.fa,hl]; rfl
 refine Lq I (Nf (E:=AG .u8) (l:=Dz) 4 8 I U23 Z5 I (fun _ h=>by have:=EF (h.at 0 I) (AG .u8) Dz pre.length cap pre post I I (by rw[hl]; exact hcap); rwa[hl] at this) I I I I (by decide) (by rw[hl]; decide)) (Sv' 18 (.slice (some ⟨b0,pre.length+4,none⟩) 4 (cap-4)) I (by simp[vsl,show ¬cap=4 by omega,BF,AG]) (l_e I (Ug I I U23 IQ I I I I (by rw[hcl]; omega) (Ay (S0 pre post) (Ns (Ag (Dn [0,2,3,1,4,5] 675 (fun w2=>RdV w2 (.slice ba Dz.length bc) (AG .u8) Dz) I St.drawn (fun _ h=>hb.keep h (by simp)) (Dm I (Dm I (Dq I (Nf 4 8 I U23 Z5 I Ih I I I I (by omega) (by omega)) (d_e I (AX (IY DX (by rw[hl0]; decide)) I I I call218 I (fun _ h=>(by have:=EF (h.at 0 I) (AG .u8) DX pre.length cap pre post I I (by rw[hl0]; exact hcap); rwa[hl0] at this)) (fun v3 _=>Aj (fun _ h=>hb.keep h (by simp)) (d_t I (E1 (I1 (le (FQ DX) 4)) I call229 (fun _ h=>⟨h.rd 0 rfl,by have:=CF (hb.keep h (by simp)) (lo:=4) (hi:=8) (by decide) (by rw[hl]; decide); rwa[Vb] at this⟩) (fun _ _=>d_t I (e_q I I (Qt I) (AK (Kt (Ab I (Ae (Kt (Cs I (Lm I (Lq I (AN ([.slice ba Dz.length bc,.int .i64 8,.bool false]) I I (fun w=>by kernel_rfl)) (l_e I (AQ I I I I ?_)))))))))))))))))))))))))))
 intro bq
 refine Ce [.slice ba Dz.length bc,.int .i64 8,.bool false] I (Ak I (Ag (Dn (rg 17) 92470734 (fun w2=>RdV w2 (.slice ba Dz.length bc) (AG .u8) Dz) I St.drawn (fun _ h=>hb.keep h (by simp)) (Dm I (Dq I (As 0 I U23 Z5 I Ih I I (by omega)) (Dq I (AI 0 0 I G5 I I Ih ae I) (Dq I (Qe I) (Dq I (AN (nvL.c) I I (fun w=>by kernel_rfl)) (Dm I (Dq I (As 1 I U23 Z5 I Ih I I (by omega)) (Dq I (AI 1 0 I G5 I I Ih ag I) (Dq I (Bq I U5 U3 I (by first|rfl|(simp only[IntKind.wrap]; omega)|exact Cj (by omega))) (Dm I (Dq I (As 2 I U23 Z5 I Ih I I (by omega)) (Dq I (AI 2 0 I G5 I I Ih ah I) (Dq I (Bq I U5 U3 I (by first|rfl|(simp only[IntKind.wrap]; omega)|exact Cj (by omega))) (d_e I (Au I I I zeroValue135 (fun bn=>Ce nv0.c I (Aj (fun _ h=>hb.keep h (by simp)) (d_e I (Ah I I AR I I I (NV.one _) (by show 0+5<=5; decide) (Ay (show Sep.splice _ 0 (nvL).c=(nvL).c from Sep.e7 I) (Aj (fun _ h=>hb.keep h (by simp)) (Das I (d_t I (e_q I I (AE I I) (AK (Ks (Cs I (Lfa CT I Z4 I (Lo G4 0 I (Nk (Ai I (Cr I (Lm I (Lm I (Lq I (DD (fn:=.func 0) (vs:=#[.pointer (some ⟨bq,0,none⟩)]) (us:=#[]) 231 I (fun a k=>by simp[k.eval (x:=.tmp 45) rfl]) (fun a k=>by simp)) (l_e I (E1 (ak _) I call230 Tt ?_))))))))))))))))))))))))))))))))))))))))
 intro _ _
 refine Lfa CT I Z49 I (l_e I (AF I I Z49 I I I (by show 1<5; decide) (Ce nvL.c I (Nk (Cs I (Lm I (Lm I (Lq I (DD (fn:=.func 0) (vs:=#[.pointer (some ⟨bq,0,none⟩)]) (us:=#[]) 237 I (fun a k=>by simp[k.eval (x:=.tmp 61) rfl]) (fun a k=>by simp)) (l_e I (E1 (an _) I call236 Tt (fun _ _=>Lfa CT I Hp I (l_e I (AF I I Hp I I I (by show 4<5; decide) (Ce nvL.c I (Ns (Cs I (Lq I (Cq (nvL.c) Bs AR 0 I (I) (I)) (l_e I (AX (GK) I I I call145 I Tt (fun vy _=>Lm I (Lq I (Qx I) (Lq I (Qx I) (Las I (Ak I (Cs I (Lm I (Lc I (Lfa underlying330 I Z4 I (Lo G4 2 I (Lm I (Lm I (Lq I (Qn I) (Lq I (Qz I) (Lm I (Sb 78 false I (I) (Lm I (Lm I (l_e I (E1 (I1 Dz) I call229 (fun _ h=>⟨h.rd 0 rfl,hb.keep h (by simp)⟩) ?_)))))))))))))))))))))))))))))))))))))))
 intro _ _
 refine Lq I (Qt I) (Lq I (Qz I) (Nk (Ab I (Ae (Kt (Cs I (Lq I (Cq (nvL.c) Bs AR 1 I (I) (I)) (Ex (l_e I (Ah I I AR I I I (NV.one _) (by show 0+5<=5; decide) (Ay (show Sep.splice _ 0 (nvL).c=(nvL).c from Sep.e7 I) (Ak I (Af (BI I (AJ I Bs AR (Hat 0 I) (I)) (show Sep.look _ _=some _ from I) ?_))))))))))))))
 exact fun _ h=>⟨(),rfl,trivial,h.e8⟩
structure Bk where
 l:List Int
 len:l.length=256
def Bk.zero:Bk:=⟨List.replicate 256 0,jB ..⟩
def Bk.c (b:Bk):List Value:=b.l.map (.int .u8)
theorem Bk.one (b:Bk):∀v∈b.c,v.oneCell'=true:=fun v hv=>by
 obtain⟨z,_,rfl⟩:=gj.1 hv; rfl
theorem Bk.e6 (b:Bk):b.c.length=256:=by unfold Bk.c; rw[gS,b.len]
def Bk.enc:Enc Bk:=⟨256,Bk.c,Bk.e6,Bk.one,by decide⟩
theorem Bk.flat (b:Bk):(AG .u8).flat b.l=b.c:=Gu b.l
structure Sto where
 bl:List Bk
 us:List Bool
structure Sto.Ok (s:Sto):Prop where
 len:s.bl.length=s.us.length
 n1:1<=s.us.length
 n256:s.us.length<=256
namespace Sto
def is (s:Sto) (id:Int):Bool:=decide (0<=id)&&decide (id<s.us.length)&&s.us.getD id.toNat false
def fr (s:Sto):Option Nat:=Cp (fun u=>!u) s.us
def alloc (s:Sto) (k:Nat):Sto:=⟨s.bl.set k Bk.zero,s.us.set k true⟩
def put (s:Sto) (id:Nat) (b:Bk):Sto:=⟨s.bl.set id b,s.us⟩
def used (s:Sto):List Nat:=(List.range s.us.length).filter (fun i=>s.us.getD i false)
def left (s:Sto):Nat:=s.us.length-s.used.length
end Sto
abbrev SE (bs:Nat) (vB vU:Value) (s:Sto):List Ent:=[Ad bs 161 [vB,vU],Az vB 279 Bk.enc s.bl,Az vU 4 Fb s.us]
theorem Vc {s:Sto} {k:Nat} (h:s.us[k]?=some u):s.is (k:Int)=u:=by
 have hlt:=(gl.1 h).1
 unfold Sto.is
 rw[jq (show (0:Int)<=(k:Int) by omega),jq (show (k:Int)<(s.us.length:Int) by omega),ie,ju,h]; rfl
theorem Zf {s:Sto} {id:Int} (h:¬(0<=id/\id<s.us.length)):s.is id=false:=by
 unfold Sto.is
 by_cases h0:0<=id
 · rw[jo (show ¬id<(s.us.length:Int) from fun h1=>h ⟨h0,h1⟩),jQ]; rfl
 · rw[jo h0]; rfl
theorem XX {l:List Bool} (h:l[i]?=some u):(List.range (i+1)).filter (fun i=>l.getD i false)=(List.range i).filter (fun i=>l.getD i false)++(if u then [i] else []):=by
 rw[jM,jN]
 congr 1
 have:l.getD i false=u:=by rw[ju,h]; rfl
 simp only[jY,List.filter_nil,this]
section
variable {P:Program} {n:Nat} {L:Env} {X:World->Prop} {o:Oper} {Q:Exit->Act->World->Prop} {K:Act->World->Prop}
variable {w0:World} {D:List Nat} {H:List Ent} {α:Type} {E:Enc α} {l:List α} {v:Value}
theorem Vd {i:Operand} {k:IntKind} {p:Int} (j n0:Nat) (ho:o.op=.indexAddr t x i) (ht:P.underlying t=some (.slice e)) (hz:∀w,(sizeOf e).run P w=.ok E.sz w) (hx:ev L x=some v) (hr:∀w,X w->∃l:List α,l.length=n0/\RdV w v E l) (hi:ev L i=some (.int k p)) (hp:p=(j:Int)) (hj:j<n0) :
 QOp P n L X o (.pointer (some ⟨blk v,EW v+j*E.sz,none⟩)):=fun a w kn hX=>by
 obtain⟨l,hl,h⟩:=hr w hX
 exact As (X:=fun w'=>w'=w) j ho ht hz hx (fun w' e=>by subst e; exact h) hi hp (by omega) a w kn rfl
theorem XY {F:Enc β} {w:World} {j m c:Nat} {a:α} {ms:List β} (h:RdV w v E l) (ha:l[j]?=some a) (hm:ms.length=m) (hc:m<=c) (hf:F.flat ms=E.f a):RdV w (.slice (some ⟨blk v,EW v+j*E.sz,none⟩) m c) F ms:=by
 subst hm
 refine⟨_,c,rfl,hc,.inr ⟨blk v,EW v+j*E.sz,rfl,fun k u hk=>?_⟩⟩
 rw[hf] at hk
 exact L6 h ha hk
theorem PQ {F:Enc β} {ms:List β} {tx ty:TypeId} {y:Operand} {xv:Value} {off dn dc d:Nat} (j:Nat) (c:α) {a:α} (ho:o.op=.call ⟨.builtin .copy,#[y,x],#[t,tx]⟩) (hd:o.dst=some d) (hnn:d.blt n=true) (ht:P.underlying t=some (.slice e)) (hz:∀w,(sizeOf e).run P w=.ok F.sz w)
 (hy:ev L y=some (.slice (some ⟨blk v,off,none⟩) dn dc)) (hoff:off=EW v+j*E.sz) (hxv:ev L x=some xv) (hx:∀w,St w0 D (Az v ty E l::H) w->RdV w xv F ms) (hm:ms.length=dn) (hc:F.flat ms=E.f c) (ha:l[j]?=some a)
 (h:Pre n ((d,.int .i64 (dn:Nat))::L) (St w0 D (Az v ty E (l.set j c)::H)) K):EOp P n L (St w0 D (Az v ty E l::H)) o Q K :=
 EOp.val (β:=Unit) (fun _=>.int .i64 (dn:Nat)) (fun _=>True) (fun _=>St w0 D (Az v ty E (l.set j c)::H)) hd hnn (fun ac w kn hX=>by
  have hj:=(gl.1 ha).1
  have hr:=hx w hX
  obtain⟨b,cap,pre,post,hv,hlc,hp,h1⟩:=FZ hX (by omega)
  subst hv
  have hlen:=E.fa l
  have hmul:(j+1)*E.sz<=l.length*E.sz:=gr _ (by omega)
  rw[fW,gu] at hmul
  have hfl:(F.flat ms).length=ms.length*F.sz:=F.fa ms
  have hcl:(F.flat ms).length=E.sz:=by rw[hc,E.len]
  have hmin:min ms.length dn=ms.length:=by omega
  have hfit:off+min ms.length dn*F.sz<=(pre++E.flat l++post).length:=by
   rw[hmin,<-hfl,hcl]; subst hoff; simp only[EW,fL,hlen]; omega
  obtain⟨w',hr',h'⟩:=Np (P:=P) (ty:=o.type) (tx:=tx) (dc:=dc) ht hz h1 hr hfit
  rw[hmin,jH] at h'
  have Iv:Sep.splice (pre++E.flat l++post) off (F.flat ms)=pre++E.flat (l.set j c)++post:=by
   subst hoff
   rw[hc]
   simp only[EW]
   rw[splice_eq _ _ _ (by simp only[fL,hlen,E.len]; omega)]
   have e1:l.set j c=l.take j++[c]++l.drop (j+1):=by
    rw[jf]; simp[hj]
   rw[e1,E.fm,E.fm,<-E.flat_take,<-E.flat_drop,fW,gu,E.fo,E.flat_nil,jc,E.len]
   have t1:(pre++E.flat l++post).take (pre.length+j*E.sz)=pre++(E.flat l).take (j*E.sz):=by
    rw[gK,iV,jg (by rw[hlen]; omega)]
   have t2:(pre++E.flat l++post).drop (pre.length+j*E.sz+E.sz)=(E.flat l).drop (j*E.sz+E.sz)++post:=by
    rw[gK,gM,iW,jh (by rw[hlen]; omega)]
   rw[t1,t2]
   simp only[gK]
  rw[Iv] at h'
  refine⟨(),w',?_,trivial,?_⟩
  · have:min ms.length dn=dn:=by omega
    rw[this] at hr'
    simp only[blk] at hy
    simp[execOp,ho,resolve,invoke,builtin,kn.eval hy,kn.eval hxv,hr']
  · have:=CX (cap:=cap) h' (by omega) (by simpa using hlc) (by simpa using hp)
    simpa using this) (fun _ _=>h)
end
theorem S1 (pre post:List Value) (b:Bk):Sep.splice (pre++(AG .u8).flat (List.replicate 256 0)++post) pre.length ((AG .u8).flat b.l)=pre++(AG .u8).flat b.l++post :=
 Sep.splice_part _ _ pre post (by rw[Enc.fa,Enc.fa,b.len,jB])
theorem Om {s:Sto} (hs:s.Ok) (bs:Nat) (vB vU:Value) (id:Int):Con prog 219 [.pointer (some ⟨bs,0,none⟩),.int .i64 id] (fun _=>True) (SE bs vB vU s) (fun _:Unit=>.bool (s.is id)) (fun _=>True) (fun _=>SE bs vB vU s):=by
 intro w hE hH
 refine Ey func219 I hH ?_
 refine Ag ?_
 have hl1:=hs.len
 have hl2:=hs.n256
 refine Cr I (Ak I (Cs I (Lm I (Lq I (Qg I) (Lm I ?_)))))
 refine CB 7 I (fun h0=>?_) (fun h0=>?_)
 · refine Lm I (Lm I (Lc I (Lfa Mb I R9 I (Lo isAgg159 0 I (Lq I (AL I FO I (Hrd 2 I)) (Lq I (Ql I) (Lq I (Qy I) (Lm I ?_))))))))
   refine CB 16 I (fun h1=>?_) (fun h1=>?_)
   · obtain⟨k,rfl⟩:=fy (show 0<=id by omega)
     obtain⟨u,huk⟩:∃u,s.us[k]?=some u:=⟨_,fD (by omega)⟩
     refine Lm I (Lc I (Lfa Mb I R9 I (Lo isAgg159 0 I (Lm I (Lq I (As k I FO Z4 I (Hrd 2 I) I I (by omega)) (Lq I (AI k 0 I G4 I I (Hrd 2 I) huk I) (Lq I (Qy I) (Ak I (Af (An I I ?_))))))))))
     exact fun _ h=>⟨(),congrArg (fun z=>Ending.returned (Value.bool z)) (Vc huk).symm,trivial,h⟩
   · refine Lx I (Lx I (Lx I (Lx I (Lx I (Lx I (Lx I (Lq I (Qz I) (Ak I (Af (An I I ?_))))))))))
     exact fun _ h=>⟨(),congrArg (fun z=>Ending.returned (Value.bool z)) (Zf (by omega)).symm,trivial,h⟩
 · refine Lx I (Lx I (Lx I (Lx I (Lx I (Lx I (Lx I (Lq I (Qz I) (Lm I (Lx I (Lx I (Lx I (Lx I (Lx I (Lx I (Lx I (Lq I (Qz I) (Ak I (Af (An I I ?_)))))))))))))))))))
   exact fun _ h=>⟨(),congrArg (fun z=>Ending.returned (Value.bool z)) (Zf (by omega)).symm,trivial,h⟩
theorem S2 {s:Sto} (hs:s.Ok) (bs:Nat) (vB vU:Value) {k:Nat} {bk:Bk} (huk:s.us[k]?=some true) (hbk:s.bl[k]?=some bk):Con prog 166 [.pointer (some ⟨bs,0,none⟩),.int .i64 (k:Int)] (fun _=>True) (SE bs vB vU s) (fun v:Value=>.tuple #[v,.int .i64 0]) (fun _=>True) (fun v=>Az v 5 (AG .u8) bk.l::SE bs vB vU s):=by
 intro w hE hH
 refine Ey func166 I hH ?_
 refine Ag ?_
 have hl1:=hs.len
 have hl2:=hs.n256
 have hkl:=(gl.1 hbk).1
 refine Cr I (Las I (Ak I (Ag (Cs I (Lm I (Lm I (l_e I (BL (Om hs bs vB vU k) I I I call219 I Tt (fun _ _=>Lq I (Qt I) (Nk (Sb 10 false I (by rw[Vc huk]; rfl) (Ab I (Ae (Kt (Cs I (l_e I (BN (AG .u8) (0:Int) 256 I I I U23 IQ I I I I I I I (by simp only[Sh]; decide) (by decide) (fun vb=>Dd (by rw[jB]; decide) (fun b0 cap pre post hv hcap hpost=>?_)))))))))))))))))))
 subst hv
 rw[jB] at hcap hpost
 rw[jB]
 refine Ak I (Cs I (Lm I (Lm I (Lc I (Lfa Mb I sizeOf158 I (Lo isAgg158 1 I (Lm I (Lq I (As k I Uc sizeOf279 I (Hrd 2 I) I I (by omega)) (Lq I (Fw I underlying279 Z5 I) ?_)))))))))
 have hcl:(pre++(AG .u8).flat (List.replicate 256 0)++post).length=pre.length+256+post.length:=by rw[fL,fL,Enc.fa,jB]; rfl
 refine l_e I (Gt (E:=AG .u8) (sc':=256) (m:=bk.l) 256 I I I U23 Z5 I I I (fun _ h=>XY (h.rd 2 I) hbk bk.len (ga _) bk.flat) (by rw[hcl]; show pre.length+256*1<=_; omega) (Ay (S1 pre post bk) (Fi (E:=AG .u8) (len:=256) (cap:=cap) bk.l pre post I bk.len (by omega) hcap hpost (Nk (Cs I (Lm I (Las I (Ak I (Af (Be (rs:=[.tmp 4,.tmp 5]) I I ?_))))))))))
 exact fun _ h=>⟨_,rfl,trivial,h⟩
theorem PR {s:Sto} (hs:s.Ok) (bs:Nat) (vB vU:Value) {vb:Value} {k:Nat} {bk:Bk} (nb:Bk) (huk:s.us[k]?=some true) (hbk:s.bl[k]?=some bk):Con prog 146 [.pointer (some ⟨bs,0,none⟩),.int .i64 (k:Int),vb] (fun _=>True) (Az vb 5 (AG .u8) nb.l::SE bs vB vU s) (fun _:Unit=>.int .i64 0) (fun _=>True) (fun _=>Az vb 5 (AG .u8) nb.l::SE bs vB vU (s.put k nb)):=by
 intro w hE hH
 refine Ey func146 I hH ?_
 refine Ag ?_
 have hl1:=hs.len
 have hl2:=hs.n256
 have hkl:=(gl.1 hbk).1
 have hnl:=nb.len
 refine Cr I (Ak I (Ag (Al (Cs I (Lm I (Lm I (Pm [1,1,1] I (l_e I (BL (Om hs bs vB vU k) I I I call219 I Tt (fun _ _=>Lq I (Qt I) (Ak I (Sb 7 false I (by rw[Vc huk]; rfl) (Ab I (Cs I (Lm I (Lq I (AL I U23 I (Hrd 3 I)) (Lq I (Qn I) (Ak I (Sb 12 false I (by rw[hnl]; rfl) (Ab I (Ae (Aw (Kt (Cs I (Lm I (Lc I (Lfa Mb I sizeOf158 I (Lo isAgg158 0 I (Lm I (Lq I (As k I Uc sizeOf279 I (Hrd 1 I) I I (by omega)) (Lq I (Fw I underlying279 Z5 I) (Lm I (AM ?_)))))))))))))))))))))))))))))))))
 refine l_e I (PQ (F:=AG .u8) (ms:=nb.l) k nb I I I U23 Z5 I I I (Hrd 3 I) hnl nb.flat hbk (Nk (Cs I (Ak I (Af (Pm [3,1] I (An I I ?_)))))))
 exact fun _ h=>⟨(),rfl,trivial,h⟩
theorem On {s:Sto} (hs:s.Ok) (bs:Nat) (vB vU:Value):Con prog 103 [.pointer (some ⟨bs,0,none⟩)] (fun _=>True) (SE bs vB vU s) (fun _:Unit=>(match s.fr with|some k=>.tuple #[.int .i64 (k:Int),.int .i64 0]|none=>.tuple #[.int .i64 0,.int .i64 3])) (fun _=>True) (fun _=>SE bs vB vU (match s.fr with|some k=>s.alloc k|none=>s)):=by
 intro w hE hH
 refine Ey func103 I hH ?_
 refine Ag ?_
 have hl1:=hs.len
 have hl2:=hs.n256
 refine Cr I (Las I (Ak I (Ag (Cs I (Lm I (Lc I (Lfa Mb I R9 I (Lo isAgg159 0 I (Lq I (AL I FO I (Hrd 2 I)) (Lm I (Nk (Al ?_))))))))))))
 refine Bc (fun (i:Nat)=>[(0,.pointer (some ⟨bs,0,none⟩)),(9,vU),(10,.int .i64 (s.us.length:Int)),(11,.int .i64 (i:Int))]) (fun (i:Nat)=>St w (dom (SE bs vB vU s)) (SE bs vB vU s)) (fun (i:Nat)=>i<=s.us.length/\∀z∈s.us.take i,(!z)=false) (fun (i:Nat)=>s.us.length-i) (0) ⟨gb _,by simp⟩ (Si I) Ih (fun i hp=>Ag ?_)
 obtain⟨hi,hno⟩:=hp
 refine Cr I (Lq I (Ql I) (Ns ?_))
 refine CB 12 I (fun h1=>?_) (fun h1=>?_)
 · obtain⟨u,hu⟩:∃u,s.us[i]?=some u:=⟨_,fD (by omega)⟩
   obtain⟨bk,hbk⟩:∃u,s.bl[i]?=some u:=⟨_,fD (by omega)⟩
   refine Ai I (Ae (Ks (Al (Cs I (Lm I (Lq I (As i I FO Z4 I (Hrd 2 I) I I (by omega)) (Lq I (AI i 0 I G4 I I (Hrd 2 I) hu I) (Las I (Ak I (Cs I (Lm I (Lq I (Qt I) (Nk ?_)))))))))))))
   refine CB 17 I (fun hun=>?_) (fun hun=>?_)
   · subst hun
     have hfr:s.fr=some i:=C2 hu rfl hno
     refine Ai I (Ag (D4 [(0,O),(1,O),(2,O),(3,O),(4,O),(5,O),(6,O),(7,O),(8,O),(9,O),(10,O),(11,O),(12,V),(13,W),(14,W)] [13,14] [(_,O),(_,O),(_,O),(_,O),(_,O),(_,O),(_,O),(_,O),(_,O),(_,O),(_,O),(_,O),(_,V),(_,W),(_,W)] (fun w2=>(Ad bs 161 [vB,vU]).at w2/\RdV w2 vB Bk.enc s.bl/\∃us:List Bool,us.length=s.us.length/\RdV w2 vU Fb us) rfl rfl rfl rfl St.drawn (fun _ h=>⟨h.at 0 rfl,h.rd 1 rfl,_,by first|rfl|(rw[je]),h.rd 2 rfl⟩) (Dm I (Dc I (Dfa Mb I R9 I (Dq I (Ao I isAgg159 I (fun _ h=>h.1) I) (Dm I (Dm I (Dc I (Dfa Mb I sizeOf158 I (Dq I (Ao I isAgg158 I (fun _ h=>h.1) I) (Dm I (Dq I (AN (Bk.zero.c) I I (fun w=>by kernel_rfl)) (Dq I (Vd i s.us.length I FO Z4 I (fun _ h=>h.2.2) I I (by omega)) (AV (d_e I (CE i 0 true I I Z4 I I I hu (by decide) I (Aj (fun _ h=>⟨h.at 1 rfl,h.rd 2 rfl,_,by first|rfl|(rw[je]),h.rd 0 rfl⟩) (d_t I (e_q I I (As i I Uc sizeOf279 I (Hrd 2 I) I I (by omega)) (AV (d_t I (Ei i Bk.zero I I sizeOf279 I I I I (by omega) ?_)))))))))))))))))))))))
     refine AK (Kt (Cs I (Lm I (Las I (Ak I (Af (Am (Aa (Aa (Am (Aa (Pm [2] I (Be (rs:=[.tmp 2,.tmp 3]) I I ?_)))))))))))))
     exact fun _ h=>⟨(),by rw[hfr],trivial,by rw[hfr]; exact h⟩
   · subst hun
     refine Ab I (Ae (Aw (Kt (Cr I (Lq I (Qi I (by omega)) (Lm I (AB ?_)))))))
     exact AD (i+1) (by omega) ⟨by omega,EI hno hu rfl⟩ (Si I) (fun _ h=>h)
 · have hfr:s.fr=none:=by unfold Sto.fr; rw[fZ (by omega)] at hno; exact C3 hno
   refine Ab I (AO (Ac (Ac (Ar (Kt (Cs I (Las I (Ak I (Af (Be (rs:=[.tmp 2,.tmp 3]) I I ?_))))))))))
   exact fun _ h=>⟨(),by rw[hfr],trivial,by rw[hfr]; exact h⟩
def nI (l:List Nat):List Int:=l.map (fun k:Nat=>(k:Int))
theorem Ve (l:List Nat):(nI l).length=l.length:=gS ..
theorem S3 {s:Sto} {i:Nat} (h:s.us[i]?=some u):nI ((List.range (i+1)).filter (fun i=>s.us.getD i false))=nI ((List.range i).filter (fun i=>s.us.getD i false))++(if u then [(i:Int)] else []):=by
 rw[XX h]; unfold nI; rw[gL]; cases u<;>rfl
theorem PS {s:Sto} (hs:s.Ok) (bs:Nat) (vB vU:Value):Con prog 34 [.pointer (some ⟨bs,0,none⟩)] (fun _=>True) (SE bs vB vU s) (fun v:Value=>v) (fun _=>True) (fun v=>Az v 3 (AG .i64) (nI s.used)::SE bs vB vU s):=by
 intro w hE hH
 refine Ey func34 I hH ?_
 refine Ag ?_
 have hl1:=hs.len
 have hl2:=hs.n256
 refine Cr I (Ak I (Cs I (Ak I (Ag (Cs I (Lm I (Lc I (Lfa Mb I R9 I (Lo isAgg159 0 I (Lq I (AL I FO I (Hrd 2 I)) (Lm I (Nk (Al (row0 3 (AG .i64) none ?_))))))))))))))
 refine CN (fun (i:Nat) (v:Value)=>[(0,.pointer (some ⟨bs,0,none⟩)),(3,v),(9,vU),(10,.int .i64 (s.us.length:Int)),(11,.int .i64 (i:Int))]) (fun (i:Nat) (v:Value)=>St w (dom (SE bs vB vU s)) (Az v 3 (AG .i64) (nI ((List.range i).filter (fun i=>s.us.getD i false)))::SE bs vB vU s)) (fun (i:Nat) (v:Value)=>i<=s.us.length) (fun (i:Nat) (v:Value)=>s.us.length-i) (0) (.slice none 0 0) (gb _) (Si I) Ih (fun i v hi=>Ag ?_)
 have hfl:((List.range i).filter (fun i=>s.us.getD i false)).length<=i:=by have:=jL (fun i=>s.us.getD i false) (List.range i); rwa[jO] at this
 have hnl:=Ve ((List.range i).filter (fun i=>s.us.getD i false))
 refine Cr I (Lq I (Ql I) (Ns ?_))
 refine CB 12 I (fun h1=>?_) (fun h1=>?_)
 · obtain⟨u,hu⟩:∃u,s.us[i]?=some u:=⟨_,fD (by omega)⟩
   have hsn:=S3 hu
   refine Ai I (Ae (Ks (Al (Cs I (Lm I (Lq I (As i I FO Z4 I (Hrd 3 I) I I (by omega)) (Lq I (AI i 0 I G4 I I (Hrd 3 I) hu I) (Las I (Ak I (Cs I (Lm I (Nk ?_))))))))))))
   refine Pre.caseB 16 I (fun hun=>?_) (fun hun=>?_)
   · subst hun
     refine Ai I (Cr I (Lm I (Lm I (l_e I (Ax (sz:=1) [.tmp 18] I I I I I U22 Z3 I zeroValue3 I (fun b1=>AM (l_e I (Ap U22 U22 Ez I (fun _ h=>AW (h.at 1 I) (AG .i64) [(i:Int)] I I) (by simp only[fL,fv,jn]; omega) (fun v2=>Bo (hsn.symm) (AM (Av (Las I (AB (Aw (Kt (Cr I (Lq I (Qi I (by omega)) (Lm I (AB ?_)))))))))))))))))))
     exact AD ((i+1,v2)) (by dsimp only; omega) (by dsimp only; omega) (Si I) (fun _ h=>h)
   · subst hun
     refine Ab I (Ae (Aw (Kt (Cr I (Lq I (Qi I (by omega)) (Lm I (AB ?_)))))))
     exact AD ((i+1,v)) (by dsimp only; omega) (by dsimp only; omega) (Si I) (fun _ h=>by dsimp only; rw[hsn]; simpa using h)
 · have hie:i=s.us.length:=by omega
   subst hie
   refine Ab I (AO (Ac (Ac (Ar (Kt (Cs I (Lm I (Ak I (Af (An I I ?_))))))))))
   exact fun _ h=>⟨v,rfl,trivial,h⟩
theorem PT {s:Sto} (hs:s.Ok) (bs:Nat) (vB vU:Value):Con prog 35 [.pointer (some ⟨bs,0,none⟩)] (fun _=>True) (SE bs vB vU s) (fun _:Unit=>.int .i64 (s.left:Int)) (fun _=>True) (fun _=>SE bs vB vU s):=by
 intro w hE hH
 refine Ey func35 I hH ?_
 refine Ag ?_
 have hl1:=hs.len
 have hl2:=hs.n256
 refine Cr I (Ak I (Ag ?_))
 have hul:s.used.length<=s.us.length:=by have:=jL (fun i=>s.us.getD i false) (List.range s.us.length); rwa[jO] at this
 have hnl:=Ve s.used
 refine Dn (rg 10) 40095 (fun w2=>(Ad bs 161 [vB,vU]).at w2/\RdV w2 vU Fb s.us) I St.drawn (fun _ h=>⟨h.at 0 rfl,h.rd 2 rfl⟩) (Dm I (Dc I (Dfa Mb I R9 I (Dq I (Ao I isAgg159 I (fun _ h=>h.1) I) (Dq I (AL I FO I (fun _ h=>h.2)) (Dm I (d_e I (K4 (PS hs bs vB vU) I I I call34 I Tt (fun vu _=>Pre.fact (fun _ h=>B0 (h.at 0 I)) ?_)))))))))
 rintro⟨la,lc,rfl⟩
 refine Aj (fun _ h=>⟨h.at 1 rfl,h.rd 3 rfl⟩) (Dq I (Ew I U22 I) (Dq I (Dl I I I (by omega)) (d_t I (e_q I I (AE I I) (AK (Kt (Af (Av (An I I ?_)))))))))
 exact fun _ h=>⟨(),congrArg (fun z=>Ending.returned (Value.int .i64 z)) (by unfold Sto.left; rw[hnl]; omega),trivial,h⟩
theorem Vf {n:Nat} (h1:1<=n) (h8:n<=256):Con prog 100 [.int .i64 (n:Int)] (fun _=>True) [] (fun r:Nat×Value×Value=>.tuple #[.pointer (some ⟨r.1,0,none⟩),.int .i64 0]) (fun _=>True) (fun r=>SE r.1 r.2.1 r.2.2 ⟨List.replicate n Bk.zero,List.replicate n false⟩):=by
 intro w hE hH
 refine E0 func100 I hH ?_
 refine Cs I (Las I (Ak I (Ag (Cs I (Lm I (Lq I (Ql I) (Lm I (Sf 6 I (by omega) (Lm I (Lq I (BS I I I) (Lq I (Qz I) (Nk (Sf 9 I (by omega) (Ab I (Ae (Ks (EZ (fun _=>True) I St.drawn (Aq 0 I Tt (A0 I I) (Aq 2 I Tt (A0 I I) ?_)))))))))))))))))))
 refine BK 1 3 (by kernel_rfl) I I I I ?_ ?_
 · refine BN Bk.enc Bk.zero n I I I Uc QV I I I I I I I (by simp only[Ue]; omega) (by omega) (fun vB=>Pre.fact (fun _ h=>B0 (h.at 0 I)) ?_)
   rintro⟨aB,cB,rfl⟩
   refine Aj Tt (AH 3 (by kernel_rfl) I I (BN Fb false n I I I FO QT I I I I I I I (by simp only[ZI]; omega) (by omega) (fun vU=>Pre.fact (fun _ h=>B0 (h.at 0 I)) ?_)))
   rintro⟨aU,cU,rfl⟩
   refine Aj Tt (Aq 4 I Tt (AN ([.slice aB (List.replicate n Bk.zero).length cB,.slice aU (List.replicate n false).length cU]) I I (fun w=>by kernel_rfl)) (AH 5 (by kernel_rfl) I I (AQ I I I I (fun bs=>Ce [.slice aB (List.replicate n Bk.zero).length cB,.slice aU (List.replicate n false).length cU] I (Aj Tt (Aq 6 I Tt (AE I I) (Aq 7 I Tt (AE I I) (BW (by kernel_rfl) (Kt (Af (Pm [0,1] I (Be (rs:=[.tmp 2,.tmp 3]) I I ?_))))))))))))
   exact fun _ h=>⟨(bs,_,_),rfl,trivial,h⟩
 · refine BN Fb false n I I I FO QT I I I I I I I (by simp only[ZI]; omega) (by omega) (fun vU=>Pre.fact (fun _ h=>B0 (h.at 0 I)) ?_)
   rintro⟨aU,cU,rfl⟩
   refine Aj Tt (AH 1 (by kernel_rfl) I I (BN Bk.enc Bk.zero n I I I Uc QV I I I I I I I (by simp only[Ue]; omega) (by omega) (fun vB=>Pre.fact (fun _ h=>B0 (h.at 0 I)) ?_)))
   rintro⟨aB,cB,rfl⟩
   refine Aj Tt (Aq 4 I Tt (AN ([.slice aB (List.replicate n Bk.zero).length cB,.slice aU (List.replicate n false).length cU]) I I (fun w=>by kernel_rfl)) (AH 5 (by kernel_rfl) I I (AQ I I I I (fun bs=>Ce [.slice aB (List.replicate n Bk.zero).length cB,.slice aU (List.replicate n false).length cU] I (Aj Tt (Aq 6 I Tt (AE I I) (Aq 7 I Tt (AE I I) (BW (by kernel_rfl) (Kt (Af (Be (rs:=[.tmp 2,.tmp 3]) I I ?_)))))))))))
   exact fun _ h=>⟨(bs,_,_),rfl,trivial,h⟩
end Go.Proofs.YtloldofjddbjoaaGreat
namespace Go.Proofs.YtloldofjddbjoaaGreat.Lt
open Go.Sep Go.RowKit Tryz
variable {n k a b:Nat} {t x z:Int} {l:List Int} {va v:Value} {w:Bool} {α:Type} {w0:World} {D:List Nat} {T U:TypeId} {cs us:List Value} {L:Env} {F:Act->World->Prop}
abbrev Wt:=Int×Bool
structure La where
 pins:Int
 rd:List Int
 wr:Int
 q:List Wt
def ins (t:Int) (l:List Int):List Int:=l.takeWhile (fun x=>decide (x<t))++t::l.dropWhile (fun x=>decide (x<t))
def He (m:La) (t:Int):Bool:=decide (0<=t/\m.wr≠t/\t∉m.rd/\t∉m.q.map Prod.fst)
def openB (m:La) (w:Bool):Bool:=decide (m.wr = -1)&&(!w||decide (m.rd.length=0))
def giveL (m:La) (t:Int) (w:Bool):La:=if w then {m with wr:=t} else {m with rd:=ins t m.rd}
def ET:List Wt->La->List Int×La
 |[],m=>([],{m with q:=[]})
 |w::q,m=>if openB m w.2 then (w.1::(ET q (giveL m w.1 w.2)).1,(ET q (giveL m w.1 w.2)).2) else ([],{m with q:=w::q})
def GD (m:La):List Int×La:=ET m.q m
def tryB (m:La) (t:Int) (w:Bool):Bool:=He m t&&decide (m.q.length=0)&&openB m w
def ME (m:La) (t:Int) (w:Bool):La:=if tryB m t w then giveL m t w else m
def Hf (m:La) (t:Int) (w:Bool):La:={m with q:=m.q++[(t,w)]}
def takeL (m:La) (t:Int) (w:Bool):La:=if He m t then (if tryB m t w then giveL m t w else Hf m t w) else m
def CK (m:La) (t:Int):La:={m with wr:=if m.wr=t then -1 else m.wr,rd:=m.rd.filter (fun x=>decide (x≠t)),q:=m.q.filter (fun x=>decide (x.1≠t))}
def dropL (m:La) (t:Int):List Int×La:=if t<0 then ([],m) else GD (CK m t)
def idleB (m:La):Bool:=openB m true&&decide (m.q.length=0)&&decide (m.pins=0)
def newL:La:=⟨0,[],-1,[]⟩
def tasks (m:La):List Int:=(if 0<=m.wr then [m.wr] else [])++(m.rd++m.q.map Prod.fst)
structure La.Ok0 (m:La):Prop where
 nd:(tasks m).Nodup
 nn:∀x∈tasks m,0<=x
 srt:m.rd.Pairwise (·<·)
 wr : -1<=m.wr
 ex:0<=m.wr->m.rd=[]
structure La.Ok (m:La) (n:Nat):Prop extends La.Ok0 m where
 len:(tasks m).length<=n
 pn:0<=m.pins/\m.pins<=n
theorem La.Ok.mono {m:La} (h:m.Ok n) (hk:n<=k):m.Ok k:=⟨h.toOk0,gF h.len hk,h.pn.1,by have:=h.pn.2; omega⟩
theorem La.Ok.lens {m:La} (h:m.Ok n):m.rd.length<=n/\m.q.length<=n:=by
 have:=h.len
 simp only[tasks,fL,gS] at this
 omega
theorem La.Ok0.rn {m:La} (h:m.Ok0):m.rd.Nodup:=h.srt.imp (fun h=>Int.ne_of_lt h)
theorem La.Ok0.qn {m:La} (h:m.Ok0):(m.q.map Prod.fst).Nodup:=by
 have:=h.nd
 simp only[tasks,iT] at this
 exact this.2.1.2.1
theorem La.Ok0.may {m:La} (h:m.Ok0) (t:Int) (ht:0<=t):He m t=decide (t∉tasks m):=by
 have:=h.wr
 unfold He tasks
 rw[jF]
 simp only[ib,not_or]
 by_cases hw:0<=m.wr
 · rw[fO hw]; simp only[iE]; exact⟨fun x=>⟨fun e=>x.2.1 e.symm,x.2.2⟩,fun x=>⟨ht,fun e=>x.1 e.symm,x.2⟩⟩
 · rw[fR hw]; exact⟨fun x=>⟨iH,x.2.2⟩,fun x=>⟨ht,by omega,x.2⟩⟩
theorem new_ok:newL.Ok 0:=⟨⟨by decide,by decide,List.Pairwise.nil,by decide,fun _=>rfl⟩,by decide,by decide⟩
theorem Oo (t:Int) (l:List Int):(ins t l).Perm (t::l):=by
 unfold ins
 refine jm.trans ?_
 rw[List.takeWhile_append_dropWhile]
theorem HK:x∈ins t l↔x=t\/x∈l:=by rw[(Oo t l).mem_iff,fq]
theorem XZ:∀{i:Nat},i<=l.length->(∀k,k<i->l.getD k 0<t)->(∀(h:i<l.length),t<=l.getD i 0)->l.takeWhile (fun x=>decide (x<t))=l.take i/\l.dropWhile (fun x=>decide (x<t))=l.drop i:=by
 induction l with
 |nil=>intro i hi _ _; simp
 |cons x l ih =>
  intro i hi h1 h2
  cases i with
  |zero =>
   have:=h2 (by simp)
   have hx:¬x<t:=by simp at this; omega
   simp[hx]
  |succ i =>
   have h0:=h1 0 (by omega)
   simp at h0
   have:=ih (i:=i) (by simpa using hi) (fun k hk=>by have:=h1 (k+1) (by omega); simpa using this) (fun h=>by have:=h2 (by simpa using h); simpa using this)
   simp[h0,this.1,this.2]
theorem ao {i:Nat} (hi:i<=l.length) (h1:∀k,k<i->l.getD k 0<t) (h2:∀(h:i<l.length),t<=l.getD i 0):ins t l=l.take i++t::l.drop i:=by
 obtain⟨a,b⟩:=XZ hi h1 h2
 rw[ins,a,b]
theorem Vg {x:Int}:ins t (x::l)=if x<t then x::ins t l else t::x::l:=by
 unfold ins
 by_cases h:x<t<;>simp[h]
theorem Kf:∀{l:List Int},l.Pairwise (·<·)->t∉l->(ins t l).Pairwise (·<·)
 |[],_,_=>by simp[ins]
 |x::l,h,hn=>by
  rw[Vg]
  have hx:=kj.1 h
  simp only[fq,not_or] at hn
  split
  · rename_i hlt
    refine kj.2 ⟨fun y hy=>?_,Kf hx.2 hn.2⟩
    rcases HK.1 hy with rfl|hy
    · exact hlt
    · exact hx.1 y hy
  · rename_i hlt
    have h3:t<x:=by omega
    refine kj.2 ⟨fun y hy=>?_,h⟩
    rcases fq.1 hy with rfl|hy
    · exact h3
    · exact Int.lt_trans h3 (hx.1 y hy)
theorem openB_iff {m:La}:openB m w=true↔m.wr = -1/\(w=true->m.rd=[]):=by
 unfold openB
 cases w<;>simp[List.length_eq_zero_iff]
theorem FG {m:La} {t:Int} (ht:0<=t) (ho:openB m w=true):(tasks (giveL m t w)).Perm (t::tasks m):=by
 obtain⟨hw,hr⟩:=openB_iff.1 ho
 unfold giveL
 cases w with
 |true=>simp[tasks,hw,hr rfl,ht]
 |false =>
  simp only[tasks,hw,iK,iL]
  simpa using (Oo t m.rd).append_right _
theorem Oq {m:La} (h:m.Ok0) (ht:0<=t) (hn:t∉tasks m) (ho:openB m w=true):(giveL m t w).Ok0:=by
 have hp:=FG ht ho
 obtain⟨hw,hr⟩:=openB_iff.1 ho
 refine⟨hp.nodup_iff.2 (iS.2 ⟨hn,h.nd⟩),fun x hx=>?_,?_,?_,?_⟩
 · rcases fq.1 (hp.mem_iff.1 hx) with rfl|hx
   · exact ht
   · exact h.nn x hx
 · unfold giveL
   cases w with
   |true=>exact h.srt
   |false=>exact Kf h.srt (fun hx=>hn (by simp[tasks,hx]))
 · unfold giveL; cases w<;>simp<;>omega
 · unfold giveL; cases w with
   |true=>exact fun _=>hr rfl
   |false=>intro hc; simp at hc; omega
theorem Is (m:La) (t:Int) (w:Bool):(giveL m t w).pins=m.pins:=by unfold giveL; split<;>rfl
theorem Vh (m:La) (t:Int) (w:Bool):(giveL m t w).q=m.q:=by unfold giveL; split<;>rfl
theorem give_ok {m:La} (h:m.Ok n) (ht:0<=t) (hn:t∉tasks m) (ho:openB m w=true):(giveL m t w).Ok (n+1) :=
 ⟨Oq h.toOk0 ht hn ho,by rw[(FG ht ho).length_eq]; simpa using h.len,by rw[Is]; have:=h.pn; omega⟩
theorem Ot (m:La) (t:Int) (w:Bool):(tasks (Hf m t w)).Perm (t::tasks m):=by
 have:tasks (Hf m t w)=tasks m++[t]:=by simp[tasks,Hf,gK]; rfl
 rw[this]
 exact List.perm_append_singleton t (tasks m)
theorem Vi {m:La} (h:m.Ok n) (ht:0<=t) (hn:t∉tasks m):(Hf m t w).Ok (n+1):=by
 have hp:=Ot m t w
 refine⟨⟨hp.nodup_iff.2 (iS.2 ⟨hn,h.nd⟩),fun x hx=>?_,h.srt,h.wr,h.ex⟩,by rw[hp.length_eq]; simpa using h.len,h.pn.1,by have:=h.pn.2; show m.pins<=_; omega⟩
 rcases fq.1 (hp.mem_iff.1 hx) with rfl|hx
 · exact ht
 · exact h.nn x hx
theorem take_ok {m:La} (h:m.Ok n) (t:Int) (w:Bool):(takeL m t w).Ok (n+1):=by
 unfold takeL
 split
 · rename_i hm
   have ht:0<=t:=by unfold He at hm; simp at hm; exact hm.1
   have hn:t∉tasks m:=by rw[h.may t ht] at hm; simpa using hm
   split
   · rename_i ho
     unfold tryB at ho
     simp only[gQ] at ho
     exact give_ok h ht hn ho.2
   · exact Vi h ht hn
 · exact h.mono (by omega)
theorem aq (q:List Wt):∀(m:La) (x:List Wt),ET q {m with q:=x}=ET q m:=by
 induction q with
 |nil=>intro m x; rfl
 |cons w q ih =>
  intro m x
  have e:giveL {m with q:=x} w.1 w.2={giveL m w.1 w.2 with q:=x}:=by unfold giveL; split<;>rfl
  have o:openB {m with q:=x} w.2=openB m w.2:=rfl
  simp only[ET,o,e,ih]
theorem PU (m:La) (w:Wt) (q:List Wt):(tasks {m with q:=w::q}).Perm (w.1::tasks {m with q:=q}):=by
 simp only[tasks,gB]
 rw[<-gK,<-gK]
 exact jm
theorem Vj {m:La} {w:Wt} {q:List Wt} (h:La.Ok0 {m with q:=w::q}) (ho:openB m w.2=true):La.Ok0 {giveL m w.1 w.2 with q:=q}/\(tasks {giveL m w.1 w.2 with q:=q}).Perm (tasks {m with q:=w::q}):=by
 have hp:=PU m w q
 have hnd:=iS.1 (hp.nodup_iff.1 h.nd)
 have ht:0<=w.1:=h.nn _ (hp.mem_iff.2 (iG ..))
 have h0:La.Ok0 {m with q:=q}:=⟨hnd.2,fun x hx=>h.nn x (hp.mem_iff.2 (iR _ hx)),h.srt,h.wr,h.ex⟩
 have e:giveL {m with q:=q} w.1 w.2={giveL m w.1 w.2 with q:=q}:=by unfold giveL; split<;>rfl
 have ho':openB {m with q:=q} w.2=true:=ho
 have h1:=Oq h0 ht hnd.1 ho'
 have h2:=FG ht ho'
 rw[e] at h1 h2
 exact⟨h1,h2.trans hp.symm⟩
theorem S4 (q:List Wt):∀m:La,(ET q m).2.pins=m.pins:=by
 induction q with
 |nil=>intro m; rfl
 |cons w q ih=>intro m; simp only[ET]; split<;>simp[ih,Is]
theorem Rm (q:List Wt):∀m:La,La.Ok0 {m with q:=q}->(ET q m).2.Ok0/\(tasks (ET q m).2).Perm (tasks {m with q:=q}):=by
 induction q with
 |nil=>intro m h; exact⟨h,.refl _⟩
 |cons w q ih =>
  intro m h
  simp only[ET]
  split
  · rename_i ho
    obtain⟨h1,h2⟩:=Vj h ho
    obtain⟨h3,h4⟩:=ih (giveL m w.1 w.2) h1
    exact⟨h3,h4.trans h2⟩
  · exact⟨h,.refl _⟩
def Stable (m:La):Prop:=∀w q,m.q=w::q->openB m w.2=false
theorem Ou (q:List Wt):∀m:La,Stable (ET q m).2:=by
 induction q with
 |nil=>intro m w q h; cases h
 |cons w q ih =>
  intro m
  simp only[ET]
  split
  · exact ih _
  · rename_i ho
    intro w' q' h
    cases h
    have:openB m w.2=false:=by simpa using ho
    exact this
theorem ar {m:La} (h:m.Ok n):(GD m).2.Ok n:=by
 obtain⟨h1,h2⟩:=Rm m.q m h.toOk0
 exact⟨h1,by unfold GD; rw[h2.length_eq]; exact h.len,by unfold GD; rw[S4]; exact h.pn⟩
theorem I2 {m:La} (h:m.Ok0) {t:Int} (ht:0<=t):tasks (CK m t)=(tasks m).filter (fun x=>decide (x≠t)):=by
 have:=h.wr
 have hm:∀q:List Wt,(q.filter (fun x=>decide (x.1≠t))).map Prod.fst=(q.map Prod.fst).filter (fun x=>decide (x≠t)):=fun q=>by
  rw[List.filter_map]; rfl
 have e1:(if 0<=(CK m t).wr then [(CK m t).wr] else [])=(if 0<=m.wr then [m.wr] else []).filter (fun x=>decide (x≠t)):=by
  by_cases hw:m.wr=t
  · have:(CK m t).wr = -1:=by simp[CK,hw]
    rw[this]; subst hw; simp[ht]
  · have:(CK m t).wr=m.wr:=by simp[CK,hw]
    rw[this]
    by_cases h0:0<=m.wr
    · simp[h0,hw]
    · simp[h0]
 show (if 0<=(CK m t).wr then [(CK m t).wr] else [])++_=_
 rw[e1]
 simp only[tasks,CK,jN,hm]
theorem leave_ok {m:La} (h:m.Ok n) {t:Int} (ht:0<=t):(CK m t).Ok n:=by
 have hp:=I2 h.toOk0 ht
 have hs:(tasks (CK m t)).Sublist (tasks m):=hp▸List.filter_sublist
 refine⟨⟨h.nd.sublist hs,fun x hx=>h.nn x (hs.subset hx),h.srt.sublist List.filter_sublist,?_,?_⟩,gF hs.length_le h.len,h.pn⟩
 · have:=h.wr; show -1<=(if m.wr=t then -1 else m.wr); split<;>omega
 · intro hw
   have hw':0<=m.wr:=by
    have:0<=(if m.wr=t then -1 else m.wr):=hw
    split at this<;>omega
   show m.rd.filter _=[]
   rw[h.ex hw']; rfl
theorem drop_ok {m:La} (h:m.Ok n) (t:Int):(dropL m t).2.Ok n:=by
 unfold dropL
 split
 · exact h
 · exact ar (leave_ok h (by omega))
theorem Ov {m:La} (h:m.q=[]\/∃w q,m.q=w::q/\openB m w.2=false):GD m=([],m):=by
 obtain⟨p,r,x,q⟩:=m
 rcases h with h|⟨w,q',h,ho⟩
 · have h':q=[]:=h
   subst h'; rfl
 · have h':q=w::q':=h
   subst h'
   simp only[GD,ET,ho]
   rfl
theorem LB (m:La) (t:Int) (w:Bool) (q:List Wt):giveL {m with q:=q} t w={giveL m t w with q:=q}:=by unfold giveL; split<;>rfl
theorem au {m:La} {w:Wt} {q:List Wt} (h:m.q=w::q) (ho:openB m w.2=true):GD m=(w.1::(GD (giveL {m with q:=q} w.1 w.2)).1,(GD (giveL {m with q:=q} w.1 w.2)).2):=by
 rw[LB]
 have e:=aq q (giveL m w.1 w.2) q
 simp only[GD,h,ET,ho,gR]
 rw[e]
theorem dg {m:La} {w:Wt} {q:List Wt} (h:m.Ok n) (hq:m.q=w::q) (ho:openB m w.2=true):(giveL {m with q:=q} w.1 w.2).Ok n:=by
 have e:{m with q:=w::q}=m:=by rw[<-hq]
 have h0:La.Ok0 {m with q:=w::q}:=by rw[e]; exact h.toOk0
 obtain⟨h1,h2⟩:=Vj h0 ho
 rw[LB]
 refine⟨h1,by rw[h2.length_eq,e]; exact h.len,?_⟩
 show 0<=(giveL m w.1 w.2).pins/\(giveL m w.1 w.2).pins<=n
 rw[Is]; exact h.pn
theorem It {f:α->Int}:∀{l:List α} {k:Nat} {y:α},(l.map f).Nodup->l[k]?=some y->f y=t->l.filter (fun x=>decide (f x≠t))=l.eraseIdx k
 |[],k,y,hn,hk,hy=>by simp at hk
 |x::l,0,y,hn,hk,hy=>by
  simp at hk; subst hk
  have hx:=(iS.1 hn).1
  rw[List.filter_cons_of_neg (by simp[hy])]
  simp only[List.eraseIdx_zero,List.tail_cons]
  exact List.filter_eq_self.2 (fun z hz=>by simp; rintro rfl; exact hx (hy▸kk hz))
 |x::l,k+1,y,hn,hk,hy=>by
  have hk':l[k]?=some y:=by simpa using hk
  have hx:=iS.1 hn
  have hne:f x≠t:=fun e=>hx.1 (by rw[e,<-hy]; exact kk (hY hk'))
  rw[List.filter_cons_of_pos (by simpa using hne),jC,It hx.2 hk' hy]
theorem LD {f:α->Int} {l:List α} (h:t∉l.map f):l.filter (fun x=>decide (f x≠t))=l :=
 List.filter_eq_self.2 (fun z hz=>by simp; rintro rfl; exact h (kk hz))
def encW:Enc Wt:=⟨2,fun w=>[.int .i64 w.1,.bool w.2],fun _=>rfl,fun a u h=>by simp at h; rcases h with rfl|rfl<;>rfl,by decide⟩
theorem take_not {y:Int} (h:x∉l.take k) (hy:l[k]?=some y) (hn:¬x=y):x∉l.take (k+1):=by
 rw[jd,hy]; simp; exact⟨h,hn⟩
theorem S5 {l:List Wt} {y:Wt} (h:x∉(l.take k).map Prod.fst) (hy:l[k]?=some y) (hn:¬y.1=x):x∉(l.take (k+1)).map Prod.fst:=by
 rw[jd,hy,gL,ib,not_or]; exact⟨h,by simp; exact fun e=>hn e.symm⟩
def At (l:List Int) (x z:Int):Prop:=(z = -1/\x∉l)\/∃k:Nat,z=(k:Int)/\l[k]?=some x
def AtW (l:List Wt) (x z:Int):Prop:=(z = -1/\x∉l.map Prod.fst)\/∃(k:Nat) (y:Wt),z=(k:Int)/\l[k]?=some y/\y.1=x
theorem At.iff (h:At l x z):decide (0<=z)=decide (x∈l):=by
 rcases h with⟨rfl,h⟩|⟨k,rfl,h⟩
 · simp[h]
 · have:=hY h; simp[this]
theorem AtW.iff {l:List Wt} (h:AtW l x z):decide (z<0)=decide (x∉l.map Prod.fst):=by
 rcases h with⟨rfl,h⟩|⟨k,y,rfl,h,e⟩
 · simp[h]
 · have:=kk (f:=Prod.fst) (hY h)
   rw[e] at this
   rw[jF]
   exact⟨fun hh=>by omega,fun hh=>absurd this hh⟩
theorem S6 (x:Int):Con prog 303 [.int .i64 x] (fun _=>True) [] (fun _:Unit=>.bool false) (fun _=>True) (fun _=>[]):=by
 intro w hE hH
 refine E0 func303 I hH ?_
 refine Cs I (Ak I (Cs I (Lm I (Lm I (Lq I (Qn I) (Ak I (Af (An I I ?_))))))))
 exact fun _ h=>⟨(),congrArg (fun z=>Ending.returned (Value.bool z)) (by simp),trivial,h⟩
theorem S7 (x:Int):Con prog 311 [.int .i64 x] (fun _=>True) [] (fun _:Unit=>.bool false) (fun _=>True) (fun _=>[]):=by
 intro w hE hH
 refine E0 func311 I hH ?_
 refine Cs I (Ak I (Cs I (Lm I (Lm I (Lq I (Qn I) (Ak I (Af (An I I ?_))))))))
 exact fun _ h=>⟨(),congrArg (fun z=>Ending.returned (Value.bool z)) (by simp),trivial,h⟩
theorem S8 (x y:Int):Con prog 302 [.int .i64 x,.int .i64 y] (fun _=>True) [] (fun _:Unit=>.bool (decide (x<y))) (fun _=>True) (fun _=>[]):=by
 intro w hE hH
 refine E0 func302 I hH ?_
 refine Cs I (Ak I (Cs I (Lm I (l_e I (E1 (S7 x) I call311 Tt (fun _ _=>Lm I (Lx I (Lx I (Lx I (Lq I (Qz I) (Lm I (Lm I (Lm I (Lq I (Ql I) (Lq I (Qz I) (Ak I (Af (An I I ?_))))))))))))))))))
 exact fun _ h=>⟨(),rfl,trivial,h⟩
theorem index_spec (l:List Int) (x:Int) (hn:l.length<=65536):Con prog 157 [va,.int .i64 x] (fun w=>RdV w va (AG .i64) l) [] (fun z:Int=>.int .i64 z) (fun z=>At l x z) (fun _=>[]):=by
 intro w hl hH
 refine E0 func157 I hH ?_
 refine Cs I (Ak I (Ag (Cs I (Lm I (Lq I (AL I U22 I (fun _ h=>hl.keep h (by simp[dom]))) (Lm I (Nk (Al ?_))))))))
 refine Bc (fun (k:Nat)=>[(0,va),(1,.int .i64 x),(7,.int .i64 (l.length:Int)),(8,.int .i64 (k:Int))]) (fun (k:Nat)=>St w [] []) (fun (k:Nat)=>k<=l.length/\x∉l.take k) (fun (k:Nat)=>l.length-k) (0) ⟨gb _,by simp⟩ (Si I) Ih (fun k hp=>Ag ?_)
 obtain⟨hk,hx⟩:=hp
 refine Cr I (Lq I (Ql I) (Ns ?_))
 refine CB 9 I (fun hlt=>?_) (fun hlt=>?_)
 · obtain⟨y,hy⟩:∃y,l[k]?=some y:=⟨_,fD (by omega)⟩
   refine Ai I (Ae (Ks (Al (Cs I (Lm I (Ak I (Cs I (Lm I (Lm I (Lm I (Lq I (As k I U22 Z3 I (fun _ h=>hl.keep h (by simp[dom])) I I (by omega)) (Lq I (AI k 0 I G3 I I (fun _ h=>hl.keep h (by simp[dom])) hy I) (Lq I (Qe I) (Nk ?_))))))))))))))
   refine CB 16 I (fun he=>?_) (fun he=>?_)
   · refine Ai I (Cs I (Lm I (Ak I (Af (Am (Aa (Aa (Am (Aa (An I I ?_))))))))))
     exact fun _ h=>⟨(k:Int),rfl,.inr ⟨k,rfl,by rw[hy,he]⟩,h⟩
   · refine Ab I (Ae (Aw (Kt (Cr I (Lq I (Qi I (by omega)) (Lm I (AB ?_)))))))
     exact AD (k+1) (by omega) ⟨by omega,take_not hx hy he⟩ (Si I) (fun _ h=>h)
 · refine Ab I (AO (Ac (Ac (Ar (Kt (Cs I (Ak I (Af (An I I ?_)))))))))
   exact fun _ h=>⟨-1,rfl,.inl ⟨rfl,by rw[fZ (by omega)] at hx; exact hx⟩,h⟩
theorem contains_spec (l:List Int) (x:Int) (hn:l.length<=65536):Con prog 105 [va,.int .i64 x] (fun w=>RdV w va (AG .i64) l) [] (fun _:Unit=>.bool (decide (x∈l))) (fun _=>True) (fun _=>[]):=by
 intro w hl hH
 refine E0 func105 I hH ?_
 refine Cs I (Ak I (Cs I (Lm I (Lm I (l_e I (E1 (index_spec l x hn) I call157 (fun _ h=>hl.keep h (by simp)) (fun z hz=>Lq I (Qg I) (Ak I (Af (An I I ?_))))))))))
 exact fun _ h=>⟨(),congrArg (fun z=>Ending.returned (Value.bool z)) hz.iff,trivial,h⟩
theorem isof_spec (y:Wt) (b:Nat) (t:Int):Con prog 285 [.agg (encW.f y).toArray,.pointer (some ⟨b,0,none⟩)] (fun _=>True) [Ad b 3 [.int .i64 t]] (fun _:Unit=>.bool (decide (y.1=t))) (fun _=>True) (fun _=>[Ad b 3 [.int .i64 t]]):=by
 intro w hE hH
 refine enter (n:=8) (vs:=[.agg (encW.f y).toArray,.pointer (some ⟨b,0,none⟩)]) (St w [b] [Ad b 3 [.int .i64 t]]) func285 I I I (St.init hH) ?_
 refine Cs I (l_e I (AQ I I I I (fun b1=>Ak I (Cs I (Lfa Sa I Z3 I (Lo G3 0 I (Lo G3 1 I (Lq I (Qe I) (Ak I (Af (An I I ?_)))))))))))
 exact fun _ h=>⟨(),rfl,trivial,h.drop⟩
theorem indexf_spec (l:List Wt) (b:Nat) (hb:blk va≠b\/l=[]) (t:Int) (hn:l.length<=65536):Con prog 188 [va,.func (.func 285) #[] #[.pointer (some ⟨b,0,none⟩)]] (fun w=>RdV w va encW l) [Ad b 3 [.int .i64 t]] (fun z:Int=>.int .i64 z) (fun z=>AtW l t z) (fun _=>[Ad b 3 [.int .i64 t]]):=by
 intro w hl hH
 refine enter (n:=19) (vs:=[va,.func (.func 285) #[] #[.pointer (some ⟨b,0,none⟩)]]) (St w [b] [Ad b 3 [.int .i64 t]]) func188 I I I (St.init hH) ?_
 refine Cs I (Ak I (Ag (Cs I (Lm I (Lq I (AL I D5 I (fun _ h=>hl.keepE h (by simpa [dom,Ad] using hb))) (Lm I (Nk (Al ?_))))))))
 refine Bc (fun (k:Nat)=>[(0,va),(1,.func (.func 285) #[] #[.pointer (some ⟨b,0,none⟩)]),(7,.int .i64 (l.length:Int)),(8,.int .i64 (k:Int))]) (fun (k:Nat)=>St w [b] [Ad b 3 [.int .i64 t]]) (fun (k:Nat)=>k<=l.length/\t∉(l.take k).map Prod.fst) (fun (k:Nat)=>l.length-k) (0) ⟨gb _,by simp⟩ (Si I) Ih (fun k hp=>Ag ?_)
 obtain⟨hk,hx⟩:=hp
 refine Cr I (Lq I (Ql I) (Ns ?_))
 refine CB 9 I (fun hlt=>?_) (fun hlt=>?_)
 · obtain⟨y,hy⟩:∃y,l[k]?=some y:=⟨_,fD (by omega)⟩
   refine Ai I (Ae (Ks (Al (Cs I (Lm I (Ak I (Cs I (Lm I (Lm I (Lm I (Lq I (As k I D5 Gz I (fun _ h=>hl.keepE h (by simpa [dom,Ad] using hb)) I I (by omega)) (Lq I (AU k I isAgg241 Gz I I (fun _ h=>hl.keepE h (by simpa [dom,Ad] using hb)) hy) (l_e I (Fx (β:=Unit) (X':=fun _=>St w _ [Ad b 3 [.int .i64 t]]) (v:=fun _=>.bool (decide (y.1=t))) (p:=fun _=>True) I I I I call285 I (fun w2 h=>Con.frame (F:=[]) (isof_spec y b t) h trivial) (fun _ _=>Nk ?_)))))))))))))))
   refine CB 16 I (fun he=>?_) (fun he=>?_)
   · refine Ai I (Cs I (Lm I (Ak I (Af (Am (Aa (Aa (Am (Aa (An I I ?_))))))))))
     exact fun _ h=>⟨(k:Int),rfl,.inr ⟨k,y,rfl,hy,he⟩,h⟩
   · refine Ab I (Ae (Aw (Kt (Cr I (Lq I (Qi I (by omega)) (Lm I (AB ?_)))))))
     exact AD (k+1) (by omega) ⟨by omega,S5 hx hy he⟩ (Si I) (fun _ h=>h)
 · refine Ab I (AO (Ac (Ac (Ar (Kt (Cs I (Ak I (Af (An I I ?_)))))))))
   exact fun _ h=>⟨-1,rfl,.inl ⟨rfl,by rw[fZ (by omega)] at hx; exact hx⟩,h⟩
theorem gdI (h:k<l.length):l[k]?=some (l.getD k 0):=by simp[ju,h]
theorem Rn (hs:l.Pairwise (·<·)) {i j:Nat} (hj:j<l.length) (hij:i<=j):l.getD i 0<=l.getD j 0:=by
 rcases fG i j with h|h
 · have:=j7.1 hs i j (by omega) hj h
   simp only[ju,fD hj,fD (show i<l.length by omega),gq]
   omega
 · rw[show i=j by omega]; exact Int.le_refl _
theorem MF (l:List Int) (x:Int) (hs:l.Pairwise (·<·)) (hn:l.length<=65536):Con prog 286 [va,.int .i64 x] (fun w=>RdV w va (AG .i64) l) [] (fun z:Nat×Bool=>.tuple #[.int .i64 (z.1:Int),.bool z.2]) (fun z=>z.1<=l.length/\(∀k,k<z.1->l.getD k 0<x)/\∀h:z.1<l.length,x<=l.getD z.1 0) (fun _=>[]):=by
 intro w hl hH
 refine E0 func286 I hH ?_
 refine Cs I (Las I (Ak I (Cs I (Lm I (Lq I (AL I U22 I (fun _ h=>hl.keep h (by simp[dom]))) (Ak I (Cs I (Lm I (Las I (Ak I (Ag (Al ?_))))))))))))
 refine CN (fun (i:Nat) (j:Nat)=>[(0,va),(1,.int .i64 x),(6,.int .i64 (l.length:Int)),(7,.int .i64 (i:Int)),(8,.int .i64 (j:Int))]) (fun (i:Nat) (j:Nat)=>St w [] []) (fun (i:Nat) (j:Nat)=>i<=j/\j<=l.length/\(∀k,k<i->l.getD k 0<x)/\∀k,j<=k->k<l.length->x<=l.getD k 0) (fun (i:Nat) (j:Nat)=>j-i) (0) (l.length) ⟨gb _,ga _,fun k hk=>absurd hk (jy _),fun k h1 h2=>by omega⟩ (Si I) Ih (fun i j hp=>Ag (Ag ?_))
 obtain⟨hij,hj,hlo,hhi⟩:=hp
 refine Cr I (Lm I (Lm I (Lq I (Ql I) (Nk ?_))))
 refine CB 15 I (fun hlt=>?_) (fun hlt=>?_)
 · obtain⟨hm,hmd⟩:∃hm:Nat,hm=(i+j)/2:=⟨_,rfl⟩
   have hf:((i:Int)+(j:Int)).fdiv 2=(hm:Int):=by rw[kh _ (by omega)]; omega
   refine Ai I (Ae (Kt (Al (Cs I (Lm I (Lm I (Lq I (Bf I I I (by omega)) (Lq I (Bq I U3 Ub I (EL (by omega))) (Lq I (ZL hm I I I hf) (Lq I (Bq I Ub U3 I (by first|rfl|(simp only[IntKind.wrap]; omega)|exact Cj (by omega))) (Ak I (Cs I (Lm I (Lm I (Lq I (As hm I U22 Z3 I (fun _ h=>hl.keep h (by simp[dom])) I I (by omega)) (Lq I (AI hm 0 I G3 I I (fun _ h=>hl.keep h (by simp[dom])) (gdI (by omega)) I) (Lm I (l_e I (E1 (S8 (l.getD hm 0) x) I call302 Tt (fun _ _=>Nk ?_))))))))))))))))))))
   refine CB 27 I (fun hc=>?_) (fun hc=>?_)
   · refine Ai I (Cr I (Lm I (Lq I (Qi I (by omega)) (Las I (AB (Aw ?_))))))
     exact AD ((hm+1,j)) (by dsimp only; omega) ⟨by dsimp only; omega,hj,fun k hk=>Int.lt_of_le_of_lt (Rn hs (by omega) (show k<=hm by omega)) hc,hhi⟩ (Si I) (fun _ h=>h)
   · refine Ab I (Cr I (Lm I (Las I (AB (Aw ?_)))))
     exact AD ((i,hm)) (by dsimp only; omega) ⟨by dsimp only; omega,by dsimp only; omega,hlo,fun k h1 h2=>jS (Int.not_lt.1 hc) (Rn hs h2 h1)⟩ (Si I) (fun _ h=>h)
 · have hie:i=j:=by omega
   subst hie
   refine Ab I (AO (Ac (Ac (Ar (Kt (Cs I (Lm I (Lm I (Lm I (Lq I (Ql I) (Lm I ?_)))))))))))
   refine CB 35 I (fun hil=>?_) (fun hil=>?_)
   · refine Lm I (Lm I (Lq I (As i I U22 Z3 I (fun _ h=>hl.keep h (by simp[dom])) I I (by omega)) (Lq I (AI i 0 I G3 I I (fun _ h=>hl.keep h (by simp[dom])) (gdI (by omega)) I) (Lm I (Lq I (Qe I) (Lm I ?_))))))
     refine CB 42 I (fun heq=>?_) (fun heq=>?_)
     · refine Lx I (Lx I (Lx I (Lx I (Lx I (Lx I (Lx I (Lx I (Lx I (Lq I (Qy I) (Lq I (Qy I) (Las I (Ak I (Af (Be (rs:=[.tmp 4,.tmp 5]) I I ?_))))))))))))))
       exact fun _ h=>⟨(i,true),rfl,⟨hj,hlo,fun hh=>hhi i (ga _) hh⟩,h⟩
     · refine Lm I (Lm I (Lq I (As i I U22 Z3 I (fun _ h=>hl.keep h (by simp[dom])) I I (by omega)) (Lq I (AI i 0 I G3 I I (fun _ h=>hl.keep h (by simp[dom])) (gdI (by omega)) I) (l_e I (E1 (S6 _) I call303 Tt (fun _ _=>Lm I (Lx I (Lx I (Lq I (Qz I) (Lq I (Qz I) (Lq I (Qy I) (Las I (Ak I (Af (Be (rs:=[.tmp 4,.tmp 5]) I I ?_)))))))))))))))
       exact fun _ h=>⟨(i,false),rfl,⟨hj,hlo,fun hh=>hhi i (ga _) hh⟩,h⟩
   · refine Lx I (Lx I (Lx I (Lx I (Lx I (Lx I (Lx I (Lx I (Lx I (Lx I (Lx I (Lx I (Lx I (Lx I (Lx I (Lx I (Lx I (Lq I (Qz I) (Las I (Ak I (Af (Be (rs:=[.tmp 4,.tmp 5]) I I ?_)))))))))))))))))))))
     exact fun _ h=>⟨(i,false),rfl,⟨hj,hlo,fun hh=>hhi i (ga _) hh⟩,h⟩
theorem PV (l:List Int) (hn:l.length<=65536):Con prog 107 [va] (fun w=>RdV w va (AG .i64) l) [] (fun v:Value=>v) (fun _=>True) (fun v=>[Az v 3 (AG .i64) l]):=by
 intro w hl hH
 obtain⟨a,c,rfl⟩:=F0 hl
 refine E0 func107 I hH ?_
 refine Cs I (Ak I (Ag (Cs I (Lm I (Lq I (Fv I U22 I I) (Nk ?_))))))
 refine Pre.caseB 4 I (fun hn=>?_) (fun hn=>?_)
 · rw[jJ] at hn
   subst hn
   have hl0:=EB hl
   subst hl0
   refine Ai I (Cs I (Ak I (Af (Aa (row0 3 (AG .i64) none (An I I ?_))))))
   exact fun _ h=>⟨_,rfl,trivial,h⟩
 · refine Ab I (Ae (Kt (Cs I (l_e I (Ax (sz:=1) [] I I I I I U22 Z3 I zeroValue3 I (fun b=>rowLit (AG .i64) [] I I (Lm I (l_e I (Ap U22 U22 Ez I (fun _ h=>hl.keep h (by simp)) (by simp only[fL,fv,jn]; omega) (fun v=>Ak I (Af ?_)))))))))))
   rw[gO]
   refine An I I ?_
   exact fun _ h=>⟨v,rfl,trivial,h⟩
theorem Ow (l:List Wt) (hn:l.length<=65536):Con prog 189 [va] (fun w=>RdV w va encW l) [] (fun v:Value=>v) (fun _=>True) (fun v=>[Az v 241 encW l]):=by
 intro w hl hH
 obtain⟨a,c,rfl⟩:=F0 hl
 refine E0 func189 I hH ?_
 refine Cs I (Ak I (Ag (Cs I (Lm I (Lq I (Fv I D5 I I) (Nk ?_))))))
 refine Pre.caseB 4 I (fun hn=>?_) (fun hn=>?_)
 · rw[jJ] at hn
   subst hn
   have hl0:=EB hl
   subst hl0
   refine Ai I (Cs I (Ak I (Af (Aa (row0 241 encW none (An I I ?_))))))
   exact fun _ h=>⟨_,rfl,trivial,h⟩
 · refine Ab I (Ae (Kt (Cs I (l_e I (Ax (sz:=2) [] I I I I I D5 Gz I zeroValue241 I (fun b=>rowLit encW [] I I (Lm I (l_e I (Ap D5 D5 Mg I (fun _ h=>hl.keep h (by simp)) (by simp only[fL,fv,jn]; omega) (fun v=>Ak I (Af ?_)))))))))))
   rw[gO]
   refine An I I ?_
   exact fun _ h=>⟨v,rfl,trivial,h⟩
theorem X0:Extern.find Tryz.f304=some (Extern.SlicesOverlaps.overlaps #[22,22] #[4]):=by kernel_rfl
theorem X1:Extern.findNext Tryz.f304=none:=by kernel_rfl
theorem X2:Tryz.f304.body.isNone=true:=by kernel_rfl
theorem X3:(Tryz.f304.name == "runtime.NumGoroutine")=false:=by kernel_rfl
theorem dh {w:World} {H:List Ent} {h:St w0 D (Ad a T cs::Ad b U us::H) w}:a≠b:=by
 have:=h.hp.nodup
 intro e
 subst e
 simp[Sep.dom,Ad] at this
theorem aw {a b:Ent} (k:Pre n L (St w0 D [a]) F):Pre n L (St w0 D [a,b]) F:=k.world _ (fun _ s=>s.sublist (by simp))
theorem ax {a b c:Ent} (k:Pre n L (St w0 D [a]) F):Pre n L (St w0 D [a,b,c]) F:=k.world _ (fun _ s=>s.sublist (by simp))
theorem Ox (l:List Int) (i:Nat) (t:Int) (bt:Nat) (hi:i<=l.length) (hn:l.length<=65536):Con prog 287 [v,.int .i64 (i:Int),.slice (some ⟨bt,0,none⟩) 1 1] (fun _=>True) [Az v 3 (AG .i64) l,Ad bt 3 [.int .i64 t]] (fun v:Value=>v) (fun _=>True) (fun v=>[Az v 3 (AG .i64) (l.take i++t::l.drop i)]):=by
 intro w hE hH
 have hlen2:(l.take i++t::l.drop i).length=l.length+1:=by simp; omega
 refine Ey func287 I hH ?_
 refine Cs I (Ak I (Cs I (Lm I (Lm I (Lq I (D1 i I U22 Z3 I (Hrd 0 I) I I (by omega)) (Nk (Cs I (Lm I (Lq I (Ew I U22 I) (Ak I (Ag (Cs I (Lm I (Lq I (Qe I) (Nk (Sb 16 false I (I) (Ab I (Ae (Kt (Cs I (Lm I (Lq I (AL I U22 I (Hrd 0 I)) (Ak I ?_)))))))))))))))))))))))
 refine Ag (Cs I (Lm I (Lm I (Lq I (Qe I) (Nk ?_)))))
 refine CB 22 I (fun hn=>?_) (fun hn=>?_)
 · have hi2:i=l.length:=by omega
   refine Ai I (Cs I (Lm I (Lm I (l_e I (Ap U22 U22 Ez I (fun _ h=>AW (h.at 1 I) (AG .i64) [t] I I) (by simp only[fL,fv,jn]; omega) (fun v2=>Ak I (Af (Aa (Bo (l':=l.take i++t::l.drop i) (by subst hi2; simp) (AM (Av (An I I ?_))))))))))))
   exact fun _ h=>⟨v2,rfl,trivial,h⟩
 · have hin:i<l.length:=by omega
   refine Dd (by omega) (fun b0 cap pre post hv hcap hpost=>?_)
   subst hv
   refine Ab I (Ae (Ks (Cs I (Lm I (Lm I (Lq I (Bf I I I (by omega)) (Lm I (Lq I (cW I U22 I) (Lq I (BS I I I) (Nk ?_))))))))))
   refine CB 31 I (fun hroom=>?_) (fun hroom=>?_)
   · have hp0:post.length=cap-l.length:=by rw[hpost]; exact jv _
     have hl0:=(AG .i64).fa l
     have hsz:(AG .i64).sz=1:=rfl
     rw[hsz,jv] at hl0
     have hRD:∀(w2 w3:World) (D:List Nat) (H:List Ent),St w3 D H w2->(Ad b0 3 (pre++(AG .i64).flat l++post))∈H->RdV w2 (.slice (some ⟨b0,pre.length,none⟩) l.length cap) (AG .i64) l:=fun w2 w3 D H h hm=>EF (h.hp.holds _ hm) _ l pre.length cap pre post rfl rfl hcap
     refine Ai I (Cs I (Lm I (Lm I (Lq I (Ff i I U22 Z3 I I I (by omega)) (Lm I (Lm I (Lq I (Bf I I I (by omega)) (Lm I (Lq I (Dl I I I (by omega)) (Sv' 39 (.int .i64 ((l.length+1-i:Nat):Int)) I (by congr 1; omega) (l_e I ?_)))))))))))
     refine Hr (E:=AG .i64) (l:=l.take i) (m:=l.length+1-i) (a0:=(0:Int)) I I I U22 U3 Ez I I I I I ?_ ?_ ?_ ?_ ?_
     · intro w2 h
       have h1:=CF (hRD _ _ _ _ h (iG ..)) (lo:=0) (hi:=i) (gb _) (by omega)
       have hsl:vsl (.slice (some ⟨b0,pre.length,none⟩) l.length cap) (AG .i64).sz 0 i=.slice (some ⟨b0,pre.length,none⟩) i cap:=by simp[vsl,BF]
       rw[hsl] at h1
       simpa using h1
     · show cap<(l.take i).length+(l.length+1-i)
       rw[fJ]; omega
     · rw[fJ]; simp only[ZH]; omega
     · rw[fJ]; omega
     intro v2
     refine Ak I (Cs I (Lm I (Lm I ?_)))
     have hl2:(l.take i++List.replicate (l.length+1-i) (0:Int)).length=l.length+1:=by simp; omega
     refine Dd (by omega) (fun b2 cap2 pre2 post2 hv2 hcap2 hpost2=>?_)
     subst hv2
     rw[hl2] at hcap2 hpost2
     rw[hl2]
     have hp2:post2.length=cap2-(l.length+1):=by rw[hpost2]; exact jv _
     have hA:(pre2++(AG .i64).flat (l.take i)).length=pre2.length+i:=by rw[fL,Enc.fa,fJ,hsz]; omega
     have hcl:(pre2++(AG .i64).flat (l.take i++List.replicate (l.length+1-i) (0:Int))++post2).length=pre2.length+(l.length+1)+post2.length:=by rw[fL,fL,Enc.fa,hl2,hsz]; omega
     refine Lq I (Da i I U22 Z3 I I I (by omega)) (Lm I (Sv' 43 (.slice (some ⟨b2,pre2.length+i,none⟩) (l.length+1-i) (cap2-i)) I (by rw[fR (show ¬cap2=i by omega),jv]) (l_e I (Gt (E:=AG .i64) (sc':=1) (m:=[t]) 1 I I I U22 Z3 I I (by omega) (fun _ h=>AW (h.at 2 I) (AG .i64) [t] I I) (by rw[hcl,hsz]; omega) (Ns (Dn (rg 9) 13122 _ I St.drawn Ih (Dm I (Dm I (Dm I (Dq I (Qi I (by omega)) (Dq I (Da (i+1) I U22 Z3 I I I (by omega)) (Dm I (Dm I (Dq I (Da i I U22 Z3 I I I (by omega)) (Sv' 50 (.slice (some ⟨b2,pre2.length+(i+1),none⟩) (l.length+1-(i+1)) (cap2-(i+1))) I (by rw[fR (show ¬cap2=i+1 by omega),jv]) (Sv' 53 (.slice (some ⟨b0,pre.length+i,none⟩) (l.length-i) (cap-i)) I (by rw[fR (show ¬cap=i by omega),jv]) (d_t I ?_)))))))))))))))))
     refine Gt (E:=AG .i64) (sc':=cap-i) (m:=l.drop i) (l.length-i) I I I U22 Z3 I I (by omega) (fun w2 h=>?_) (by rw[GU,hcl,hsz]; omega) ?_
     · have h1:=CF (hRD _ _ _ _ h (iR _ (iG ..))) (lo:=i) (hi:=l.length) (by omega) (ga _)
       have hsl:vsl (.slice (some ⟨b0,pre.length,none⟩) l.length cap) (AG .i64).sz i l.length=.slice (some ⟨b0,pre.length+i,none⟩) (l.length-i) (cap-i):=by simp[vsl,BF,show ¬cap=i by omega,hsz]
       rw[hsl] at h1
       simpa using h1
     refine AK (Kt (Cs I (Lm I (Ak I (Af (Aa ?_))))))
     refine Fi (E:=AG .i64) (len:=l.length+1) (cap:=cap2) (l.take i++t::l.drop i) pre2 post2 ?_ hlen2 (by omega) (by omega) hpost2 ?_
     · rw[Enc.fm,<-gK,<-hA]
       have hd:=Nt (pre2++(AG .i64).flat (l.take i)) ((AG .i64).flat (List.replicate (l.length+1-i) 0)) post2 ((AG .i64).flat (l.drop i)) (.int .i64 t) (by rw[Enc.fa,Enc.fa,jB,fK,hsz]; omega)
       rw[hA,gM] at hd
       rw[hA]
       refine hd.trans ?_
       rw[Enc.fm,Enc.fo,gK pre2]; rfl
     refine ax (An I I ?_)
     exact fun _ h=>⟨_,rfl,trivial,h⟩
   · have hp0:post.length=cap-l.length:=by rw[hpost]; exact jv _
     have hl0:=(AG .i64).fa l
     have hsz:(AG .i64).sz=1:=rfl
     rw[hsz,jv] at hl0
     have hcl:(pre++(AG .i64).flat l++post).length=pre.length+l.length+post.length:=by rw[fL,fL,hl0]
     have hA:(pre++(AG .i64).flat (l.take i)).length=pre.length+i:=by rw[fL,Enc.fa,fJ,hsz]; omega
     refine Ab I (Ae (Kt (Cs I (Lm I (Lm I (Lm I (Lq I (Bf I I I (by omega)) (Lq I (Ff (l.length+1) I U22 Z3 I I I (by omega)) (Ak I (Ag (Cs I (Lm I (Lm I (Lm I (Lm I (Lq I (Bf I I I (by omega)) (Lq I (Da (i+1) I U22 Z3 I I I (by omega)) (Pre.fact (fun _ h=>dh (h:=h)) (fun hne=>l_e I (Pt (t:=22) (r:=4) (e:=3) I I I func304 X2 X3 X1 X0 U22 Z3 I I (Hat 1 I) (Hat 0 I) (fun e=>hne e.symm) (by intro e; rw[e] at hcl; simp at hcl; omega) (Lq I (Qt I) (Nk (Ai I (Ag (Dn (rg 9) 13122 _ I St.drawn Ih (Dm I (Dm I (Dm I (Dq I (Qi I (by omega)) (Dq I (Da (i+1) I U22 Z3 I I I (by omega)) (Dm I (Dm I (Dq I (Da i I U22 Z3 I I I (by omega)) (Sv' 73 (.slice (some ⟨b0,pre.length+(i+1),none⟩) (l.length+1-(i+1)) (cap-(i+1))) I (by rw[fR (show ¬cap=i+1 by omega),jv]) (Sv' 76 (.slice (some ⟨b0,pre.length+i,none⟩) (l.length+1-i) (cap-i)) I (by rw[fR (show ¬cap=i by omega),jv]) (d_t I ?_))))))))))))))))))))))))))))))))))))
     refine Gt (E:=AG .i64) (sc':=cap-i) (m:=l.drop i) (l.length-i) I I I U22 Z3 I I (by omega) (fun w2 h=>?_) (by rw[hcl,hsz]; omega) ?_
     · have h1:=CF (EF (h.at 0 rfl) _ l pre.length cap pre post rfl rfl hcap) (lo:=i) (hi:=l.length) (by omega) (ga _)
       have hsl:vsl (.slice (some ⟨b0,pre.length,none⟩) l.length cap) (AG .i64).sz i l.length=.slice (some ⟨b0,pre.length+i,none⟩) (l.length-i) (cap-i):=by simp[vsl,BF,show ¬cap=i by omega,hsz]
       rw[hsl] at h1
       simpa using h1
     refine AK (Kt (Cs I (Lm I (Lm I (Lq I (Da i I U22 Z3 I I I (by omega)) (Lm I (Sv' 80 (.slice (some ⟨b0,pre.length+i,none⟩) (l.length+1-i) (cap-i)) I (by rw[fR (show ¬cap=i by omega),jv]) (l_e I (Gt (E:=AG .i64) (sc':=1) (m:=[t]) 1 I I I U22 Z3 I I (by omega) (fun _ h=>AW (h.at 1 I) (AG .i64) [t] I I) (by rw[GU,hcl,hsz]; omega) (Nk (Cs I (Lm I (Ak I (Af (Aa ?_)))))))))))))))
     refine Fi (E:=AG .i64) (len:=l.length+1) (cap:=cap) (l.take i++t::l.drop i) pre (post.drop 1) ?_ hlen2 (by omega) (by omega) (by rw[fK,hp0,hsz]; omega) ?_
     · have hu:=Sk (pre++(AG .i64).flat (l.take i)) ((AG .i64).flat (l.drop i)) post (.int .i64 t) (by intro e; rw[e] at hp0; simp at hp0; omega)
       rw[hA,gM,gK pre,<-Enc.fm,gP] at hu
       refine hu.trans ?_
       rw[Enc.fm,Enc.fo,gK pre]; rfl
     refine aw (An I I ?_)
     exact fun _ h=>⟨_,rfl,trivial,h⟩
theorem Oy (l:List Int) (i:Nat) (hi:i<l.length) (hn:l.length<=65536):Con prog 249 [v,.int .i64 (i:Int),.int .i64 ((i:Int)+1)] (fun _=>True) [Az v 3 (AG .i64) l] (fun v:Value=>v) (fun _=>True) (fun v=>[Az v 3 (AG .i64) (l.eraseIdx i)]):=by
 intro w hE hH
 obtain⟨bb,oo,cc,rfl⟩:=Jf (BO (hH.holds _ (iG ..))) (show 0<l.length by omega)
 refine Ey func249 I hH ?_
 refine Ag (Pre.fact (fun _ h=>(h.rd 0 I).cap) (fun hcap=>Cr I (Ak I (Cs I (Lm I (Lm I (Lm I (Lm I (Lq I (AL I U22 I (Hrd 0 I)) (Lq I (JG i (i+1) l.length I U22 Z3 I (Hrd 0 I) I I I I I I (by omega) (by omega) (by omega)) (Ns (Cs I (Lm I (Lm I (Lq I (Qe I) (Nk (Sf 16 I (by omega) (Ab I (Ae (Kt (Cs I (Lm I (Lq I (AL I U22 I (Hrd 0 I)) (Ak I (Ag ?_)))))))))))))))))))))))))
 refine Dn (rg 8) 729 (fun _=>True) I St.drawn Tt (Dm I (Dm I (Dq I (Ff i I U22 Z3 I I I (by have:l.length<=cc:=hcap; omega)) (Dm I (Dm I (Dq I (Da (i+1) I U22 Z3 I I I (by omega)) (Sv' 22 (vsl (.slice (some ⟨bb,oo,none⟩) l.length cc) (AG .i64).sz 0 i) I (by simp[vsl,BF]) (Sv' 25 (vsl (.slice (some ⟨bb,oo,none⟩) l.length cc) (AG .i64).sz (i+1) l.length) rfl (by by_cases h9:cc=i+1<;>simp[vsl,BF,h9,AG,encW]) ?_))))))))
 have hcc:l.length<=vcap (.slice (some ⟨bb,oo,none⟩) l.length cc):=hcap
 refine d_e I (G0 i I I I U22 U22 Z3 I I (fun _ h=>CF (h.rd 0 I) (lo:=i+1) (hi:=l.length) (by omega) (ga _)) (by simp only[fK,fJ]; omega) (fun v2 hc2=>Bo (l':=l.eraseIdx i) (by rw[jH,jI]) ?_))
 have hl2:(l.eraseIdx i).length=l.length-1:=by rw[List.length_eraseIdx]; simp; omega
 refine Aj Tt (Das I (AK (Kt (Cs I (Lm I (Lm I (Lq I (AL I U22 I (Hrd 0 I)) (Lm I (Lq I (JF (l.eraseIdx i).length l.length I U22 Z3 I (Hrd 0 I) I I I I (by omega) (by omega)) (l_e I (F2 I I U22 Ez I I (by decide) I (by omega) (by omega) (Nk (Cs I (Lm I (Ak I (Af (An I I ?_)))))))))))))))))
 exact fun _ h=>⟨v2,rfl,trivial,h⟩
theorem deletew_spec (l:List Wt) (i:Nat) (hi:i<l.length) (hn:l.length<=65536):Con prog 251 [v,.int .i64 (i:Int),.int .i64 ((i:Int)+1)] (fun _=>True) [Az v 241 encW l] (fun v:Value=>v) (fun _=>True) (fun v=>[Az v 241 encW (l.eraseIdx i)]):=by
 intro w hE hH
 obtain⟨bb,oo,cc,rfl⟩:=Jf (BO (hH.holds _ (iG ..))) (show 0<l.length by omega)
 refine Ey func251 I hH ?_
 refine Ag (Pre.fact (fun _ h=>(h.rd 0 I).cap) (fun hcap=>Cr I (Ak I (Cs I (Lm I (Lm I (Lm I (Lm I (Lq I (AL I D5 I (Hrd 0 I)) (Lq I (JG i (i+1) l.length I D5 Gz I (Hrd 0 I) I I I I I I (by omega) (by omega) (by omega)) (Ns (Cs I (Lm I (Lm I (Lq I (Qe I) (Nk (Sf 16 I (by omega) (Ab I (Ae (Kt (Cs I (Lm I (Lq I (AL I D5 I (Hrd 0 I)) (Ak I (Ag ?_)))))))))))))))))))))))))
 refine Dn (rg 8) 729 (fun _=>True) I St.drawn Tt (Dm I (Dm I (Dq I (Ff i I D5 Gz I I I (by have:l.length<=cc:=hcap; omega)) (Dm I (Dm I (Dq I (Da (i+1) I D5 Gz I I I (by omega)) (Sv' 22 (vsl (.slice (some ⟨bb,oo,none⟩) l.length cc) encW.sz 0 i) I (by simp[vsl,BF]) (Sv' 25 (vsl (.slice (some ⟨bb,oo,none⟩) l.length cc) encW.sz (i+1) l.length) rfl (by by_cases h9:cc=i+1<;>simp[vsl,BF,h9,AG,encW]) ?_))))))))
 have hcc:l.length<=vcap (.slice (some ⟨bb,oo,none⟩) l.length cc):=hcap
 refine d_e I (G0 i I I I D5 D5 Gz I I (fun _ h=>CF (h.rd 0 I) (lo:=i+1) (hi:=l.length) (by omega) (ga _)) (by simp only[fK,fJ]; omega) (fun v2 hc2=>Bo (l':=l.eraseIdx i) (by rw[jH,jI]) ?_))
 have hl2:(l.eraseIdx i).length=l.length-1:=by rw[List.length_eraseIdx]; simp; omega
 refine Aj Tt (Das I (AK (Kt (Cs I (Lm I (Lm I (Lq I (AL I D5 I (Hrd 0 I)) (Lm I (Lq I (JF (l.eraseIdx i).length l.length I D5 Gz I (Hrd 0 I) I I I I (by omega) (by omega)) (l_e I (F2 I I D5 Mg I I (by decide) I (by omega) (by omega) (Nk (Cs I (Lm I (Ak I (Af (An I I ?_)))))))))))))))))
 exact fun _ h=>⟨v2,rfl,trivial,h⟩
abbrev LT (b:Nat) (vR vQ:Value) (m:La):List Ent:=[Ad b 275 [.int .i64 m.pins,vR,.int .i64 m.wr,vQ],Az vR 3 (AG .i64) m.rd,Az vQ 241 encW m.q]
theorem ay {w:World} {W:TypeId} {vR vQ:Value} {E:Enc Int} {E2:Enc Wt} {q:List Wt} {H:List Ent} {h:St w0 D (Ad a T cs::Ad b U us::Az vR W E l::Az vQ 241 E2 q::H) w}:blk vQ≠a\/q=[]:=by
 by_cases hq:q=[]
 · exact .inr hq
 refine .inl ?_
 have:=h.hp.nodup
 obtain⟨b',o,c,rfl⟩:=Jf (BO (h.at 3 rfl)) (ji.2 hq)
 intro e
 have h3:(Az (.slice (some ⟨b',o,none⟩) q.length c) 241 E2 q).at w:=h.at 3 rfl
 have hc:¬c=0:=by
  have:=(BO h3).cap
  have hp:=ji.2 hq
  have h9:q.length<=c:=this
  omega
 have ho:C4 (.slice (some ⟨b',o,none⟩) q.length c)=some b':=by simp[C4,hc]
 have hb:b'=a:=e
 subst hb
 simp[Sep.dom,Ad,Az,ho] at this
theorem waits_spec {m:La} (hn:m.q.length<=60000) (b:Nat) (vR vQ:Value) (t:Int):Con prog 250 [.pointer (some ⟨b,0,none⟩),.int .i64 t] (fun _=>True) (LT b vR vQ m) (fun z:Int=>.int .i64 z) (fun z=>AtW m.q t z) (fun _=>LT b vR vQ m):=by
 intro w hE hH
 refine enter (n:=11) (vs:=[.pointer (some ⟨b,0,none⟩),.int .i64 t]) (St w (dom (LT b vR vQ m)) (LT b vR vQ (m))) func250 I I I (St.init hH) ?_
 refine Cs I (l_e I (AQ I I I I (fun bt=>Ak I (Cs I (Lm I (Lc I (Lfa DT I GA I (Lo KP 1 I (Lq I (DD (fn:=.func 0) (us:=#[.pointer (some ⟨bt,0,none⟩)]) 285 I (vs:=#[]) (fun a k=>by simp) (fun a k=>by simp[k.eval (x:=.tmp 3) rfl])) (Pre.fact (fun _ h=>ay (h:=h)) (fun hne=>l_e I (Bg (indexf_spec m.q bt hne t (by omega)) I I I call188 I (Hrd 3 I) (fun z hz=>Ak I (Af (Av (An I I ?_))))))))))))))))
 exact fun _ h=>⟨z,rfl,hz,h⟩
theorem Iu {m:La} (hm:m.Ok n) (hn:n<=60000) (b:Nat) (vR vQ:Value) (wr:Bool):Con prog 156 [.pointer (some ⟨b,0,none⟩),.bool wr] (fun _=>True) (LT b vR vQ m) (fun _:Unit=>.bool (openB m wr)) (fun _=>True) (fun _=>LT b vR vQ m):=by
 intro w hE hH
 refine enter (n:=22) (vs:=[.pointer (some ⟨b,0,none⟩),.bool wr]) (St w (dom (LT b vR vQ m)) (LT b vR vQ (m))) func156 I I I (St.init hH) ?_
 refine Cs I (Ak I (Cs I (Lm I (Lc I (Lfa DT I Z3 I (Lo G3 0 I (Lq I (Qe I) (Lm I ?_))))))))
 refine CB 10 I (fun h1=>?_) (fun h1=>?_)
 · refine Lm I (Lq I (Qt I) (Lm I ?_))
   refine CB 13 I (fun h2=>?_) (fun h2=>?_)
   · refine Lx I (Lx I (Lx I (Lx I (Lx I (Lx I (Lq I (Qy I) (Lq I (Qy I) (Ak I (Af (An I I ?_))))))))))
     exact fun _ h=>⟨(),congrArg (fun z=>Ending.returned (Value.bool z)) (by simp[openB, *]),trivial,h⟩
   · refine Lm I (Lc I (Lfa DT I Z22 I (Lo G22 0 I (Lq I (AL I U22 I (Hrd 1 I)) (Lq I (Qe I) (Lq I (Qz I) (Lq I (Qy I) (Ak I (Af (An I I ?_))))))))))
     exact fun _ h=>⟨(),congrArg (fun z=>Ending.returned (Value.bool z)) (by simp[openB, *]),trivial,h⟩
 · refine Lx I (Lx I (Lx I (Lx I (Lx I (Lx I (Lx I (Lx I (Lx I (Lx I (Lq I (Qz I) (Ak I (Af (An I I ?_)))))))))))))
   exact fun _ h=>⟨(),congrArg (fun z=>Ending.returned (Value.bool z)) (by simp[openB, *]),trivial,h⟩
theorem may_spec {m:La} (hm:m.Ok n) (hn:n<=60000) (b:Nat) (vR vQ:Value) (t:Int):Con prog 197 [.pointer (some ⟨b,0,none⟩),.int .i64 t] (fun _=>True) (LT b vR vQ m) (fun _:Unit=>.bool (He m t)) (fun _=>True) (fun _=>LT b vR vQ m):=by
 intro w hE hH
 obtain⟨hlr,hlq⟩:=hm.lens
 refine enter (n:=30) (vs:=[.pointer (some ⟨b,0,none⟩),.int .i64 t]) (St w (dom (LT b vR vQ m)) (LT b vR vQ (m))) func197 I I I (St.init hH) ?_
 refine Cs I (Ak I (Cs I (Lm I (Lq I (Qg I) (Lm I ?_)))))
 refine CB 7 I (fun h1=>?_) (fun h1=>?_)
 · refine Lm I (Lc I (Lfa DT I Z3 I (Lo G3 0 I (Lm I (Lq I (Qn I) (Lq I (Qy I) (Lm I ?_)))))))
   refine CB 15 I (fun h2=>?_) (fun h2=>?_)
   · refine Lm I (Lc I (Lfa DT I Z22 I (Lo G22 0 I (Lm I (l_e I (E1 (contains_spec m.rd t (by omega)) I call105 (Hrd 1 I) (fun _ _=>Lq I (Qt I) (Lq I (Qy I) (Lm I ?_)))))))))
     refine CB 24 I (fun h3=>?_) (fun h3=>?_)
     · refine Lm I (Lm I (l_e I (BL (waits_spec (m:=m) (by omega) b vR vQ t) I I I call250 I Tt ?_)))
       intro z hz
       have hzi:=hz.iff
       refine Lq I (Ql I) (Lq I (Qy I) (Ak I (Af (An I I ?_))))
       exact fun _ h=>⟨(),congrArg (fun z=>Ending.returned (Value.bool z)) (by first|(simp_all [He]; done)|(simp_all [He]; intros; omega)),trivial,h⟩
     · refine Lx I (Lx I (Lx I (Lx I (Lq I (Qz I) (Ak I (Af (An I I ?_)))))))
       exact fun _ h=>⟨(),congrArg (fun z=>Ending.returned (Value.bool z)) (by first|(simp_all [He]; done)|(simp_all [He]; intros; omega)),trivial,h⟩
   · refine Lx I (Lx I (Lx I (Lx I (Lx I (Lx I (Lx I (Lq I (Qz I) (Lm I (Lx I (Lx I (Lx I (Lx I (Lq I (Qz I) (Ak I (Af (An I I ?_))))))))))))))))
     exact fun _ h=>⟨(),congrArg (fun z=>Ending.returned (Value.bool z)) (by first|(simp_all [He]; done)|(simp_all [He]; intros; omega)),trivial,h⟩
 · refine Lx I (Lx I (Lx I (Lx I (Lx I (Lx I (Lq I (Qz I) (Lm I (Lx I (Lx I (Lx I (Lx I (Lx I (Lx I (Lx I (Lq I (Qz I) (Lm I (Lx I (Lx I (Lx I (Lx I (Lq I (Qz I) (Ak I (Af ?_)))))))))))))))))))))))
   refine An I I ?_
   exact fun _ h=>⟨(),congrArg (fun z=>Ending.returned (Value.bool z)) (by first|(simp_all [He]; done)|(simp_all [He]; intros; omega)),trivial,h⟩
theorem writer_spec {m:La} (hm:m.Ok n) (hn:n<=60000) (b:Nat) (vR vQ:Value):Con prog 247 [.pointer (some ⟨b,0,none⟩)] (fun _=>True) (LT b vR vQ m) (fun _:Unit=>.int .i64 m.wr) (fun _=>True) (fun _=>LT b vR vQ m):=by
 intro w hE hH
 refine enter (n:=7) (vs:=[.pointer (some ⟨b,0,none⟩)]) (St w (dom (LT b vR vQ m)) (LT b vR vQ (m))) func247 I I I (St.init hH) ?_
 refine Cs I (Ak I (Cs I (Lm I (Lc I (Lfa DT I Z3 I (Lo G3 0 I (Ak I (Af (An I I ?_)))))))))
 exact fun _ h=>⟨(),rfl,trivial,h⟩
theorem readers_spec {m:La} (hm:m.Ok n) (hn:n<=60000) (b:Nat) (vR vQ:Value):Con prog 248 [.pointer (some ⟨b,0,none⟩)] (fun _=>True) (LT b vR vQ m) (fun v:Value=>v) (fun _=>True) (fun v=>Az v 3 (AG .i64) m.rd::LT b vR vQ m):=by
 intro w hE hH
 obtain⟨hlr,hlq⟩:=hm.lens
 refine enter (n:=8) (vs:=[.pointer (some ⟨b,0,none⟩)]) (St w (dom (LT b vR vQ m)) (LT b vR vQ (m))) func248 I I I (St.init hH) ?_
 refine Cs I (Ak I (Cs I (Lm I (Lc I (Lfa DT I Z22 I (Lo G22 0 I (l_e I (AX (PV m.rd (by omega)) I I I call107 I (Hrd 1 I) (fun v _=>Ak I (Af (An I I ?_)))))))))))
 exact fun _ h=>⟨v,rfl,trivial,h⟩
theorem queue_spec {m:La} (hm:m.Ok n) (hn:n<=60000) (b:Nat) (vR vQ:Value):Con prog 130 [.pointer (some ⟨b,0,none⟩)] (fun _=>True) (LT b vR vQ m) (fun v:Value=>v) (fun _=>True) (fun v=>Az v 241 encW m.q::LT b vR vQ m):=by
 intro w hE hH
 obtain⟨hlr,hlq⟩:=hm.lens
 refine enter (n:=8) (vs:=[.pointer (some ⟨b,0,none⟩)]) (St w (dom (LT b vR vQ m)) (LT b vR vQ (m))) func130 I I I (St.init hH) ?_
 refine Cs I (Ak I (Cs I (Lm I (Lc I (Lfa DT I GA I (Lo KP 0 I (l_e I (AX (Ow m.q (by omega)) I I I call189 I (Hrd 2 I) (fun v _=>Ak I (Af (An I I ?_)))))))))))
 exact fun _ h=>⟨v,rfl,trivial,h⟩
theorem idle_spec {m:La} (hm:m.Ok n) (hn:n<=60000) (b:Nat) (vR vQ:Value):Con prog 98 [.pointer (some ⟨b,0,none⟩)] (fun _=>True) (LT b vR vQ m) (fun _:Unit=>.bool (idleB m)) (fun _=>True) (fun _=>LT b vR vQ m):=by
 intro w hE hH
 refine enter (n:=20) (vs:=[.pointer (some ⟨b,0,none⟩)]) (St w (dom (LT b vR vQ m)) (LT b vR vQ (m))) func98 I I I (St.init hH) ?_
 refine Cs I (Ak I (Cs I (Lm I (l_e I (BL (Iu hm hn b vR vQ true) I I I call156 I Tt (fun _ _=>Lm I ?_))))))
 refine CB 5 I (fun h1=>?_) (fun h1=>?_)
 · refine Lm I (Lc I (Lfa DT I GA I (Lo KP 0 I (Lq I (AL I D5 I (Hrd 2 I)) (Lq I (Qe I) (Lq I (Qy I) (Lm I ?_)))))))
   refine CB 13 I (fun h2=>?_) (fun h2=>?_)
   · refine Lm I (Lc I (Lfa DT I sizeOf273 I (Lo isAgg273 0 I (Lq I (Qe I) (Lq I (Qy I) (Ak I (Af (An I I ?_))))))))
     exact fun _ h=>⟨(),congrArg (fun z=>Ending.returned (Value.bool z)) (by simp_all [idleB]),trivial,h⟩
   · refine Lx I (Lx I (Lx I (Lx I (Lx I (Lq I (Qz I) (Ak I (Af (An I I ?_))))))))
     exact fun _ h=>⟨(),congrArg (fun z=>Ending.returned (Value.bool z)) (by simp_all [idleB]),trivial,h⟩
 · refine Lx I (Lx I (Lx I (Lx I (Lx I (Lx I (Lq I (Qz I) (Lm I (Lx I (Lx I (Lx I (Lx I (Lx I (Lq I (Qz I) (Ak I (Af (An I I ?_))))))))))))))))
   exact fun _ h=>⟨(),congrArg (fun z=>Ending.returned (Value.bool z)) (by simp_all [idleB]),trivial,h⟩
theorem new_spec:Con prog 102 [] (fun _=>True) [] (fun b:Nat=>.pointer (some ⟨b,0,none⟩)) (fun _=>True) (fun b=>LT b (.slice none 0 0) (.slice none 0 0) newL):=by
 intro w hE hH
 refine E0 func102 I hH ?_
 refine Cs I (Ak I (Cs I (Lq I (AN [.int .i64 0,.slice none 0 0,.int .i64 (-1),.slice none 0 0] I I (fun w=>by kernel_rfl)) (l_e I (AQ I I I I (fun b=>Ak I (Af (row0 3 (AG .i64) none (row0 241 encW none (Pm [2,1] I (An I I ?_)))))))))))
 exact fun _ h=>⟨b,rfl,trivial,h⟩
theorem Jo {w:World} {t:TypeId} {E:Enc α} {l:List α} (h:(Az v t E l).at w):v.oneCell'=true:=by
 obtain⟨a,c,rfl⟩:=B0 h; rfl
theorem Vk {w:World} {t:TypeId} {E:Enc α} {l:List α} (h:(Az v t E l).at w) (s i j:Nat):(vsl v s i j).oneCell'=true:=by
 obtain⟨a,c,rfl⟩:=B0 h; rfl
theorem give_spec {m:La} (hs:m.rd.Pairwise (·<·)) (hl:m.rd.length<=60000) (b:Nat) (vR vQ:Value) (t:Int) (wr:Bool):Con prog 257 [.pointer (some ⟨b,0,none⟩),.int .i64 t,.bool wr] (fun _=>True) (LT b vR vQ m) (fun _:Value=>.tuple #[]) (fun _=>True) (fun v=>LT b v vQ (giveL m t wr)):=by
 intro w hE hH
 refine enter (n:=33) (vs:=[.pointer (some ⟨b,0,none⟩),.int .i64 t,.bool wr]) (St w (dom (LT b vR vQ m)) (LT b vR vQ (m))) func257 I I I (St.init hH) ?_
 refine Ag (Cs I (Lm I (Nk ?_)))
 refine Pre.caseB 8 I (fun h1=>?_) (fun h1=>?_)
 · subst h1
   refine Ai I (Cs I (Lm I (Lm I (Lc I (Lfa DT I Z3 I (l_e I (AF I I Z3 I I I (iy I) (Nk (Af (Aa (Bv I ?_)))))))))))
   exact fun _ h=>⟨vR,rfl,trivial,h⟩
 · subst h1
   refine Ab I (Ae (Kt (Cs I (Lm I (Lc I (Lfa DT I Z22 I (Lo G22 0 I (Lm I (l_e I (E1 (MF m.rd t hs (by omega)) I call286 (Hrd 1 I) (fun z hz=>Lm I (Lq I (Qx I) (Lq I (Qx I) (Las I (Ak I (Cr I (Lm I (Lm I (Lc I (Lfa DT I Z22 I (Lo G22 0 I (Lm I (Lm I (l_e I (Ax (sz:=1) [.tmp 28] I I I I I U22 Z3 I zeroValue3 I (fun bt=>AV (l_e I (R6 (Ox m.rd z.1 t bt hz.1 (by omega)) I I I call287 I Tt (fun v2 _=>Bo (l':=ins t m.rd) (ao hz.1 hz.2.1 hz.2.2).symm (Lc I (Lfa DT I Z22 I (Pre.fact (fun _ h=>Jo (h.at 0 I)) (fun hone=>AM (l_e I (AF I I Z22 I I hone (iy I) (AB (Bl (Bv I ?_))))))))))))))))))))))))))))))))))))))
   exact fun _ h=>⟨v2,rfl,trivial,h⟩
theorem Vl {m:La} (hm:m.Ok n) (hn:n<=60000) (b:Nat) (vR vQ:Value):Con prog 252 [.pointer (some ⟨b,0,none⟩)] (fun _=>True) (LT b vR vQ m) (fun v:Value×Value×Value=>v.1) (fun _=>True) (fun v=>Az v.1 3 (AG .i64) (GD m).1::LT b v.2.1 v.2.2 (GD m).2):=by
 intro w hE hH
 refine enter (n:=48) (vs:=[.pointer (some ⟨b,0,none⟩)]) (St w (dom (LT b vR vQ m)) (LT b vR vQ (m))) func252 I I I (St.init hH) ?_
 refine Cs I (Ak I (Cs I (Ak I (Ag (Al (row0 3 (AG .i64) none ?_))))))
 refine L7 (fun (m2:La) (acc:List Int) (v:Value) (vR2:Value) (vQ2:Value)=>[(0,.pointer (some ⟨b,0,none⟩)),(3,v)]) (fun (m2:La) (acc:List Int) (v:Value) (vR2:Value) (vQ2:Value)=>St w (dom (LT b vR vQ m)) (Az v 3 (AG .i64) acc::LT b vR2 vQ2 m2)) (fun (m2:La) (acc:List Int) (v:Value) (vR2:Value) (vQ2:Value)=>m2.Ok n/\GD m=(acc++(GD m2).1,(GD m2).2)/\acc.length+m2.q.length<=n) (fun (m2:La) (acc:List Int) (v:Value) (vR2:Value) (vQ2:Value)=>m2.q.length) (m) ([]) (.slice none 0 0) (vR) (vQ) ⟨hm,rfl,by have:=hm.lens; simp; omega⟩ (Si I) Ih (fun m2 acc v vR2 vQ2 hp=>Ag (Ag ?_))
 obtain⟨hm2,hlet,hlen⟩:=hp
 obtain⟨hlr,hlq⟩:=hm2.lens
 refine Cr I (Lm I (Lc I (Lfa DT I GA I (Lo KP 1 I (Lq I (AL I D5 I (Hrd 3 I)) (Lq I (BS I I I) (Lm I ?_)))))))
 refine CB 11 I (fun h1=>?_) (fun h1=>?_)
 · obtain⟨y,q,hq⟩:∃y q,m2.q=y::q:=by
    cases hq:m2.q with
    |nil=>rw[hq] at h1; simp at h1
    |cons y q=>exact⟨y,q,rfl⟩
   have hy:m2.q[0]?=some y:=by rw[hq]; rfl
   refine Lm I (Lm I (Lc I (Lfa DT I GA I (Lo KP 1 I (Lq I (As 0 I D5 Gz I (Hrd 3 I) I I (by omega)) (Lfa Sa I Z4 I (Lq I (AI 0 1 I G4 I I (Hrd 3 I) hy I) (Pm [1,1,1] I (l_e I (BL (Iu hm2 hn b vR2 vQ2 y.2) I I I call156 I Tt (fun _ _=>Lq I (Qy I) (Nk ?_))))))))))))
   refine Pre.caseB 21 I (fun h2=>?_) (fun h2=>?_)
   · have hgo:=au hq h2
     have hok:=dg hm2 hq h2
     refine Ai I (Ae (Kt (Al (Cs I (Lm I (Lc I (Lfa DT I GA I (Lo KP 0 I (Lq I (As 0 I D5 Gz I (Hrd 2 I) I I (by omega)) (Lq I (AU 0 I isAgg241 Gz I I (Hrd 2 I) hy) (l_e I (Au I I I zeroValue241 (fun bw=>l_e I (SA Gz I (encW.one y) (Ce [.int .i64 y.1,.bool y.2] I (Nk (Cs I (Lm I (Lm I (Lc I (Lfa DT I GA I (Lo KP 1 I (Lq I (D1 1 I D5 Gz I (Hrd 3 I) I I (by omega)) (Lc I (Lfa DT I GA I ?_)))))))))))))))))))))))))
     have hdrop:m2.q.drop 1=q:=by rw[hq]; rfl
     refine Pre.fact (fun _ h=>Vk (h.at 3 I) encW.sz 1 m2.q.length) (fun hone=>AM (l_e I (AF I I GA I I hone (iy I) (Nk (Cs I (Lm I (Lfa Sa I Z3 I (Lo G3 1 I (Lfa Sa I Z4 I (Lo G4 1 I (DS (Uf 1 (by omega) ?_))))))))))))
     rw[hdrop]
     refine Pm [1,2] I (l_e I (BL (give_spec (m:={m2 with q:=q}) hm2.srt (show m2.rd.length<=60000 by omega) b vR2 _ y.1 y.2) I I I call257 I Tt (fun vR3 _=>Nk (Cr I (Lm I (Lfa Sa I Z3 I (Lo G3 3 I (l_e I (Ax (sz:=1) [.tmp 44] I I I I I U22 Z3 I zeroValue3 I (fun b1=>Ex (l_e I (Ap U22 U22 Ez I (fun _ h=>AW (h.at 1 I) (AG .i64) [y.1] I I) (by simp only[fL,fv,jn]; omega) (fun v3=>Las I (AB (Aw (AM (Av (CY (Av ?_)))))))))))))))))))
     exact AD ((giveL {m2 with q:=q} y.1 y.2,acc++[y.1],v3,vR3,vsl vQ2 encW.sz 1 m2.q.length)) (by dsimp only; rw[Vh,hq]; simp) ⟨hok,by rw[hlet,hgo]; simp,by rw[Vh]; rw[hq] at hlen; simp at hlen ⊢; omega⟩ (Si I) (fun _ h=>h)
   · have hst:=Ov (m:=m2) (.inr ⟨y,q,hq,h2⟩)
     refine Ab I (AO (Ac (Ac (Ar (Kt (Cs I (Lm I (Ak I (Af (Pm [3] I (An I I ?_)))))))))))
     exact fun _ h=>⟨(v,vR2,vQ2),rfl,trivial,by rw[hlet,hst,jc]; exact h⟩
 · have hst:=Ov (m:=m2) (.inl (fS (by omega)))
   refine Lx I (Lx I (Lx I (Lx I (Lx I (Lx I (Lx I (Lx I (Lx I (Lq I (Qz I) (Nk (Ab I (AO (Ac (Ac (Ar (Kt (Cs I (Lm I (Ak I (Af (An I I ?_)))))))))))))))))))))
   exact fun _ h=>⟨(v,vR2,vQ2),rfl,trivial,by rw[hlet,hst,jc]; exact h⟩
theorem Vm {m:La} (hm:m.Ok n) (hn:n<=60000) (b:Nat) (vR vQ:Value) (t:Int) (wr:Bool):Con prog 198 [.pointer (some ⟨b,0,none⟩),.int .i64 t,.bool wr] (fun _=>True) (LT b vR vQ m) (fun _:Value=>.bool (tryB m t wr)) (fun _=>True) (fun v=>LT b v vQ (ME m t wr)):=by
 intro w hE hH
 obtain⟨hlr,hlq⟩:=hm.lens
 refine enter (n:=29) (vs:=[.pointer (some ⟨b,0,none⟩),.int .i64 t,.bool wr]) (St w (dom (LT b vR vQ m)) (LT b vR vQ (m))) func198 I I I (St.init hH) ?_
 refine Cs I (Ak I (Ag (Cs I (Lm I (Lm I (l_e I (BL (may_spec hm hn b vR vQ t) I I I call197 I Tt (fun _ _=>Lq I (Qt I) (Lm I ?_)))))))))
 refine CB 11 I (fun h1=>?_) (fun h1=>?_)
 · refine Lx I (Lx I (Lx I (Lx I (Lx I (Lx I (Lq I (Qy I) (Lm I (Lx I (Lx I (Lx I (Lx I (Lq I (Qy I) (Nk (Ai I (Cs I (Ak I (Af (Aa ?_))))))))))))))))))
   have e:tryB m t wr=false:=by first|(simp_all [tryB]; done)|(unfold tryB; rw[show decide (m.q.length=0)=false from jo (by omega)]; simp)
   refine An I I ?_
   exact fun _ h=>⟨vR,congrArg (fun z=>Ending.returned (Value.bool z)) e.symm,trivial,by unfold ME; rw[e]; exact h⟩
 · refine Lm I (Lc I (Lfa DT I GA I (Lo KP 0 I (Lq I (AL I D5 I (Hrd 2 I)) (Lq I (BS I I I) (Lq I (Qz I) (Lm I ?_)))))))
   refine CB 19 I (fun h2=>?_) (fun h2=>?_)
   · refine Lx I (Lx I (Lx I (Lx I (Lq I (Qy I) (Nk (Ai I (Cs I (Ak I (Af (Aa ?_))))))))))
     have e:tryB m t wr=false:=by first|(simp_all [tryB]; done)|(unfold tryB; rw[show decide (m.q.length=0)=false from jo (by omega)]; simp)
     refine An I I ?_
     exact fun _ h=>⟨vR,congrArg (fun z=>Ending.returned (Value.bool z)) e.symm,trivial,by unfold ME; rw[e]; exact h⟩
   · refine Lm I (Lm I (l_e I (BL (Iu hm hn b vR vQ wr) I I I call156 I Tt (fun _ _=>Lq I (Qt I) (Lq I (Qz I) (Nk ?_))))))
     refine CB 24 I (fun h3=>?_) (fun h3=>?_)
     · refine Ai I (Cs I (Ak I (Af (Aa ?_))))
       have e:tryB m t wr=false:=by first|(simp_all [tryB]; done)|(unfold tryB; rw[show decide (m.q.length=0)=false from jo (by omega)]; simp)
       refine An I I ?_
       exact fun _ h=>⟨vR,congrArg (fun z=>Ending.returned (Value.bool z)) e.symm,trivial,by unfold ME; rw[e]; exact h⟩
     · refine Ab I (Ae (Kt (Cs I (Lm I (Lm I (Lm I ?_))))))
       have e:tryB m t wr=true:=by first|(simp_all [tryB]; done)|(unfold tryB; rw[show decide (m.q.length=0)=true from jq (by omega)]; simp_all)
       refine l_e I (BL (give_spec hm.srt (by omega) b vR vQ t wr) I I I call257 I Tt (fun v2 _=>Nk (Cs I (Ak I (Af (An I I ?_))))))
       exact fun _ h=>⟨v2,congrArg (fun z=>Ending.returned (Value.bool z)) e.symm,trivial,by unfold ME; rw[e]; exact h⟩
theorem take_spec {m:La} (hm:m.Ok n) (hn:n<=60000) (b:Nat) (vR vQ:Value) (t:Int) (wr:Bool):Con prog 135 [.pointer (some ⟨b,0,none⟩),.int .i64 t,.bool wr] (fun _=>True) (LT b vR vQ m) (fun _:Value×Value=>.bool (tryB m t wr)) (fun _=>True) (fun v=>LT b v.1 v.2 (takeL m t wr)):=by
 intro w hE hH
 obtain⟨hlr,hlq⟩:=hm.lens
 refine enter (n:=31) (vs:=[.pointer (some ⟨b,0,none⟩),.int .i64 t,.bool wr]) (St w (dom (LT b vR vQ m)) (LT b vR vQ (m))) func135 I I I (St.init hH) ?_
 refine Cs I (Ak I (Ag (Cs I (Lm I (Lm I (l_e I (BL (may_spec hm hn b vR vQ t) I I I call197 I Tt (fun _ _=>Lq I (Qt I) (Nk ?_)))))))))
 refine CB 11 I (fun h1=>?_) (fun h1=>?_)
 · have hb:tryB m t wr=false:=by unfold tryB; rw[h1]; rfl
   have ht:takeL m t wr=m:=by unfold takeL; rw[h1]; rfl
   refine Ai I (Cs I (Ak I (Af (Aa (An I I ?_)))))
   exact fun _ h=>⟨(vR,vQ),congrArg (fun z=>Ending.returned (Value.bool z)) (hb.symm),trivial,by rw[ht]; exact h⟩
 · refine Ab I (Ae (Kt (Cs I (Lm I (Lm I (Lm I (l_e I (BL (Vm hm hn b vR vQ t wr) I I I call198 I Tt (fun v2 _=>Ak I (Ag (Cs I (Lm I (Lq I (Qt I) (Nk ?_))))))))))))))
   refine CB 17 I (fun h2=>?_) (fun h2=>?_)
   · have ht:takeL m t wr=Hf m t wr:=by unfold takeL; rw[h1,h2]; rfl
     have hl:ME m t wr=m:=by unfold ME; rw[h2]; rfl
     rw[hl]
     refine Ai I (Cr I (Lm I (Lm I (Lc I (Lfa DT I GA I (Lo KP 0 I (Lm I (Lm I (Lq I (AN ([.int .i64 t,.bool wr]) I I (fun w=>by kernel_rfl)) (l_e I (Ax (sz:=2) [.tmp 25] I I I I I D5 Gz I zeroValue241 I (fun b1=>DS (l_e I (Ap D5 D5 Mg I (fun _ h=>AW (h.at 1 I) encW [(t,wr)] I I) (by simp only[fL,fv,jn]; omega) (fun v3=>Lc I (Lfa DT I GA I (Pre.fact (fun _ h=>Jo (h.at 0 I)) (fun hone=>AV (l_e I (AF I I GA I I hone (iy I) (Nk (Cs I (Lm I (Ak I (Af (AV (Av (Pm [0,1] I (An I I ?_)))))))))))))))))))))))))))))
     exact fun _ h=>⟨(v2,v3),congrArg (fun z=>Ending.returned (Value.bool z)) (I),trivial,by rw[ht]; exact h⟩
   · have ht:takeL m t wr=ME m t wr:=by unfold takeL ME; rw[h1,h2]; rfl
     refine Ab I (Ae (Kt (Cs I (Lm I (Ak I (Af (An I I ?_)))))))
     exact fun _ h=>⟨(v2,vQ),congrArg (fun z=>Ending.returned (Value.bool z)) (I),trivial,by rw[ht]; exact h⟩
theorem drop_spec {m:La} (hm:m.Ok n) (hn:n<=60000) (b:Nat) (vR vQ:Value) (t:Int):Con prog 176 [.pointer (some ⟨b,0,none⟩),.int .i64 t] (fun _=>True) (LT b vR vQ m) (fun v:Value×Value×Value=>v.1) (fun _=>True) (fun v=>Az v.1 3 (AG .i64) (dropL m t).1::LT b v.2.1 v.2.2 (dropL m t).2):=by
 intro w hE hH
 obtain⟨hlr,hlq⟩:=hm.lens
 refine enter (n:=55) (vs:=[.pointer (some ⟨b,0,none⟩),.int .i64 t]) (St w (dom (LT b vR vQ m)) (LT b vR vQ (m))) func176 I I I (St.init hH) ?_
 refine Cs I (Ak I (Ag (Cs I (Lm I (Lq I (Ql I) (Nk ?_))))))
 refine CB 8 I (fun h0=>?_) (fun h0=>?_)
 · have hd:dropL m t=([],m):=by unfold dropL; rw[fO h0]
   refine Ai I (Cs I (Ak I (Af (Aa (row0 3 (AG .i64) none (An I I ?_))))))
   exact fun _ h=>⟨(.slice none 0 0,vR,vQ),rfl,trivial,by rw[hd]; exact h⟩
 · have hd:dropL m t=GD (CK m t):=by unfold dropL; rw[fR h0]
   refine Ab I (Ae (Ks (Cs I (Lm I (Lc I (Lfa DT I Z3 I (Lo G3 0 I (Lm I (Lq I (Qe I) (Nk ?_))))))))))
   refine DC (fun (vR2:Value) (vQ2:Value)=>[(0,.pointer (some ⟨b,0,none⟩)),(1,.int .i64 t)]) (fun (vR2:Value) (vQ2:Value)=>St w (dom (LT b vR vQ m)) (LT b vR2 vQ2 ({m with wr:=if m.wr=t then -1 else m.wr}))) (fun (vR2:Value) (vQ2:Value)=>True) ?_ ?_
   · refine CB 14 I (fun h1=>?_) (fun h1=>?_)
     · refine Ai I (Cr I (Lm I (Lc I (Lfa DT I Z3 I (l_e I (AF I I Z3 I I I (iy I) (AB ?_)))))))
       exact Bb ((vR,vQ)) trivial (Si I) (fun _ h=>by rw[fO h1]; exact h)
     · refine Ab I (Ae ?_)
       exact Bb ((vR,vQ)) trivial (Si I) (fun _ h=>by rw[fR h1]; exact h)
   · intro vR2 vQ2 _
     refine Ag (Cs I (Lm I (Lc I (Lfa DT I Z22 I (Lo G22 0 I (Lm I (l_e I (E1 (index_spec m.rd t (by omega)) I call157 (Hrd 1 I) (fun z hz=>Ak I (Cs I (Lm I (Lq I (Qg I) (Nk ?_)))))))))))))
     refine DC (fun (vR3:Value) (vQ3:Value)=>[(0,.pointer (some ⟨b,0,none⟩)),(1,.int .i64 t)]) (fun (vR3:Value) (vQ3:Value)=>St w (dom (LT b vR vQ m)) (LT b vR3 vQ3 ({m with wr:=if m.wr=t then -1 else m.wr,rd:=m.rd.filter (fun x=>decide (x≠t))}))) (fun (vR3:Value) (vQ3:Value)=>True) ?_ ?_
     · refine CB 25 I (fun h2=>?_) (fun h2=>?_)
       · obtain⟨k,rfl,hk⟩:∃k:Nat,z=(k:Int)/\m.rd[k]?=some t:=by
          rcases hz with⟨rfl,_⟩|hz
          · omega
          · exact hz
         have hkl:=(gl.1 hk).1
         refine Ai I (Cr I (Lm I (Lm I (Lc I (Lfa DT I Z22 I (Lo G22 0 I (Lm I (Lm I (Lq I (Bf I I I (by omega)) (AM (l_e I (Bg (Oy m.rd k hkl (by omega)) I I I call249 I Tt (fun v3 _=>Bo (l':=m.rd.filter (fun x=>decide (x≠t))) (It (f:=fun x=>x) (by simpa using hm.rn) hk I).symm (Lc I (Lfa DT I Z22 I (Pre.fact (fun _ h=>Jo (h.at 0 I)) (fun hone=>AM (l_e I (AF I I Z22 I I hone (iy I) (AB ?_))))))))))))))))))))
         exact Bb ((v3,vQ2)) trivial (Si I) (fun _ h=>h)
       · have hno:m.rd.filter (fun x=>decide (x≠t))=m.rd:=LD (f:=fun x=>x) (by
          rcases hz with⟨_,hz⟩|⟨k,rfl,_⟩
          · simpa using hz
          · omega)
         refine Ab I (Ae ?_)
         exact Bb ((vR2,vQ2)) trivial (Si I) (fun _ h=>by rw[hno]; exact h)
     · intro vR3 vQ3 _
       refine Ag (Cs I (Lm I (Lm I (l_e I (BL (waits_spec (m:={m with wr:=if m.wr=t then -1 else m.wr,rd:=m.rd.filter (fun x=>decide (x≠t))}) (show m.q.length<=60000 by omega) b vR3 vQ3 t) I I I call250 I Tt (fun z hz=>Ak I (Cs I (Lm I (Lq I (Qg I) (Nk ?_))))))))))
       refine DC (fun (vR4:Value) (vQ4:Value)=>[(0,.pointer (some ⟨b,0,none⟩)),(1,.int .i64 t)]) (fun (vR4:Value) (vQ4:Value)=>St w (dom (LT b vR vQ m)) (LT b vR4 vQ4 (CK m t))) (fun (vR4:Value) (vQ4:Value)=>True) ?_ ?_
       · refine CB 41 I (fun h3=>?_) (fun h3=>?_)
         · obtain⟨k,y,rfl,hk,hy⟩:∃(k:Nat) (y:Wt),z=(k:Int)/\m.q[k]?=some y/\y.1=t:=by
            rcases hz with⟨rfl,_⟩|hz
            · omega
            · exact hz
           have hkl:=(gl.1 hk).1
           refine Ai I (Cr I (Lm I (Lm I (Lc I (Lfa DT I GA I (Lo KP 0 I (Lm I (Lm I (Lq I (Bf I I I (by omega)) (AV (l_e I (Bg (deletew_spec m.q k hkl (by omega)) I I I call251 I Tt (fun v3 _=>Bo (l':=(CK m t).q) (It hm.qn hk hy).symm (Lc I (Lfa DT I GA I (Pre.fact (fun _ h=>Jo (h.at 0 I)) (fun hone=>AM (l_e I (AF I I GA I I hone (iy I) (AB (Pm [0,1] I ?_)))))))))))))))))))))
           exact Bb ((vR3,v3)) trivial (Si I) (fun _ h=>h)
         · have hno:(CK m t).q=m.q:=LD (by
            rcases hz with⟨_,hz⟩|⟨k,_,rfl,_⟩
            · exact hz
            · omega)
           refine Ab I (Ae ?_)
           exact Bb ((vR3,vQ3)) trivial (Si I) (fun _ h=>by unfold LT; rw[hno]; exact h)
       · intro vR4 vQ4 _
         refine Cs I (Lm I (l_e I (K4 (Vl (leave_ok hm (by omega)) hn b vR4 vQ4) I I I call252 I Tt (fun v _=>Ak I (Af (An I I ?_))))))
         exact fun _ h=>⟨v,rfl,trivial,by rw[hd]; exact h⟩
end Go.Proofs.YtloldofjddbjoaaGreat.Lt
namespace Go.Proofs.YtloldofjddbjoaaGreat
open Go.Sep Go.RowKit Tryz
variable {B i C k n:Nat} {P:Program} {f:FuncId} {vs:List Value} {E E':World->Prop} {β γ α:Type} {w:World} {M:Mo} {b:Int} {S:CS} {G:List Ent}
theorem Con.pack {H H':List Ent} (F:List Ent) {β γ:Type} {v:β->Value} {p:β->Prop} {HB:β->List Ent} {v':γ->Value} {p':γ->Prop} {HB':γ->List Ent} (s:Con P f vs E H v p HB) (hp:H'.Perm (H++F)) (hE:∀w,E' w->HP H' w->E w) (g:β->γ)
 (hg:∀b,p b->v b=v' (g b)/\p' (g b)/\∃K,(HB b++F).Perm (HB' (g b)++K)):Con P f vs E' H' v' p' HB':=fun w he hh =>
 (s.frame (F:=F) ((St.init hh).perm hp) (hE w he hh)).mono (fun e w' ⟨b,h1,h2,h3⟩=>by
  obtain⟨h4,h5,K,h6⟩:=hg b h2
  exact⟨g b,by rw[h1,h4],h5,(h3.perm h6).cut⟩)
theorem Oz (l:List Ent):l.Perm (l++[]):=by rw[jc]
theorem Vn (A B S G:List Ent):(A++B++S++G).Perm (B++(S++(A++G))):=by
 simp only[gK]
 exact (kl A B (S++G)).trans ((kl A S G).append_left B)
structure Q where
 S:CS
 M:Mo
 G:List Ent
namespace Q
def H (bc:Nat) (q:Q):List Ent:=q.S.H bc++q.G
structure Ok (q:Q) (B:Nat):Prop where
 rel:Rel q.S q.M
 ok:q.M.Ok B
 nin:NIn q.G q.S.fl
end Q
theorem Q.Ok.mono {q:Q} (h:q.Ok B) (hBC:B<=C) (hC:C<=60000):q.Ok C:=⟨h.rel,h.ok.mono hBC hC,h.nin⟩
theorem di {bc:Nat} {H:List Ent} (h:HP H w) (hs:∀e∈S.H bc,e∈H):CR w bc S:=CR.ofm (St.init h) hs
theorem dj {H:List Ent} (hN:NIn G S.fl) (h:HP H w) (hs:∀e∈G,e∈H):NR w S:=fun f hf=>(hN f hf).rd h hs
theorem NIn.more {G':List Ent} {fl:List FC} (h:NIn G fl) (hs:∀e∈G,e∈G'):NIn G' fl:=fun f hf=>(h f hf).more hs
structure LC where
 b:Nat
 vR:Value
 vQ:Value
 m:Lt.La
abbrev LC.H (l:LC):List Ent:=Lt.LT l.b l.vR l.vQ l.m
def LTs (l:List LC):List Ent:=l.flatMap LC.H
theorem HR (a:LC) (l:List LC):LTs (a::l)=a.H++LTs l:=rfl
theorem Vo:∀{l:List LC} {i:Nat} {a:LC},l[i]?=some a->(LTs l).Perm (a.H++LTs (l.eraseIdx i))
 |[],i,a,h=>by simp at h
 |x::l,0,a,h=>by simp at h; subst h; exact jr _
 |x::l,i+1,a,h=>by
  have ih:=Vo (l:=l) (i:=i) (a:=a) (by simpa using h)
  rw[jC,HR,HR]
  exact (ih.append_left x.H).trans (kl _ _ _)
theorem Zg:∀{l:List LC} {i:Nat} (a:LC),i<l.length->(a.H++LTs (l.eraseIdx i)).Perm (LTs (l.set i a))
 |[],i,a,h=>by simp at h
 |x::l,0,a,h=>jr _
 |x::l,i+1,a,h=>by
  have ih:=Zg (l:=l) (i:=i) a (by simpa using h)
  rw[jC,iY,HR,HR]
  exact (kl _ _ _).trans (ih.append_left x.H)
def I3:Enc Nat:=⟨1,fun b=>[.pointer (some ⟨b,0,none⟩)],fun _=>rfl,fun a u h=>by simp at h; subst h; rfl,by decide⟩
structure HQ where
 bh:Nat
 bc:Nat
 bs:Nat
 bR:Nat
 vL:Value
 vB:Value
 vU:Value
 rd:List (Int×Int)
 s:Sto
 lt:List LC
 q:Q
abbrev ptV (b:Nat):Value:=.pointer (some ⟨b,0,none⟩)
abbrev HQ.cells (x:HQ):List Value:=[ptV x.bc,ptV x.bs,x.vL,.map (some x.bR)]
abbrev HQ.H (x:HQ):List Ent:=Ad x.bh 91 x.cells::Az x.vL 203 I3 (x.lt.map LC.b)::BH x.bR kI kI x.rd::Ad x.bs 161 [x.vB,x.vU]::Az x.vB 279 Bk.enc x.s.bl::Az x.vU 4 Fb x.s.us::(LTs x.lt++x.q.H x.bc)
abbrev HQ.rest (x:HQ):List Ent:=Ad x.bh 91 x.cells::Az x.vL 203 I3 (x.lt.map LC.b)::BH x.bR kI kI x.rd::Ad x.bs 161 [x.vB,x.vU]::Az x.vB 279 Bk.enc x.s.bl::Az x.vU 4 Fb x.s.us::LTs x.lt
structure HQ.Ok (x:HQ) (B:Nat):Prop where
 q:x.q.Ok B
 s:x.s.Ok
 l:∀l∈x.lt,l.m.Ok B
 ll:x.lt.length=x.q.M.fr.length
 rn:(x.rd.map Prod.fst).Nodup
theorem HQ.H_perm (x:HQ):x.H.Perm (x.q.H x.bc++x.rest):=(show x.H=x.rest++x.q.H x.bc from rfl)▸js
theorem HQ.H_perm' (x:HQ) (q:Q):(q.H x.bc++x.rest).Perm ({x with q:=q}:HQ).H:=js
theorem HQ.Ok.b9 {x:HQ} (h:x.Ok B):B<=60000:=h.q.ok.B9
theorem HQ.Ok.mono {x:HQ} (h:x.Ok B) (hBC:B<=C) (hC:C<=60000):x.Ok C:=⟨h.q.mono hBC hC,h.s,fun l hl=>(h.l l hl).mono hBC,h.ll,h.rn⟩
theorem OA {x:HQ} (h:HP x.H w):CR w x.bc x.q.S:=di h (fun e he=>by
 show e∈x.rest++(x.q.S.H x.bc++x.q.G)
 exact iU _ (gi _ he))
theorem Zh {x:HQ} (h:x.Ok B) (hh:HP x.H w):NR w x.q.S:=dj h.q.nin hh (fun e he=>by
 show e∈x.rest++(x.q.S.H x.bc++x.q.G)
 exact iU _ (iU _ he))
theorem HQ.lift {x:HQ} {v:β->Value} {p:β->Prop} {A:List Ent} {HB:β->List Ent} {v':γ->Value} {p':γ->Prop} {A':γ->List Ent} (s:Con P f vs E (A++x.q.S.H x.bc) v p HB) (hE:∀w,E' w->HP (A++x.H) w->E w) (g:β->γ) (qn:γ->Q)
 (hg:∀b,p b->v b=v' (g b)/\p' (g b)/\(HB b++x.q.G).Perm (A' (g b)++(qn (g b)).H x.bc)):Con P f vs E' (A++x.H) v' p' (fun c=>A' c++({x with q:=qn c}:HQ).H) :=
 Con.pack (x.q.G++x.rest) s (by
  have h1:(A++x.H).Perm (A++((x.q.S.H x.bc++x.q.G)++x.rest)):=(x.H_perm).append_left A
  simpa only[gK] using h1) hE g (fun b hb=>by
  obtain⟨h1,h2,h3⟩:=hg b hb
  refine⟨h1,h2,[],?_⟩
  rw[jc,<-gK]
  refine (h3.append_right x.rest).trans ?_
  rw[gK]
  exact (x.H_perm' (qn (g b))).append_left _)
theorem HQ.look {x:HQ} {v:β->Value} {p:β->Prop} {HB:β->List Ent} (s:Con P f vs E [] v p HB) (hE:∀w,HP x.H w->E w):Con P f vs (fun _=>True) x.H v p (fun c=>HB c++x.H) :=
 Con.pack x.H s (jr _) (fun w _ h=>hE w h) id (fun b hb=>⟨rfl,hb,[],Oz _⟩)
theorem E8 (M:Mo) (i:Nat) (y:Vw):(M.put i y).fr.length=M.fr.length:=je
theorem X4 (M:Mo) (t b:Int):(M.pin t b).2.fr.length=M.fr.length:=by
 unfold Mo.pin
 split
 · rfl
 · split
   · dsimp only; split
     · exact E8 ..
     · exact E8 ..
   · split
     · rfl
     · exact E8 ..
theorem S9 (M:Mo) (t:Int):(M.claim t).2.fr.length=M.fr.length:=by
 unfold Mo.claim
 split
 · rfl
 · split
   · rfl
   · exact E8 ..
theorem Vp (M:Mo) (b:Int) (nd:Nd):(M.fill b nd).2.fr.length=M.fr.length:=by
 unfold Mo.fill; split
 · exact E8 ..
 · rfl
theorem Vq (M:Mo) (t:Int):(M.give t).fr.length=M.fr.length:=gS ..
theorem Vr (M:Mo) (t b:Int) (nd:Nd):(M.name t b nd).2.fr.length=M.fr.length:=by
 unfold Mo.name; split
 · exact E8 ..
 · rfl
theorem Ta (M:Mo) (b:Int):(M.unpin b).2.fr.length=M.fr.length:=by
 unfold Mo.unpin; split
 · split
   · rfl
   · exact E8 ..
 · rfl
theorem X5 (M:Mo) (b:Int) (nd:Nd):(M.setN b nd).2.fr.length=M.fr.length:=by
 unfold Mo.setN; split
 · exact E8 ..
 · rfl
abbrev HQ.setq (x:HQ) (q:Q):HQ:={x with q:=q}
theorem HQ.Ok.setq {x:HQ} {q:Q} (h:x.Ok B) (hq:q.Ok C) (hBC:B<=C) (hl:q.M.fr.length=x.q.M.fr.length):(x.setq q).Ok C:=⟨hq,h.s,fun l hm=>(h.l l hm).mono hBC,by show x.lt.length=q.M.fr.length; rw[hl]; exact h.ll,h.rn⟩
theorem HQ.lift0 {x:HQ} {v:β->Value} {p:β->Prop} {HB:β->List Ent} {v':γ->Value} {p':γ->Prop} {A':γ->List Ent} (s:Con P f vs E (x.q.S.H x.bc) v p HB) (hE:∀w,E' w->HP x.H w->E w) (g:β->γ) (qn:γ->Q)
 (hg:∀b,p b->v b=v' (g b)/\p' (g b)/\(HB b++x.q.G).Perm (A' (g b)++(qn (g b)).H x.bc)):Con P f vs E' x.H v' p' (fun c=>A' c++(x.setq (qn c)).H) :=
 HQ.lift (A:=[]) s hE g qn hg
theorem X6 {x:HQ} (h:x.Ok B) (hB:B+1<=60000) (t b:Int) (hb64:i64 b):Con prog 174 [ptV x.bc,.int .i64 t,.int .i64 b] (fun _=>True) x.H (fun _:Q=>.int .i64 (x.q.M.pin t b).1) (fun q=>q.M=(x.q.M.pin t b).2/\(x.setq q).Ok (B+1)) (fun q=>(x.setq q).H) :=
 HQ.lift0 (A':=fun _=>[]) (UF h.q.rel h.q.ok hB t b hb64) (fun _ _ _=>trivial) (fun S'=>(⟨S',(x.q.M.pin t b).2,x.q.G⟩:Q)) id (fun S' hp=>⟨rfl,⟨rfl,h.setq ⟨hp.1,pin_ok h.q.ok t b hB,hp.2 _ h.q.nin⟩ (jT B) (X4 _ _ _)⟩,jr _⟩)
theorem az {x:HQ} (h:x.Ok B) (hB:B+1<=60000) (t:Int):Con prog 207 [ptV x.bc,.int .i64 t] (fun _=>True) x.H (fun _:Q=>.bool (x.q.M.claim t).1) (fun q=>q.M=(x.q.M.claim t).2/\(x.setq q).Ok (B+1)) (fun q=>(x.setq q).H) :=
 HQ.lift0 (A':=fun _=>[]) (PC h.q.rel h.q.ok t) (fun _ _ _=>trivial) (fun S'=>(⟨S',(x.q.M.claim t).2,x.q.G⟩:Q)) id (fun S' hp=>⟨rfl,⟨rfl,h.setq ⟨hp.1,claim_ok h.q.ok t hB,hp.2 _ h.q.nin⟩ (jT B) (S9 _ _)⟩,jr _⟩)
theorem aA {x:HQ} (h:x.Ok B) (b:Int):Con prog 177 [ptV x.bc,.int .i64 b] (fun _=>True) x.H (fun _:Q=>.bool (x.q.M.unpin b).1) (fun q=>q.M=(x.q.M.unpin b).2/\(x.setq q).Ok B) (fun q=>(x.setq q).H) :=
 HQ.lift0 (A':=fun _=>[]) (PA h.q.rel h.q.ok b) (fun _ _ _=>trivial) (fun S'=>(⟨S',(x.q.M.unpin b).2,x.q.G⟩:Q)) id (fun S' hp=>⟨rfl,⟨rfl,h.setq ⟨hp.1,unpin_ok h.q.ok b,hp.2 _ h.q.nin⟩ (ga B) (Ta _ _)⟩,jr _⟩)
theorem dk {x:HQ} (h:x.Ok B) (t:Int):Con prog 263 [ptV x.bc,.int .i64 t] (fun _=>True) x.H (fun _:Q=>.int .i64 (x.q.M.claims t:Int)) (fun q=>q.M=(x.q.M.give t)/\(x.setq q).Ok B) (fun q=>(x.setq q).H) :=
 HQ.lift0 (A':=fun _=>[]) (give_spec h.q.rel h.q.ok t) (fun _ _ _=>trivial) (fun S'=>(⟨S',(x.q.M.give t),x.q.G⟩:Q)) id (fun S' hp=>⟨rfl,⟨rfl,h.setq ⟨hp.1,give_ok h.q.ok t,hp.2 _ h.q.nin⟩ (ga B) (Vq _ _)⟩,jr _⟩)
theorem Iv {x:HQ} (h:x.Ok B) (nv:NV) (hn:nv.d.Sm 1000) (b:Int):Con prog 261 [ptV x.bc,.int .i64 b,.agg nv.c.toArray] (fun _=>True) (Bz nv++x.H) (fun _:Q=>.bool (x.q.M.setN b nv.d).1) (fun q=>q.M=(x.q.M.setN b nv.d).2/\(x.setq q).Ok B) (fun q=>Bz nv++(x.setq q).H) :=
 HQ.lift (A':=fun _=>Bz nv) (UB h.q.rel h.q.ok b nv (hn.mono (by decide))) (fun _ _ _=>trivial) (fun r=>(⟨r.1,(x.q.M.setN b nv.d).2,Bz r.2++x.q.G⟩:Q)) id (fun r hp=>⟨rfl,⟨rfl,h.setq ⟨hp.1,Z7 h.q.ok b nv.d hn,hp.2 _ (fun e he=>gi _ he) (h.q.nin.more (fun e he=>iU _ he))⟩ (ga B) (X5 _ _ _)⟩,Vn _ _ _ _⟩)
theorem OB {x:HQ} (h:x.Ok B) (nv:NV) (hn:nv.d.Sm 1000) (t b:Int):Con prog 268 [ptV x.bc,.int .i64 t,.int .i64 b,.agg nv.c.toArray] (fun _=>True) (Bz nv++x.H) (fun _:Q=>.bool (x.q.M.name t b nv.d).1) (fun q=>q.M=(x.q.M.name t b nv.d).2/\(x.setq q).Ok B) (fun q=>Bz nv++(x.setq q).H) :=
 HQ.lift (A':=fun _=>Bz nv) (SO h.q.rel h.q.ok t b nv (hn.mono (by decide))) (fun _ _ _=>trivial) (fun r=>(⟨r.1,(x.q.M.name t b nv.d).2,Bz r.2++x.q.G⟩:Q)) id (fun r hp=>⟨rfl,⟨rfl,h.setq ⟨hp.1,XW h.q.ok t b nv.d hn,hp.2 _ (fun e he=>gi _ he) (h.q.nin.more (fun e he=>iU _ he))⟩ (ga B) (Vr _ _ _ _)⟩,Vn _ _ _ _⟩)
theorem dm {x:HQ} (h:x.Ok B) (nv:NV) (hn:nv.d.Sm 1000) (b:Int):Con prog 133 [ptV x.bc,.int .i64 b,.agg nv.c.toArray] (fun _=>True) (Bz nv++x.H) (fun r:Q×Value=>.tuple #[r.2,.bool (x.q.M.fill b nv.d).1.2]) (fun r=>r.1.M=(x.q.M.fill b nv.d).2/\(x.setq r.1).Ok B) (fun r=>(Az r.2 3 (AG .i64) (x.q.M.fill b nv.d).1.1::Bz nv)++(x.setq r.1).H) :=
 HQ.lift (A':=fun r:Q×Value=>Az r.2 3 (AG .i64) (x.q.M.fill b nv.d).1.1::Bz nv) (SJ h.q.rel h.q.ok b nv (hn.mono (by decide))) (fun _ _ _=>trivial) (fun r=>((⟨r.1,(x.q.M.fill b nv.d).2,Bz r.2.1++x.q.G⟩:Q),r.2.2)) Prod.fst (fun r hp=>⟨rfl,⟨rfl,h.setq ⟨hp.1,fill_ok h.q.ok b nv.d hn,hp.2 _ (fun e he=>gi _ he) (h.q.nin.more (fun e he=>iU _ he))⟩ (ga B) (Vp _ _ _)⟩,(Vn _ _ _ _).cons _⟩)
theorem dp {x:HQ} (h:x.Ok B) (t:Int):Con prog 132 [ptV x.bc,.int .i64 t] (fun _=>True) x.H (fun _:Unit=>.bool (x.q.M.may t)) (fun _=>True) (fun _:Unit=>[]++x.H) :=
 HQ.look (Px h.q.rel h.q.ok t) (fun w hh=>OA hh)
theorem Zi {x:HQ} (h:x.Ok B):Con prog 99 [ptV x.bc] (fun _=>True) x.H (fun v:Value=>v) (fun _=>True) (fun v:Value=>[Az v 3 (AG .i64) (x.q.M.line.map Prod.fst)]++x.H) :=
 HQ.look (SC h.q.rel h.q.ok) (fun w hh=>OA hh)
theorem Vs {x:HQ} (h:x.Ok B) (b:Int):Con prog 116 [ptV x.bc,.int .i64 b] (fun _=>True) x.H (fun s:N4=>.tuple #[.agg (⟨s,(x.q.M.node b).1⟩:NV).c.toArray,.bool (x.q.M.node b).2]) (fun _=>True) (fun s:N4=>Bz ⟨s,(x.q.M.node b).1⟩++x.H) :=
 HQ.look (SG h.q.rel h.q.ok b) (fun w hh=>⟨OA hh,Zh h hh⟩)
theorem aC {x:HQ} (h:x.Ok B) (b:Int):Con prog 194 [ptV x.bc,.int .i64 b] (fun _=>True) x.H (fun _:Unit=>.int .i64 (io (x.q.M.find b))) (fun _=>True) (fun _:Unit=>[]++x.H) :=
 HQ.look (D7 h.q.rel h.q.ok b) (fun w hh=>OA hh)
theorem Ro {x:HQ} (h:x.Ok B) (t:Int):Con prog 262 [ptV x.bc,.int .i64 t] (fun _=>True) x.H (fun _:Unit=>.int .i64 (x.q.M.claims t:Int)) (fun _=>True) (fun _=>x.H) :=
 Con.pack (x.q.G++x.rest) (NW h.q.rel h.q.ok t) (by have:=x.H_perm; unfold Q.H at this; rwa[gK] at this) (fun _ _ _=>trivial) id (fun _ _=>⟨rfl,trivial,[],by rw[jc]; have:=x.H_perm.symm; unfold Q.H at this; rwa[gK] at this⟩)
theorem aD {x:HQ} (h:x.Ok B) (b:Int):Con prog 196 [ptV x.bc,.int .i64 b] (fun _=>True) x.H (fun _:Unit=>.bool (x.q.M.frI b 2).isSome) (fun _=>True) (fun _=>x.H) :=
 Con.pack (x.q.G++x.rest) (PD h.q.rel h.q.ok b) (by have:=x.H_perm; unfold Q.H at this; rwa[gK] at this) (fun _ _ _=>trivial) id (fun _ _=>⟨rfl,trivial,[],by rw[jc]; have:=x.H_perm.symm; unfold Q.H at this; rwa[gK] at this⟩)
theorem X7 {x:HQ} (h:x.Ok B):Con prog 97 [ptV x.bc] (fun _=>True) x.H (fun b:Value×List FC×List Ent=>b.1) (fun b=>b.2.1.map vw=x.q.M.fr/\∀f∈b.2.1,∀e∈Bz f.nv,e∈b.2.2) (fun b=>(Az b.1 202 FC.encA b.2.1::b.2.2)++x.H) :=
 HQ.look (NK h.q.rel h.q.ok) (fun w hh=>⟨OA hh,Zh h hh⟩)
abbrev HQ.setS (x:HQ) (s:Sto):HQ:={x with s:=s}
abbrev HQ.setL (x:HQ) (i:Nat) (l:LC):HQ:={x with lt:=x.lt.set i l}
abbrev HQ.pre3 (x:HQ):List Ent:=[Ad x.bh 91 x.cells,Az x.vL 203 I3 (x.lt.map LC.b),BH x.bR kI kI x.rd]
abbrev HQ.pre6 (x:HQ):List Ent:=x.pre3++SE x.bs x.vB x.vU x.s
theorem MG (A B C D:List Ent):((A++B)++(C++D)).Perm (A++(C++(B++D))):=by
 rw[gK]; exact (kl B C D).append_left A
theorem HQ.liftS {x:HQ} {v:β->Value} {p:β->Prop} (A:List Ent) {A':β->List Ent} {sn:β->Sto} (s:Con P f vs E (A++SE x.bs x.vB x.vU x.s) v p (fun b=>A' b++SE x.bs x.vB x.vU (sn b))) (hE:∀w,E' w->HP (A++x.H) w->E w):Con P f vs E' (A++x.H) v p (fun b=>A' b++(x.setS (sn b)).H) :=
 Con.pack (x.pre3++(LTs x.lt++x.q.H x.bc)) s (MG A (SE x.bs x.vB x.vU x.s) x.pre3 (LTs x.lt++x.q.H x.bc)).symm hE id (fun b hb=>⟨rfl,hb,[],by
  rw[jc]; exact MG (A' b) (SE x.bs x.vB x.vU (sn b)) x.pre3 (LTs x.lt++x.q.H x.bc)⟩)
theorem ez {lt:List LC} {l l':LC} (h0:lt[i]?=some l) (hb:l'.b=l.b):(lt.set i l').map LC.b=lt.map LC.b:=by
 rw[il,hb]
 exact gv (fun j=>by
  rw[jD]
  split
  · rename_i e; subst e; split
    · rw[gm,h0]; rfl
    · rename_i hn; exact absurd (by simpa using (gl.1 h0).1) hn
  · rfl)
theorem HQ.liftL {x:HQ} {l:LC} {v:β->Value} {p:β->Prop} {A':β->List Ent} {ln:β->LC} (h0:x.lt[i]?=some l) (s:Con P f vs E l.H v p (fun b=>A' b++(ln b).H)) (hE:∀w,E' w->HP x.H w->E w) (hb:∀b,(ln b).b=l.b):Con P f vs E' x.H v p (fun b=>A' b++(x.setL i (ln b)).H) :=
 Con.pack (x.pre6++(LTs (x.lt.eraseIdx i)++x.q.H x.bc)) s (by
  have h1:x.H.Perm (x.pre6++((l.H++LTs (x.lt.eraseIdx i))++x.q.H x.bc)):=by
   show (x.pre6++(LTs x.lt++x.q.H x.bc)).Perm _
   exact ((Vo h0).append_right (x.q.H x.bc)).append_left x.pre6
  refine h1.trans ?_
  have h2:=kl x.pre6 l.H (LTs (x.lt.eraseIdx i)++x.q.H x.bc)
  rw[<-gK l.H] at h2
  exact h2) hE id (fun b hp=>⟨rfl,hp,[],by
  rw[jc]
  have hlt:=(gl.1 h0).1
  have h2:(x.setL i (ln b)).H=x.pre6++(LTs (x.lt.set i (ln b))++x.q.H x.bc):=by
   show Ad x.bh 91 x.cells::Az x.vL 203 I3 ((x.lt.set i (ln b)).map LC.b)::_=_
   rw[ez h0 (hb b)]
   rfl
  show ((A' b++(ln b).H)++(x.pre6++(LTs (x.lt.eraseIdx i)++x.q.H x.bc))).Perm (A' b++(x.setL i (ln b)).H)
  rw[h2]
  refine (MG (A' b) (ln b).H x.pre6 (LTs (x.lt.eraseIdx i)++x.q.H x.bc)).trans ?_
  rw[<-gK (ln b).H]
  exact (((Zg (ln b) hlt).append_right _).append_left _).append_left _⟩)
theorem HQ.lookL {x:HQ} {l:LC} {v:β->Value} {p:β->Prop} {A':β->List Ent} (h0:x.lt[i]?=some l) (s:Con P f vs E l.H v p (fun b=>A' b++l.H)) (hE:∀w,E' w->HP x.H w->E w):Con P f vs E' x.H v p (fun b=>A' b++x.H):=by
 have h:=HQ.liftL (ln:=fun _=>l) h0 s hE (fun _=>rfl)
 have e:x.setL i l=x:=by
  have hs:x.lt.set i l=x.lt:=gv (fun j=>by
   rw[jD]
   split
   · rename_i e; subst e; rw[fO (gl.1 h0).1,h0]
   · rfl)
  show ({x with lt:=x.lt.set i l}:HQ)=x
  rw[hs]
 rw[e] at h
 exact h
structure Hm where
 M:Mo
 s:Sto
 la:List Lt.La
 rd:List (Int×Int)
def HQ.hm (x:HQ):Hm:=⟨x.q.M,x.s,x.lt.map LC.m,x.rd⟩
namespace Hm
def pin (h:Hm) (t b:Int):Int×Hm:=((h.M.pin t b).1,{h with M:=(h.M.pin t b).2,rd:=if (h.M.pin t b).1=3 then BJ b t h.rd else h.rd})
def load (h:Hm) (b:Int) (nd:Nd):Hm:={h with M:=(h.M.fill b nd).2,rd:=BM b h.rd}
def lat (h:Hm) (i:Nat):Lt.La:=h.la.getD i Lt.newL
def take (h:Hm) (i:Nat) (t:Int) (w:Bool):Hm:={h with la:=h.la.set i (Lt.takeL (h.lat i) t w)}
def leave (h:Hm) (i:Nat) (t b:Int):Hm:={h with la:=h.la.set i (Lt.dropL (h.lat i) t).2,M:=(h.M.unpin b).2}
def claim (h:Hm) (t:Int):Bool×Hm:=((h.M.claim t).1,{h with M:=(h.M.claim t).2})
def give (h:Hm) (t:Int):Hm:={h with M:=h.M.give t}
def setN (h:Hm) (b:Int) (nd:Nd):Hm:={h with M:=(h.M.setN b nd).2}
def name (h:Hm) (t b:Int) (nd:Nd):Hm:={h with M:=(h.M.name t b nd).2}
def may (h:Hm) (t:Int):Bool:=!h.la.any (fun l=>decide (t∈l.q.map Prod.fst))&&h.M.may t
end Hm
theorem Kg [DecidableEq α] {a:α}:∀{l:List (α×β)},(l.map Prod.fst).Nodup->((BM a l).map Prod.fst).Nodup
 |[],h=>h
 |(x,y)::l,h=>by
  have h1:x∉l.map Prod.fst/\(l.map Prod.fst).Nodup:=iS.1 h
  simp only[BM]
  split
  · exact h1.2
  · refine iS.2 ⟨fun hm=>h1.1 ?_,Kg h1.2⟩
    have key:∀{l:List (α×β)} {z:α},z∈(BM a l).map Prod.fst->z∈l.map Prod.fst:=by
     intro l
     induction l with
     |nil=>intro z hz; exact hz
     |cons p l ih =>
      intro z hz
      obtain⟨u,v⟩:=p
      simp only[BM] at hz
      split at hz
      · exact iR _ hz
      · rcases fq.1 hz with e|e
        · exact e▸iG ..
        · exact iR _ (ih e)
    exact key hm
theorem HQ.Ok.rdk {x:HQ} (h:x.Ok B) {l:List (Int×Int)} (hn:(l.map Prod.fst).Nodup):({x with rd:=l}:HQ).Ok B:=⟨h.q,h.s,h.l,h.ll,hn⟩
theorem HQ.Ok.setL {x:HQ} (h:x.Ok B) (i:Nat) {l':LC} (hC:l'.m.Ok C) (hBC:B<=C) (hC6:C<=60000):(x.setL i l').Ok C:=by
 refine⟨h.q.mono hBC hC6,h.s,fun z hz=>?_,by show (x.lt.set i l').length=_; rw[je]; exact h.ll,h.rn⟩
 rcases jW hz with e|e
 · exact (h.l z e).mono hBC
 · rw[e]; exact hC
theorem HQ.Ok.bk {x:HQ} (h:x.Ok B) {k:Nat} (hu:x.s.us[k]?=some true):∃bk,x.s.bl[k]?=some bk:=⟨_,fD (by rw[h.s.len]; exact (gl.1 hu).1)⟩
theorem HQ.lat_at {x:HQ} {l:LC} (h:x.lt[i]?=some l):x.hm.lat i=l.m:=by
 unfold Hm.lat HQ.hm
 rw[ju,gm,h]; rfl
theorem HQ.hm_setL {x:HQ} {l':LC}:(x.setL i l').hm={x.hm with la:=x.hm.la.set i l'.m}:=by
 show (⟨x.q.M,x.s,(x.lt.set i l').map LC.m,x.rd⟩:Hm)=⟨x.q.M,x.s,(x.lt.map LC.m).set i l'.m,x.rd⟩
 rw[il]
theorem HQ.Ok.latI {x:HQ} (h:x.Ok B) {b:Int} {i:Nat} (hf:x.q.M.frI b 2=some i):∃l,x.lt[i]?=some l:=by
 refine⟨_,fD ?_⟩
 rw[h.ll]
 unfold Mo.frI at hf
 split at hf
 · rename_i j hj
   split at hf
   · cases hf
     exact (gl.1 (C6 hj).choose_spec.1).1
   · cases hf
 · cases hf
theorem EU {st:Int} (h:M.frI b st=some i):M.find b=some i/\(M.at' i).st=st:=by
 unfold Mo.frI at h
 split at h
 · rename_i j hj
   split at h
   · cases h; exact⟨hj,by assumption⟩
   · cases h
 · cases h
def PW (l:List Int) (nd:Nd):Prop:=∀vb:Value,Con prog 167 [vb] (fun w=>RdV w vb (AG .u8) l) [] (fun s:N4=>.tuple #[.agg (⟨s,nd⟩:NV).c.toArray,.int .i64 0]) (fun _=>True) (fun s=>Bz ⟨s,nd⟩)
theorem Tb (w:World) {H:List Ent} {w0:World} {D:List Nat} (h:St w0 D H w) (d:Nd) (he:d.es=[]) (hk:d.kids=[]) (hp:d.piv=[]) (hm:d.msgs=[]):St w0 D (Bz ⟨n40,d⟩++H) w:=by
 have e1:Bp n40.e d.es=Az Cg 79 En.enc []:=by rw[he]; rfl
 have e2:CG n40.k d.kids=Az Cg 3 (AG .i64) []:=by rw[hk]; rfl
 have e3:CH n40.p d.piv=Az Cg 77 (Kv.enc 8) []:=by rw[hp]; rfl
 have e4:EN n40.m d.msgs=Az Cg 154 Ms.enc []:=by rw[hm]; rfl
 show St w0 D (Bp n40.e d.es::CG n40.k d.kids::CH n40.p d.piv::EN n40.m d.msgs::H) w
 rw[e1,e2,e3,e4]
 exact St.add (St.add (St.add (St.add h I (.inl ⟨none,rfl,rfl⟩)) I (.inl ⟨none,rfl,rfl⟩)) I (.inl ⟨none,rfl,rfl⟩)) I (.inl ⟨none,rfl,rfl⟩)
theorem Iw:PW Dz ndL:=fun vb w he hh=>(KW w he hh).mono (fun e w' ⟨_,h1,_,h3⟩=>⟨n40,h1,trivial,by
 have:=Tb w' h3 ndL rfl rfl rfl rfl
 rwa[jc] at this⟩)
theorem Vt {x:HQ} (h:x.Ok B) {k:Nat} (hu:x.s.us[k]?=some true) {bk:Bk} (hb:x.s.bl[k]?=some bk):Con prog 166 [ptV x.bs,.int .i64 (k:Int)] (fun _=>True) x.H (fun v:Value=>.tuple #[v,.int .i64 0]) (fun _=>True) (fun v=>Az v 5 (AG .u8) bk.l::x.H) :=
 HQ.liftS (E':=fun _=>True) (A:=[]) (A':=fun v:Value=>[Az v 5 (AG .u8) bk.l]) (sn:=fun _=>x.s) (S2 h.s x.bs x.vB x.vU hu hb) (fun _ _ _=>trivial)
theorem Vu {x:HQ} (h:x.Ok B):Con prog 35 [ptV x.bs] (fun _=>True) x.H (fun _:Unit=>.int .i64 (x.s.left:Int)) (fun _=>True) (fun _=>x.H) :=
 HQ.liftS (E':=fun _=>True) (A:=[]) (A':=fun _:Unit=>[]) (sn:=fun _=>x.s) (PT h.s x.bs x.vB x.vU) (fun _ _ _=>trivial)
theorem xis {x:HQ} (h:x.Ok B) {k:Nat} (hu:x.s.us[k]?=some true):Con prog 173 [ptV x.bh,.int .i64 (k:Int)] (fun _=>True) (x.H) (fun _:Unit=>.bool true) (fun _=>True) (fun _=>x.H):=by
 intro w hE hH
 obtain⟨bk,hb⟩:=h.bk hu
 refine Ey func173 I hH ?_
 refine Cs I (Ak I (Cs I (Lm I (Lc I (Lfa U91 I Z87 I (Lo isAgg87 0 I (Lm I (l_e I (Ee [] (Vt h hu hb) I call166 Tt (fun v _=>Pw (St _ _ (_::HQ.H (x))) ?_))))))))))
 refine Lm I (Lq I (Qx I) (Lq I (Qx I) (Las I (Ak I (Cs I (Lm I (Lq I (Qe I) (Ak I (Af (Av (An I I ?_)))))))))))
 exact fun _ h=>⟨(),rfl,trivial,h⟩
theorem Zj {x:HQ} (h:x.Ok B) {k:Nat} (hu:x.s.us[k]?=some true) {bk:Bk} (hb:x.s.bl[k]?=some bk) {nd:Nd} (hd:PW bk.l nd):Con prog 117 [ptV x.bh,.int .i64 (k:Int)] (fun _=>True) (x.H) (fun s:N4=>.tuple #[.agg (⟨s,nd⟩:NV).c.toArray,.bool true]) (fun _=>True) (fun s=>Bz (⟨s,nd⟩:NV)++x.H):=by
 intro w hE hH
 refine Ey func117 I hH ?_
 refine Cs I (l_e I (Au I I I zeroValue135 (fun br=>Ce nv0.c I (Ak I (Cs I (Lm I (Lc I (Lfa U91 I Z87 I (Lo isAgg87 1 I (Lm I (l_e I (Ee [_] (Vt h hu hb) I call166 Tt (fun v _=>Pw (St _ _ (_::_::HQ.H (x))) ?_)))))))))))))
 refine Lm I (Lq I (Qx I) (Lq I (Qx I) (Las I (Ak I (Ag (Cs I (Lm I (Lq I (Qn I) (Nk (Sb 19 false I (I) (Ab I (Ae (Kt (Cs I (Lm I (l_e I (EG (hd v) I I I call167 I (Hrd 1 I) (fun s _=>Lm I (Lq I (Qx I) (Lq I (Qx I) (l_e I (Au I I I zeroValue135 (fun bn=>Ce nv0.c I (l_e I (Ah I I AR I I I (NV.one _) (by show 0+5<=5; decide) (Ay (show Sep.splice _ 0 ((⟨s,nd⟩:NV)).c=((⟨s,nd⟩:NV)).c from Sep.e7 I) (Ak I (Cs I (Lq I (Cq ((⟨s,nd⟩:NV).c) Bs AR 0 I (I) (I)) (Lm I (Lq I (Qe I) (Ex (l_e I (Ah I I AR I I I (NV.one _) (by show 0+5<=5; decide) (Ay (show Sep.splice _ 0 ((⟨s,nd⟩:NV)).c=((⟨s,nd⟩:NV)).c from Sep.e7 I) (Ak I (Af (Pm [3,3,3,4,4,4,4,4,4] I ?_))))))))))))))))))))))))))))))))))))))
 refine Pm [9,9,10,9] I (BI I (AJ I Bs AR (Hat 0 I) (I)) (show Sep.look _ _=some _ from I) ?_)
 exact fun _ h=>⟨s,rfl,trivial,h.drop.drop.drop⟩
theorem Vv (x:Int):Con prog 195 [.int .i64 x] (fun _=>True) [] (fun _:Unit=>.bool (tkB x)) (fun _=>True) (fun _=>[]):=by
 intro w hE hH
 refine E0 func195 I hH ?_
 refine Cs I (Ak I (Cs I (Lm I (Lq I (Qg I) (Lm I ?_)))))
 refine CB 5 I (fun h1=>?_) (fun h1=>?_)
 · refine Lm I (Lq I (Ql I) (Lq I (Qy I) (Ak I (Af (An I I ?_)))))
   exact fun _ h=>⟨(),congrArg (fun z=>Ending.returned (Value.bool z)) (by unfold tkB; rw[jq (show 0<=x by omega)]; rfl),trivial,h⟩
 · refine Lx I (Lx I (Lq I (Qz I) (Ak I (Af (An I I ?_)))))
   exact fun _ h=>⟨(),congrArg (fun z=>Ending.returned (Value.bool z)) (by unfold tkB; rw[jo (show ¬0<=x by omega)]; rfl),trivial,h⟩
theorem dq {x:HQ} (h:x.Ok B) (hB:B+1<=60000) (t:Int) {k:Nat} (hu:x.s.us[k]?=some true) (hk9:k<=256):Con prog 121 [ptV x.bh,.int .i64 t,.int .i64 (k:Int)] (fun _=>True) (x.H) (fun y:HQ=>.int .i64 (x.hm.pin t k).1) (fun y=>y.bh=x.bh/\y.Ok (B+1)/\y.hm=(x.hm.pin t k).2) (fun y=>y.H):=by
 intro w hE hH
 refine Ey func121 I hH ?_
 refine Cs I (Ak I (Ag (Cs I (Lm I (Lm I (l_e I (Ee [] (xis h hu) I call173 Tt (fun _ _=>Pw (St _ _ (HQ.H (x))) ?_))))))))
 refine Lq I (Qt I) (Nk (Sb 11 false I (I) (Ab I (Ae (Kt (Cs I (Lm I (Lc I (Lfa U91 I Z86 I (Lo G86 0 I (Lm I (Lm I (l_e I (Ee [] (X6 h hB t (k:Int) (JW (by omega) (by omega))) I call174 Tt ?_))))))))))))))
 rintro q ⟨hm,hk⟩
 refine Pw (St _ _ (HQ.H (x.setq q))) ?_
 refine Ak I (Ag (Cs I (Lm I (Lq I (Qe I) (Nk ?_)))))
 refine CB 20 I (fun h3=>?_) (fun h3=>?_)
 · refine Ai I (Cr I (Lm I (Lc I (Lfa U91 I sizeOf89 I (Lo isAgg89 0 I (Lm I (Lm I (AV (l_e I (Ml (k:Int) t I I U89 JR I I I (Nk (Cs I (Lm I (Ak I (Af (Pm [1,1] I (An I I ?_)))))))))))))))))
   exact fun _ h'=>⟨{x.setq q with rd:=BJ (k:Int) t x.rd},rfl,⟨rfl,HQ.Ok.rdk hk (Gv _ _ h.rn),by unfold Hm.pin HQ.hm; simp only[h3,gR,hm]⟩,h'⟩
 · refine Ab I (Ae (Kt (Cs I (Lm I (Ak I (Af (An I I ?_)))))))
   exact fun _ h'=>⟨x.setq q,rfl,⟨rfl,hk,by unfold Hm.pin HQ.hm; simp only[h3,iL,hm]⟩,h'⟩
theorem Zk {x:HQ} (h:x.Ok B) {t:Int} {k:Nat} (hu:x.s.us[k]?=some true) (hr:Cn (k:Int) x.rd=some t) {bk:Bk} (hb:x.s.bl[k]?=some bk) {nd:Nd} (hd:PW bk.l nd) (hsm:nd.Sm 1000):Con prog 85 [ptV x.bh,.int .i64 t,.int .i64 (k:Int)] (fun _=>True) (x.H) (fun y:HQ×Value×Bool=>.tuple #[y.2.1,.bool y.2.2]) (fun y=>y.1.bh=x.bh/\y.1.Ok B/\y.1.hm=x.hm.load k nd) (fun y=>y.1.H):=by
 intro w hE hH
 refine Ey func85 I hH ?_
 refine Ag ?_
 have hd2:HQ.Ok {x with rd:=BM (k:Int) x.rd} B:=h.rdk (Kg h.rn)
 refine Cr I (Las I (Ak I (Ag (Cs I (Lm I (Lc I (Lfa U91 I sizeOf89 I (Lo isAgg89 0 I (Lm I (Lq I (JN (kf:=kI) (vf:=kI) (k:Int) I U89 JR zeroValue3 I I (Hat 2 I)) (Lm I (Lq I (Qx I) (Lq I (Qx I) (Las I (Ak I (Ag (Sv' 8 (.int .i64 t) I (by rw[hr]) (Sv' 9 (.bool true) I (by rw[hr]; rfl) (Cr I (Lm I (Lq I (Qt I) (Lm I (Lm I ?_)))))))))))))))))))))))
 refine Lm I (Lq I (Qn I) (Lq I (Qz I) (Nk (Sb 27 false I (by simp) (Ab I (Ae (Kt (Cs I (Lm I (Lc I (Lfa U91 I sizeOf89 I (Lo isAgg89 0 I (Lm I (AV (l_e I (Ic (k:Int) I I U89 JR I I (Nk (Cs I (Lm I (Lm I (Pm [3,3,3] I ?_)))))))))))))))))))))
 refine Pm [4,4,3] I ?_
 refine Pw (St _ _ (HQ.H {x with rd:=BM (k:Int) x.rd})) ?_
 refine l_e I (Ee [] (Zj (x:={x with rd:=BM (k:Int) x.rd}) hd2 hu hb hd) I call117 Tt (fun s _=>Pw (St _ _ (_::_::_::_::HQ.H ({x with rd:=BM (k:Int) x.rd}))) ?_))
 refine Lm I (Lq I (Qx I) (Lq I (Qx I) (l_e I (Au I I I zeroValue135 (fun bn=>Ce nv0.c I (l_e I (Ah I I AR I I I (NV.one _) (by show 0+5<=5; decide) (Ay (show Sep.splice _ 0 ((⟨s,nd⟩:NV)).c=((⟨s,nd⟩:NV)).c from Sep.e7 I) (Ak I (Ag (Do8 (rg 11) 158193 (fun w2=>(Ad (HQ.bh ({x with rd:=BM (k:Int) x.rd})) 91 (HQ.cells ({x with rd:=BM (k:Int) x.rd}))).at w2/\(Ad bn 135 ((⟨s,nd⟩:NV).c)).at w2) I St.drawn (H2 5 0 I) (Dm I (Dc I (Dfa U91 I Z86 I (Dq I (Ao I G86 I (fun _ h=>h.1) I) (Dm I (Dq I (AP ((⟨s,nd⟩:NV).c) I Bs AR I (fun _ h=>h.2) (I) (I)) ?_)))))))))))))))))
 refine d_e I (Ee [_] (dm hd2 (⟨s,nd⟩:NV) hsm (k:Int)) I call133 Tt ?_)
 rintro⟨q,v⟩ ⟨hm,hk⟩
 refine Pw (St _ _ (_::_::_::_::_::_::HQ.H (({x with rd:=BM (k:Int) x.rd}:HQ).setq q))) ?_
 refine Aj (H2 6 0 I) (Dq I (Qx I) (Dq I (Qx I) (d_t I (e_q I I (AE I I) (d_t I (e_q I I (AE I I) (AK (Kt (Af (Av (Av (Av (Av (Av (Av (Be (rs:=[.tmp 6,.tmp 7]) I I ?_))))))))))))))))
 exact fun _ h'=>⟨(HQ.setq {x with rd:=BM (k:Int) x.rd} q,v,((HQ.q x).M.fill (k:Int) nd).1.2),rfl,⟨rfl,hk,by show (⟨q.M,_,_,_⟩:Hm)=⟨_,_,_,_⟩; rw[hm]; rfl⟩,h'⟩
theorem PX {x:HQ} (h:x.Ok B) {t:Int} (ht:tkB t=true) {b:Int} {i:Nat} (hf:x.q.M.frI b 2=some i) {l:LC} (h0:x.lt[i]?=some l):Con prog 134 [ptV x.bh,.int .i64 t,.int .i64 b] (fun _=>True) (x.H) (fun _:Unit=>ptV l.b) (fun _=>True) (fun _=>x.H):=by
 intro w hE hH
 refine Ey func134 I hH ?_
 refine Ag ?_
 have hil:=(gl.1 h0).1
 have hlm:(x.lt.map LC.b).length=x.lt.length:=gS ..
 have hlb:(x.lt.map LC.b)[i]?=some l.b:=by rw[gm,h0]; rfl
 refine Cr I (Ak I (Ag (Cs I (Lm I (l_e I (E1 (Vv t) I call195 Tt (fun _ _=>Lq I (Qt I) (Lm I (Sb 10 false I (by rw[ht]; rfl) (Lm I (Lc I (Lfa U91 I Z86 I (Lo G86 0 I (Lm I (l_e I (Ee [] (aD h b) I call196 Tt (fun _ _=>Pw (St _ _ (HQ.H (x))) ?_)))))))))))))))))
 refine Sv' 16 (.bool true) I (by rw[hf]; rfl) (Lq I (Qt I) (Lq I (Qz I) (Nk (Ab I (Ae (Ks (Do8 (rg 13) 1554957 (fun w2=>(Ad x.bh 91 x.cells).at w2/\RdV w2 x.vL I3 (x.lt.map LC.b)) I St.drawn (fun _ h=>⟨h.at 0 rfl,h.rd 1 rfl⟩) (Dm I (Dc I (Dfa U91 I Z88 I (Dq I (Ao I isAgg88 I (fun _ h=>h.1) I) (Dm I (Dc I (Dfa U91 I Z86 I (Dq I (Ao I G86 I (fun _ h=>h.1) I) (Dm I (d_e I (Ee [] (aC h b) I call194 Tt (fun _ _=>Pw (St _ _ (HQ.H (x))) ?_)))))))))))))))))))
 refine Sv' 28 (.int .i64 (i:Int)) I (by rw[(EU hf).1]; rfl) (Aj (fun _ h=>⟨h.at 0 rfl,h.rd 1 rfl⟩) (d_t I (e_q I I (As i I U88 sizeOf203 I (Hrd 1 I) I I (by omega)) (d_t I (e_q I I (AI i 0 I isAgg203 I I (Hrd 1 I) hlb I) (d_t I (e_q I I (AE I I) (AK (Kt (Af (An I I ?_)))))))))))
 exact fun _ h=>⟨(),rfl,trivial,h⟩
def DH (m:Lt.La) (t:Int):Bool:=decide (m.wr=t)||decide (t∈m.rd)
theorem dr {l:LC} (hm:l.m.Ok n) (hn:n<=60000) (t:Int):Con prog 175 [ptV l.b,.int .i64 t] (fun _=>True) l.H (fun _:Unit=>.bool (DH l.m t)) (fun _=>True) (fun _=>l.H):=by
 intro w hE hH
 have hql:=hm.lens
 refine Ey func175 I hH ?_
 refine Cs I (Ak I (Cs I (Lm I (l_e I (Ee [] (Lt.writer_spec hm hn l.b l.vR l.vQ) I call247 Tt (fun _ _=>Lm I (Lq I (Qe I) (Lm I ?_))))))))
 refine CB 9 I (fun h1=>?_) (fun h1=>?_)
 · refine Lx I (Lx I (Lx I (Lx I (Lq I (Qy I) (Ak I (Af (An I I ?_)))))))
   exact fun _ h=>⟨(),congrArg (fun z=>Ending.returned (Value.bool z)) (by unfold DH; rw[jq h1]; rfl),trivial,h⟩
 · refine Lm I (l_e I (Ee [] (Lt.readers_spec hm hn l.b l.vR l.vQ) I call248 Tt (fun v _=>Lm I (l_e I (E1 (Lt.contains_spec l.m.rd t (by omega)) I call105 (Hrd 0 I) (fun _ _=>Lq I (Qz I) (Ak I (Af (Av (An I I ?_))))))))))
   exact fun _ h=>⟨(),congrArg (fun z=>Ending.returned (Value.bool z)) (by unfold DH; rw[jo h1]; rfl),trivial,h⟩
theorem eA {x:HQ} (h:x.Ok B) {i:Nat} {l:LC} (h0:x.lt[i]?=some l) (t:Int):Con prog 175 [ptV l.b,.int .i64 t] (fun _=>True) x.H (fun _:Unit=>.bool (DH l.m t)) (fun _=>True) (fun _=>x.H) :=
 HQ.lookL (A':=fun _:Unit=>[]) h0 (dr (h.l l (hY h0)) h.b9 t) (fun _ _ _=>trivial)
theorem X8 {x:HQ} (h:x.Ok B) {i:Nat} {l:LC} (h0:x.lt[i]?=some l):Con prog 247 [ptV l.b] (fun _=>True) x.H (fun _:Unit=>.int .i64 l.m.wr) (fun _=>True) (fun _=>x.H) :=
 HQ.lookL (A':=fun _:Unit=>[]) h0 (Lt.writer_spec (h.l l (hY h0)) h.b9 l.b l.vR l.vQ) (fun _ _ _=>trivial)
theorem aE {x:HQ} (h:x.Ok B) {i:Nat} {l:LC} (h0:x.lt[i]?=some l) (t:Int) (wr:Bool):Con prog 135 [ptV l.b,.int .i64 t,.bool wr] (fun _=>True) x.H (fun _:Value×Value=>.bool (Lt.tryB l.m t wr)) (fun _=>True) (fun v=>(x.setL i ⟨l.b,v.1,v.2,Lt.takeL l.m t wr⟩).H) :=
 HQ.liftL (A':=fun _:Value×Value=>[]) (ln:=fun v=>⟨l.b,v.1,v.2,Lt.takeL l.m t wr⟩) h0 (Lt.take_spec (h.l l (hY h0)) h.b9 l.b l.vR l.vQ t wr) (fun _ _ _=>trivial) (fun _=>rfl)
theorem aF {x:HQ} (h:x.Ok B) {i:Nat} {l:LC} (h0:x.lt[i]?=some l) (t:Int):Con prog 176 [ptV l.b,.int .i64 t] (fun _=>True) x.H (fun v:Value×Value×Value=>v.1) (fun _=>True) (fun v=>Az v.1 3 (AG .i64) (Lt.dropL l.m t).1::(x.setL i ⟨l.b,v.2.1,v.2.2,(Lt.dropL l.m t).2⟩).H) :=
 HQ.liftL (A':=fun v:Value×Value×Value=>[Az v.1 3 (AG .i64) (Lt.dropL l.m t).1]) (ln:=fun v=>⟨l.b,v.2.1,v.2.2,(Lt.dropL l.m t).2⟩) h0 (Lt.drop_spec (h.l l (hY h0)) h.b9 l.b l.vR l.vQ t) (fun _ _ _=>trivial) (fun _=>rfl)
theorem X9 {x:HQ} (h:x.Ok B) {i:Nat} {l:LC} (h0:x.lt[i]?=some l):Con prog 130 [ptV l.b] (fun _=>True) x.H (fun v:Value=>v) (fun _=>True) (fun v=>Az v 241 Lt.encW l.m.q::x.H) :=
 HQ.lookL (A':=fun v:Value=>[Az v 241 Lt.encW l.m.q]) h0 (Lt.queue_spec (h.l l (hY h0)) h.b9 l.b l.vR l.vQ) (fun _ _ _=>trivial)
theorem xtk {x:HQ} (h:x.Ok B) {t:Int} (ht:tkB t=true) {b:Int} {i:Nat} (hf:x.q.M.frI b 2=some i) (hB:B+1<=60000) (wr:Bool):Con prog 86 [ptV x.bh,.int .i64 t,.int .i64 b,.bool wr] (fun _=>True) (x.H) (fun y:HQ×Bool=>.bool y.2) (fun y=>y.1.bh=x.bh/\y.1.Ok (B+1)/\y.1.hm=x.hm.take i t wr) (fun y=>y.1.H):=by
 intro w hE hH
 obtain⟨l,h0⟩:=h.latI hf
 refine Ey func86 I hH ?_
 refine Cs I (Ak I (Cs I (Lm I (Lm I (Lm I (l_e I (Ee [] (PX h ht hf h0) I call134 Tt (fun _ _=>Pw (St _ _ (HQ.H (x))) ?_))))))))
 refine Ak I (Cs I (Lm I (Lq I (DR I underlying203 I I) (Lm I (Sb 16 true I (by simp) (Lm I (Lm I (Lm I (l_e I (Ee [] (aE h h0 t wr) I call135 Tt (fun v _=>Pw (St _ _ (HQ.H ((x.setL i ⟨l.b,v.1,v.2,Lt.takeL l.m t wr⟩)))) ?_)))))))))))
 refine Lq I (Qy I) (Ak I (Af (An I I ?_)))
 exact fun _ hh=>⟨((x.setL i ⟨l.b,v.1,v.2,Lt.takeL l.m t wr⟩),Lt.tryB l.m t wr),rfl,⟨rfl,h.setL i (C:=B+1) (Lt.take_ok (h.l l (hY h0)) t wr) (jT B) hB,by rw[HQ.hm_setL]; unfold Hm.take; rw[HQ.lat_at h0]⟩,hh⟩
theorem PY {x:HQ} (h:x.Ok B) {t:Int} (ht:tkB t=true) {b:Int} {i:Nat} (hf:x.q.M.frI b 2=some i) (hh:DH (x.hm.lat i) t=true):Con prog 122 [ptV x.bh,.int .i64 t,.int .i64 b] (fun _=>True) (x.H) (fun y:HQ×Value=>y.2) (fun y=>y.1.bh=x.bh/\y.1.Ok B/\y.1.hm=x.hm.leave i t b) (fun y=>y.1.H):=by
 intro w hE hH
 obtain⟨l,h0⟩:=h.latI hf
 have hlh:DH l.m t=true:=by rw[<-HQ.lat_at h0]; exact hh
 refine Ey func122 I hH ?_
 refine Cs I (Ak I (Cs I (Lm I (Lm I (Lm I (l_e I (Ee [] (PX h ht hf h0) I call134 Tt (fun _ _=>Pw (St _ _ (HQ.H (x))) ?_))))))))
 refine Ak I (Ag (Cs I (Lm I (Lq I (DZ I underlying203 I I) (Lm I (Sb 15 false I (by simp) (Lm I (Lm I (l_e I (Ee [] (eA h h0 t) I call175 Tt (fun _ _=>Pw (St _ _ (HQ.H (x))) ?_)))))))))))
 refine Sv' 18 (.bool true) I (by rw[hlh]) (Lq I (Qt I) (Lq I (Qz I) (Nk (Ab I (Ae (Kt (Cs I (Lm I (Lm I (l_e I (Ee [] (aF h h0 t) I call176 Tt (fun v _=>Pw (St _ _ (_::HQ.H ((x.setL i ⟨l.b,v.2.1,v.2.2,(Lt.dropL l.m t).2⟩)))) ?_))))))))))))
 have hd:HQ.Ok (x.setL i ⟨l.b,v.2.1,v.2.2,(Lt.dropL l.m t).2⟩) B:=h.setL i (Lt.drop_ok (h.l l (hY h0)) t) (ga B) h.b9
 refine Ak I (Cs I (Lm I (Lc I (Lfa U91 I Z86 I (Lo G86 1 I (Lm I (l_e I (Ee [_] (aA hd b) I call177 Tt ?_))))))))
 rintro q ⟨hm,hk⟩
 refine Pw (St _ _ (_::HQ.H ((x.setL i ⟨l.b,v.2.1,v.2.2,(Lt.dropL l.m t).2⟩).setq q))) ?_
 refine Nk (Cs I (Lm I (Ak I (Af (Av (An I I ?_))))))
 exact fun _ hh=>⟨((x.setL i ⟨l.b,v.2.1,v.2.2,(Lt.dropL l.m t).2⟩).setq q,v.1),rfl,⟨rfl,hk,by show (⟨q.M,x.s,(x.lt.set i _).map LC.m,x.rd⟩:Hm)=⟨_,_,_,_⟩; rw[hm,il,HQ.lat_at h0]; rfl⟩,hh⟩
def bkL:Bk:=⟨Dz,Kd⟩
def Sto.al (s:Sto):Nat->List Nat×Sto
 |0=>([],s)
 |n+1=>match (s.al n).2.fr with
  |some k=>((s.al n).1++[k],((s.al n).2.alloc k).put k bkL)
  |none=>s.al n
theorem Ya {s:Sto} (h:(s.al n).2.fr=some k):s.al (n+1)=((s.al n).1++[k],((s.al n).2.alloc k).put k bkL):=by
 show (match (s.al n).2.fr with|some k=>_|none=>_)=_
 rw[h]
theorem Sto.Ok.alloc {s:Sto} (h:s.Ok) (k:Nat):(s.alloc k).Ok:=⟨by show (s.bl.set k _).length=(s.us.set k _).length; rw[je,je]; exact h.len,by show 1<=(s.us.set k _).length; rw[je]; exact h.n1,by show (s.us.set k _).length<=256; rw[je]; exact h.n256⟩
theorem Sto.Ok.put {s:Sto} (h:s.Ok) (k:Nat) (b:Bk):(s.put k b).Ok:=⟨by show (s.bl.set k _).length=s.us.length; rw[je]; exact h.len,h.n1,h.n256⟩
theorem Vx {s:Sto} (h:s.Ok):∀n,(s.al n).2.Ok
 |0=>h
 |n+1=>by
  show (match (s.al n).2.fr with|some k=>_|none=>_:List Nat×Sto).2.Ok
  split
  · exact ((Vx h n).alloc _).put _ _
  · exact Vx h n
theorem Vy (s:Sto):∀n,(s.al n).1.length<=n
 |0=>ga _
 |n+1=>by
  have:=Vy s n
  show (match (s.al n).2.fr with|some k=>_|none=>_:List Nat×Sto).1.length<=_
  split
  · simp; omega
  · omega
theorem dt {s:Sto} (h:s.fr=some k):k<s.us.length/\s.us[k]?=some false:=by
 obtain⟨y,hy,hp,_⟩:=C6 h
 refine⟨(gl.1 hy).1,?_⟩
 cases y with
 |true=>cases hp
 |false=>exact hy
def nI2 (l:List Nat):List Int:=l.map (fun k:Nat=>(k:Int))
theorem HQ.Ok.setS {x:HQ} (h:x.Ok B) {s:Sto} (hs:s.Ok):(x.setS s).Ok B:=⟨h.q,hs,h.l,h.ll,h.rn⟩
theorem Con.map {H:List Ent} {u:Value} {p:β->Prop} {p':γ->Prop} {HB:γ->List Ent} (g:β->γ) (s:Con P f vs E H (fun _:β=>u) p (fun b=>HB (g b))) (hg:∀b,p b->p' (g b)):Con P f vs E H (fun _:γ=>u) p' HB:=fun w he hh=>(s w he hh).mono (fun e w' ⟨b,h1,h2,h3⟩=>⟨g b,h1,hg b h2,h3⟩)
theorem Rp (h:M.frI b 2=some i):M.node b=((M.at' i).nd,true):=by
 unfold Mo.node Mo.ready; rw[h]
theorem Yb (nd:Nd) (h:M.frI b 2=some i):(M.setN b nd).1=true:=by
 unfold Mo.setN Mo.ready; rw[h]
theorem Vz (h:M.frI b 2=none):M.node b=(nd0,false):=by
 unfold Mo.node Mo.ready; rw[h]
theorem take_not {p:α->Prop} {l:List α} {y:α} (h:∀z∈l.take k,¬p z) (hy:l[k]?=some y) (hn:¬p y):∀z∈l.take (k+1),¬p z:=fun z hz=>by
 rw[jd,hy] at hz
 rcases ib.1 hz with hz|hz
 · exact h z hz
 · simp at hz; subst hz; exact hn
theorem aG {x:HQ} (h:x.Ok B) {t:Int} (ht:tkB t=true) {b:Int} {i:Nat} (hf:x.q.M.frI b 2=some i) {nv:NV} (hwr:(x.hm.lat i).wr=t) (hft:Fk nv.d=true) (hsm:nv.d.Sm 1000):Con prog 204 [ptV x.bh,.int .i64 t,.int .i64 b,.agg nv.c.toArray] (fun _=>True) ((Bz nv++x.H)) (fun y:HQ=>.bool true) (fun y=>y.bh=x.bh/\y.Ok B/\y.hm=x.hm.setN b nv.d) (fun y=>Bz nv++y.H):=by
 intro w hE hH
 obtain⟨l,h0⟩:=h.latI hf
 have hwr2:l.m.wr=t:=by rw[<-HQ.lat_at h0]; exact hwr
 refine Ey func204 I hH ?_
 refine Cs I (l_e I (AQ I I I I (fun bn=>Ce nv.c I (Ak I (Cs I (Lm I (Lm I (Lm I (l_e I (Ee [_,_,_,_,_] (PX h ht hf h0) I call134 Tt (fun _ _=>Pw (St _ _ (_::_::_::_::_::HQ.H (x))) ?_)))))))))))
 refine Ak I (Ag (Do8 [0,1,2,3,5,4,6,7,8,9,10,11,12,13,14,15,16,17,18,19,20,21] 30218857434 (fun w2=>(Ad (HQ.bh (x)) 91 (HQ.cells (x))).at w2/\(Ad bn 135 (nv.c)).at w2) I St.drawn (H2 5 0 I) (Dm I (Dq I (DR I underlying203 I I) (Dm I (Sb 16 true I (by first|(simp; done)|(simp only[ia]; exact hwr2)) (Dm I (Dm I (d_e I (Ee [_,_,_,_,_] (X8 h h0) I call247 Tt (fun _ _=>Pw (St _ _ (_::_::_::_::_::HQ.H (x))) ?_)))))))))))
 refine Aj (H2 5 0 I) (Dq I (Qe I) (Dq I (Qy I) (Dm I (Sb 22 true I (by first|(simp; done)|(simp only[ia]; exact hwr2)) (Dq I (AP (nv.c) I Bs AR I (fun _ h=>h.2) (I) (I)) (d_e I (E1 (Kc nv (hsm.mono (by decide))) I call216 (fun _ h=>⟨h.rd 1 rfl,h.rd 2 rfl,h.rd 3 rfl,h.rd 4 rfl⟩) (fun _ _=>Sv' 24 (.bool true) I (by rw[hft]) (Aj (H2 5 0 I) (Dq I (Qy I) (Dm I (Dm I (Dc I (Dfa U91 I Z86 I (Dq I (Ao I G86 I (fun _ h=>h.1) I) (Dm I (Dq I (AP (nv.c) I Bs AR I (fun _ h=>h.2) (I) (I)) (d_t I (Ee [_] (Iv h nv hsm b) I call261 Tt ?_)))))))))))))))))))
 rintro q ⟨hm,hk⟩
 refine Pw (St _ _ (_::_::_::_::_::HQ.H (x.setq q))) ?_
 refine d_t I (e_q I I (Qy I) (d_t I (e_q I I (AE I I) (AK (Kt (Af (Av (An I I ?_))))))))
 exact fun _ h'=>⟨x.setq q,by simp only[Yb nv.d hf],⟨rfl,hk,by show (⟨q.M,_,_,_⟩:Hm)=⟨_,_,_,_⟩; rw[hm]; rfl⟩,h'⟩
theorem Zl {x:HQ} (h:x.Ok B) (t:Int) {k:Nat} (hu:x.s.us[k]?=some true) {nv:NV} (hft:Fk nv.d=true) (hsm:nv.d.Sm 1000):Con prog 211 [ptV x.bh,.int .i64 t,.int .i64 (k:Int),.agg nv.c.toArray] (fun _=>True) ((Bz nv++x.H)) (fun y:HQ=>.bool (x.hm.M.name t k nv.d).1) (fun y=>y.bh=x.bh/\y.Ok B/\y.hm=x.hm.name t k nv.d) (fun y=>Bz nv++y.H):=by
 intro w hE hH
 refine Ey func211 I hH ?_
 refine Cs I (l_e I (AQ I I I I (fun bn=>Ce nv.c I (Ak I (Ag (Do8 (rg 18) 373071834 (fun w2=>(Ad (HQ.bh (x)) 91 (HQ.cells (x))).at w2/\(Ad bn 135 (nv.c)).at w2) I St.drawn (H2 5 0 I) (Dm I (Dm I (d_e I (Ee [_,_,_,_,_] (xis h hu) I call173 Tt (fun _ _=>Pw (St _ _ (_::_::_::_::_::HQ.H (x))) ?_)))))))))))
 refine Aj (H2 5 0 I) (Dm I (Dq I (AP (nv.c) I Bs AR I (fun _ h=>h.2) (I) (I)) (d_e I (E1 (Kc nv (hsm.mono (by decide))) I call216 (fun _ h=>⟨h.rd 1 rfl,h.rd 2 rfl,h.rd 3 rfl,h.rd 4 rfl⟩) (fun _ _=>Sv' 14 (.bool true) I (by rw[hft]) (Aj (H2 5 0 I) (Dq I (Qy I) (Dm I (Dm I (Dc I (Dfa U91 I Z86 I (Dq I (Ao I G86 I (fun _ h=>h.1) I) (Dm I (Dm I (Dq I (AP (nv.c) I Bs AR I (fun _ h=>h.2) (I) (I)) (d_t I (Ee [_] (OB h nv hsm t (k:Int)) I call268 Tt ?_)))))))))))))))))
 rintro q ⟨hm,hk⟩
 refine Pw (St _ _ (_::_::_::_::_::HQ.H (x.setq q))) ?_
 refine d_t I (e_q I I (Qy I) (d_t I (e_q I I (AE I I) (AK (Kt (Af (Av (An I I ?_))))))))
 exact fun _ h'=>⟨x.setq q,rfl,⟨rfl,hk,by show (⟨q.M,_,_,_⟩:Hm)=⟨_,_,_,_⟩; rw[hm]; rfl⟩,h'⟩
theorem du {x:HQ} (h:x.Ok B) {b:Int} {i:Nat} (hf:x.q.M.frI b 2=some i):Con prog 71 [ptV x.bh,.int .i64 b] (fun _=>True) (x.H) (fun s:N4=>.tuple #[.agg (⟨s,(x.q.M.at' i).nd⟩:NV).c.toArray,.bool true]) (fun _=>True) (fun s=>Bz (⟨s,(x.q.M.at' i).nd⟩:NV)++x.H):=by
 intro w hE hH
 refine Ey func71 I hH ?_
 refine Cs I (l_e I (Au I I I zeroValue135 (fun br=>Ce nv0.c I (Ak I (Ag (Cs I (Lm I (Lc I (Lfa U91 I Z86 I (Lo G86 1 I (Lm I (l_e I (Ee [_] (Vs h b) I call116 Tt (fun s _=>Pw (St _ _ (_::_::_::_::_::HQ.H (x))) ?_))))))))))))))
 have hn0:=Rp hf
 refine Sv' 14 (.tuple #[.agg (⟨s,(x.q.M.at' i).nd⟩:NV).c.toArray,.bool true]) I (by rw[hn0]) ?_
 rw[hn0]
 refine Lm I (Lq I (Qx I) (Lq I (Qx I) (l_e I (Au I I I zeroValue135 (fun bn=>Ce nv0.c I (l_e I (Ah I I AR I I I (NV.one _) (by show 0+5<=5; decide) (Ay (show Sep.splice _ 0 ((⟨s,(x.q.M.at' i).nd⟩:NV)).c=((⟨s,(x.q.M.at' i).nd⟩:NV)).c from Sep.e7 I) (Ak I (Cs I (Lm I (Nk (Ai I (Cs I (Lq I (Cq ((⟨s,(x.q.M.at' i).nd⟩:NV).c) Bs AR 0 I (I) (I)) (AM (l_e I (Ah I I AR I I I (NV.one _) (by show 0+5<=5; decide) (Ay (show Sep.splice _ 0 ((⟨s,(x.q.M.at' i).nd⟩:NV)).c=((⟨s,(x.q.M.at' i).nd⟩:NV)).c from Sep.e7 I) (Ak I (Af (Aa (Pm [6,6,6,6,6,6] I ?_)))))))))))))))))))))))
 refine Pm [7,6,6,6,6,6] I (Av (BI I (AJ I Bs AR (Hat 0 I) (I)) (show Sep.look _ _=some _ from I) ?_))
 exact fun _ hh=>⟨s,rfl,trivial,hh.drop⟩
theorem aH {x:HQ} (h:x.Ok B) {k:Nat} (hu:x.s.us[k]?=some true) (hf:x.q.M.frI (k:Int) 2=none) {bk:Bk} (hb:x.s.bl[k]?=some bk) {nd:Nd} (hd:PW bk.l nd):Con prog 71 [ptV x.bh,.int .i64 (k:Int)] (fun _=>True) (x.H) (fun s:N4=>.tuple #[.agg (⟨s,nd⟩:NV).c.toArray,.bool true]) (fun _=>True) (fun s=>Bz (⟨s,nd⟩:NV)++x.H):=by
 intro w hE hH
 refine Ey func71 I hH ?_
 refine Cs I (l_e I (Au I I I zeroValue135 (fun br=>Ce nv0.c I (Ak I (Ag (Cs I (Lm I (Lc I (Lfa U91 I Z86 I (Lo G86 1 I (Lm I (l_e I (Ee [_] (Vs h k) I call116 Tt (fun s0 _=>Pw (St _ _ (_::_::_::_::_::HQ.H (x))) ?_))))))))))))))
 have hn0:=Vz hf
 refine Sv' 14 (.tuple #[.agg (⟨s0,nd0⟩:NV).c.toArray,.bool false]) I (by rw[hn0]) ?_
 rw[hn0]
 refine Lm I (Lq I (Qx I) (Lq I (Qx I) (l_e I (Au I I I zeroValue135 (fun bn=>Ce nv0.c I (l_e I (Ah I I AR I I I (NV.one _) (by show 0+5<=5; decide) (Ay (show Sep.splice _ 0 ((⟨s0,nd0⟩:NV)).c=((⟨s0,nd0⟩:NV)).c from Sep.e7 I) (Ak I (Cs I (Lm I (Nk (Ab I (Ae (Kt (Cs I (Lm I (Lm I (Pm [2,2,2,2,2,2,2,2,2,2] I ?_)))))))))))))))))))
 refine Pm [10,10] I (l_e I (Ee [_,_,_,_,_,_] (Zj h hu hb hd) I call117 Tt (fun s _=>Pw (St _ _ (_::_::_::_::_::_::_::_::_::_::HQ.H (x))) ?_)))
 refine Lq I (Qx I) (Lq I (Qx I) (AM (l_e I (Ah I I AR I I I (NV.one _) (by show 0+5<=5; decide) (Ay (show Sep.splice _ 0 ((⟨s,nd⟩:NV)).c=((⟨s,nd⟩:NV)).c from Sep.e7 I) (Ak I (Af (AM (Av (AM (Av (AM (Av (AM (Av (AM (Av (BI I (AJ I Bs AR (Hat 0 I) (I)) (show Sep.look _ _=some _ from I) ?_))))))))))))))))))
 exact fun _ hh=>⟨s,rfl,trivial,hh.drop⟩
theorem Yc {x:HQ} (hs:x.s.Ok) {k:Nat} {bk nb:Bk} {vb:Value} (h0:x.s.us[k]?=some true) (hb:x.s.bl[k]?=some bk):Con prog 146 [ptV x.bs,.int .i64 (k:Int),vb] (fun _=>True) (Az vb 5 (AG .u8) nb.l::x.H) (fun _:Unit=>.int .i64 0) (fun _=>True) (fun _=>Az vb 5 (AG .u8) nb.l::(x.setS (x.s.put k nb)).H) :=
 HQ.liftS (E':=fun _=>True) (A:=[Az vb 5 (AG .u8) nb.l]) (A':=fun _:Unit=>[Az vb 5 (AG .u8) nb.l]) (sn:=fun _=>x.s.put k nb) (PR hs x.bs x.vB x.vU (vb:=vb) (k:=k) nb h0 hb) (fun _ _ _=>trivial)
theorem Rq {x:HQ} (hs:x.s.Ok) {k:Nat} (hf:x.s.fr=some k):Con prog 103 [ptV x.bs] (fun _=>True) x.H (fun _:Unit=>.tuple #[.int .i64 (k:Int),.int .i64 0]) (fun _=>True) (fun _=>(x.setS (x.s.alloc k)).H):=by
 have h:=On hs x.bs x.vB x.vU
 rw[hf] at h
 exact HQ.liftS (E':=fun _=>True) (A:=[]) (A':=fun _:Unit=>[]) (sn:=fun _=>x.s.alloc k) h (fun _ _ _=>trivial)
theorem Gd {x:HQ} (h:x.Ok B) {b:Int} {i:Nat} (hf:x.q.M.frI b 2=some i):Con prog 116 [ptV x.bc,.int .i64 b] (fun _=>True) x.H (fun s:N4=>.tuple #[.agg (⟨s,(x.q.M.at' i).nd⟩:NV).c.toArray,.bool true]) (fun _=>True) (fun s=>Bz ⟨s,(x.q.M.at' i).nd⟩++x.H):=by
 have h0:=Vs h b
 rw[Rp hf] at h0
 exact h0
theorem aI {x:HQ} (h:x.Ok B) (hB:B+1<=60000) (t:Int):Con prog 207 [ptV x.bc,.int .i64 t] (fun _=>True) x.H (fun _:HQ=>.bool (x.hm.claim t).1) (fun y=>y.bh=x.bh/\y.bc=x.bc/\y.Ok (B+1)/\y.hm=(x.hm.claim t).2) (fun y=>y.H) :=
 Con.map (fun q=>x.setq q) (az h hB t) (fun q hq=>⟨rfl,rfl,hq.2,by show (⟨q.M,_,_,_⟩:Hm)=⟨_,_,_,_⟩; rw[hq.1]; rfl⟩)
theorem VA {x:HQ} (hs:x.s.Ok) {k:Nat} (hu:x.s.us[k]?=some true) {bk:Bk} (hb:x.s.bl[k]?=some bk):Con prog 90 [ptV x.bh,.int .i64 (k:Int),.agg nvL.c.toArray] (fun _=>True) (x.H) (fun _:Unit=>.tuple #[]) (fun _=>True) (fun _=>(x.setS (x.s.put k bkL)).H):=by
 intro w hE hH
 refine Ey func90 I hH ?_
 refine Cs I (l_e I (AQ I I I I (fun bn=>Ce nvL.c I (Nk (Cs I (Lq I (Cq (nvL.c) Bs AR 0 I (I) (I)) (l_e I (AX (GK) I I I call145 I Tt (fun vy _=>Lm I (Lq I (Qx I) (Lq I (Qx I) (Las I (Ak I (Cs I (Lm I (Lq I (Qe I) (Nk (Sb 14 true I (I) (Ai I (Cr I (Lm I (Lc I (Lfa U91 I Z87 I (Lo isAgg87 2 I (Lm I (Lm I (Pm [2,2,2,2,2,2] I ?_)))))))))))))))))))))))))))
 refine Pm [7,6] I (l_e I (Ee [_] (Yc (nb:=bkL) hs hu hb) I call146 Tt (fun _ _=>Pw (St _ _ (_::_::HQ.H (x.setS (x.s.put k bkL)))) ?_)))
 refine AB (Bl (Av (Av (Bv I ?_))))
 exact fun _ h=>⟨(),rfl,trivial,h⟩
theorem Tc {x:HQ} (h:x.Ok B) {t:Int} (ht:tkB t=true) {n:Nat} (hn1:1<=n) (hn2:n<=2) (hcl:n<=x.q.M.claims t) (hls:x.s.left<n):Con prog 208 [ptV x.bh,.int .i64 t,.int .i64 (n:Int)] (fun _=>True) (x.H) (fun y:HQ=>.tuple #[Cg,.bool false]) (fun y=>y.bh=x.bh/\y.Ok B/\y.hm=x.hm.give t) (fun y=>y.H):=by
 intro w hE hH
 refine Ey func208 I hH ?_
 refine Cs I (Las I (Ak I (Ag (Cs I (Lm I (l_e I (E1 (Vv t) I call195 Tt (fun _ _=>Lq I (Qt I) (Nk (Sb 13 false I (by rw[ht]; rfl) (Ab I (Ae (Ks (Cs I (Lm I (Lq I (Ql I) (Lm I (Sb 16 false I (by first|decide|(simp only[ia,im]; omega)) (Lm I (Lq I (BS I I I) (Lq I (Qz I) (Lm I (Sb 20 false I (by first|decide|(simp only[ia,im]; omega)) (Lm I (Lc I (Lfa U91 I Z86 I (Lo G86 0 I (Lm I (l_e I (Ee [] (Ro h t) I call262 Tt (fun _ _=>Pw (St _ _ (HQ.H (x))) ?_)))))))))))))))))))))))))))))))
 refine Lm I (Lq I (Ql I) (Lq I (Qz I) (Lm I (Sb 30 false I (by first|decide|(simp only[ia,im]; omega)) (Lm I (Lc I (Lfa U91 I Z87 I (Lo isAgg87 0 I (l_e I (Ee [] (Vu h) I call35 Tt (fun _ _=>Pw (St _ _ (HQ.H (x))) ?_)))))))))))
 refine Lm I (Lq I (Ql I) (Lq I (Qz I) (Nk (Sb 38 true I (by first|decide|(simp only[ia,im]; omega)) (Ai I (Cs I (Lm I (Lc I (Lfa U91 I Z86 I (Lo G86 0 I (Lm I (l_e I (Ee [] (dk h t) I call263 Tt ?_)))))))))))))
 rintro q ⟨hm,hk⟩
 refine Pw (St _ _ (HQ.H (x.setq q))) ?_
 refine Nk (Cs I (Las I (Ak I (Af (Aa (Be (rs:=[.tmp 6,.tmp 7]) I I ?_))))))
 exact fun _ hh=>⟨x.setq q,rfl,⟨rfl,hk,by show (⟨q.M,_,_,_⟩:Hm)=⟨_,_,_,_⟩; rw[hm]; rfl⟩,hh⟩
end Go.Proofs.YtloldofjddbjoaaGreat
