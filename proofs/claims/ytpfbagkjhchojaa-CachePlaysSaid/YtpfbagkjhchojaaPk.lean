/- the cache, packed -/
import Derived.Test.YtpfbagkjhchojaaLf
set_option linter.unusedVariables false
set_option linter.unusedSimpArgs false
namespace Go.Proofs.Ytpfbagkjhchojaa
open Go.Sep Go.RowKit

/-! # The cache, packed -/
theorem Con.pack {P : Program} {f : FuncId} {vs : List Value} {E E' : World → Prop} {H H' : List Ent} (F : List Ent) {β γ : Type} {v : β → Value} {p : β → Prop} {HB : β → List Ent} {v' : γ → Value} {p' : γ → Prop} {HB' : γ → List Ent} (s : Con P f vs E H v p HB) (hp : H'.Perm (H ++ F)) (hE : ∀ w, E' w → HP H' w → E w) (g : β → γ)
    (hg : ∀ b, p b → v b = v' (g b) ∧ p' (g b) ∧ ∃ K, (HB b ++ F).Perm (HB' (g b) ++ K)) : Con P f vs E' H' v' p' HB' := fun w he hh =>
  (s.frame (F := F) ((St.init hh).perm hp) (hE w he hh)).mono (fun e w' ⟨b, h1, h2, h3⟩ => by
    obtain ⟨h4, h5, K, h6⟩ := hg b h2
    exact ⟨g b, by rw [h1, h4], h5, (h3.perm h6).cut⟩)
theorem perm_nil (l : List Ent) : l.Perm (l ++ []) := by rw [List.append_nil]
theorem perm_nrow {a b : Ent} {S G : List Ent} : (a :: b :: (S ++ G)).Perm (b :: (S ++ a :: G)) := (List.Perm.swap b a _).trans (List.Perm.cons b List.perm_middle.symm)
structure Q where
  S : CS
  M : Mo
  G : List Ent
namespace Q
def H (bc : Nat) (q : Q) : List Ent := q.S.H bc ++ q.G
structure Ok (q : Q) (B : Nat) : Prop where
  rel : Rel q.S q.M
  ok : q.M.Ok B
  nin : NIn q.G q.S.fl
end Q
theorem Q.Ok.mono {q : Q} {B C : Nat} (h : q.Ok B) (hBC : B ≤ C) (hC : C ≤ 60000) : q.Ok C := ⟨h.rel, h.ok.mono hBC hC, h.nin⟩
theorem cr_hp {bc : Nat} {S : CS} {H : List Ent} {w : World} (h : HP H w) (hs : ∀ e ∈ S.H bc, e ∈ H) : CR w bc S := CR.ofm (St.init h) hs
theorem nr_hp {G : List Ent} {S : CS} {H : List Ent} {w : World} (hN : NIn G S.fl) (h : HP H w) (hs : ∀ e ∈ G, e ∈ H) : NR w S := fun f hf => by
  rcases hN f hf with ⟨h1, h2⟩ | h1
  · rw [h1, h2]; exact rd_nil _
  · exact rowE_rd (h.holds _ (hs _ h1))
theorem nrr_hp {G : List Ent} {R : RS} {H : List Ent} {w : World} (hN : NIn G R.fl) (h : HP H w) (hs : ∀ e ∈ G, e ∈ H) : NRr w R := fun f hf => by
  rcases hN f hf with ⟨h1, h2⟩ | h1
  · rw [h1, h2]; exact rd_nil _
  · exact rowE_rd (h.holds _ (hs _ h1))
theorem NIn.more {G G' : List Ent} {fl : List FC} (h : NIn G fl) (hs : ∀ e ∈ G, e ∈ G') : NIn G' fl := fun f hf => (h f hf).imp id (hs _)

theorem qpin {bc : Nat} {q : Q} {B : Nat} (h : q.Ok B) (hB : B + 1 ≤ 60000) (t b : Int) (hb64 : i64 b) : Con Try.prog 12 [.pointer (some ⟨bc, 0, none⟩), .int .i64 t, .int .i64 b] (fun _ => True) (q.H bc) (fun q' : Q => .int .i64 (q.M.pin t b).1) (fun q' => q'.M = (q.M.pin t b).2 ∧ q'.G = q.G ∧ q'.Ok (B + 1)) (fun q' => q'.H bc) :=
  Con.pack q.G (pin_spec h.rel h.ok hB t b hb64) (List.Perm.refl _) (fun _ _ _ => trivial) (fun S' => (⟨S', (q.M.pin t b).2, q.G⟩ : Q)) (fun S' hp => ⟨rfl, ⟨rfl, rfl, ⟨hp.1, pin_ok h.ok t b hB, hp.2 q.G h.nin⟩⟩, [], perm_nil _⟩)
theorem qclaim {bc : Nat} {q : Q} {B : Nat} (h : q.Ok B) (hB : B + 1 ≤ 60000) (t : Int) : Con Try.prog 22 [.pointer (some ⟨bc, 0, none⟩), .int .i64 t] (fun _ => True) (q.H bc) (fun q' : Q => .bool (q.M.claim t).1) (fun q' => q'.M = (q.M.claim t).2 ∧ q'.G = q.G ∧ q'.Ok (B + 1)) (fun q' => q'.H bc) :=
  Con.pack q.G (claim_spec h.rel h.ok t) (List.Perm.refl _) (fun _ _ _ => trivial) (fun S' => (⟨S', (q.M.claim t).2, q.G⟩ : Q)) (fun S' hp => ⟨rfl, ⟨rfl, rfl, ⟨hp.1, claim_ok h.ok t hB, hp.2 q.G h.nin⟩⟩, [], perm_nil _⟩)
theorem qunpin {bc : Nat} {q : Q} {B : Nat} (h : q.Ok B) (b : Int) : Con Try.prog 19 [.pointer (some ⟨bc, 0, none⟩), .int .i64 b] (fun _ => True) (q.H bc) (fun q' : Q => .bool (q.M.unpin b).1) (fun q' => q'.M = (q.M.unpin b).2 ∧ q'.G = q.G ∧ q'.Ok B) (fun q' => q'.H bc) :=
  Con.pack q.G (unpin_spec h.rel h.ok b) (List.Perm.refl _) (fun _ _ _ => trivial) (fun S' => (⟨S', (q.M.unpin b).2, q.G⟩ : Q)) (fun S' hp => ⟨rfl, ⟨rfl, rfl, ⟨hp.1, unpin_ok h.ok b, hp.2 q.G h.nin⟩⟩, [], perm_nil _⟩)
theorem qgive {bc : Nat} {q : Q} {B : Nat} (h : q.Ok B) (t : Int) : Con Try.prog 24 [.pointer (some ⟨bc, 0, none⟩), .int .i64 t] (fun _ => True) (q.H bc) (fun q' : Q => .int .i64 (q.M.claims t : Int)) (fun q' => q'.M = (q.M.give t) ∧ q'.G = q.G ∧ q'.Ok B) (fun q' => q'.H bc) :=
  Con.pack q.G (give_spec h.rel h.ok t) (List.Perm.refl _) (fun _ _ _ => trivial) (fun S' => (⟨S', (q.M.give t), q.G⟩ : Q)) (fun S' hp => ⟨rfl, ⟨rfl, rfl, ⟨hp.1, give_ok h.ok t, hp.2 q.G h.nin⟩⟩, [], perm_nil _⟩)
theorem qset {bc : Nat} {q : Q} {B : Nat} (h : q.Ok B) (nv : NV) (hn : nv.l.length ≤ 1000) (b : Int) : Con Try.prog 28 [.pointer (some ⟨bc, 0, none⟩), .int .i64 b, .agg nv.c.toArray] (fun _ => True) (nrow nv :: q.H bc) (fun q' : Q => .bool (q.M.setN b nv.leaf nv.l).1) (fun q' => q'.M = (q.M.setN b nv.leaf nv.l).2 ∧ (∀ e ∈ q.G, e ∈ q'.G) ∧ q'.Ok B) (fun q' => nrow nv :: q'.H bc) :=
  Con.pack q.G (set_spec h.rel h.ok b nv (by omega)) (List.Perm.refl _) (fun _ _ _ => trivial) (fun r => (⟨r.1, (q.M.setN b nv.leaf nv.l).2, nrow r.2 :: q.G⟩ : Q)) (fun r hp => ⟨rfl, ⟨rfl, fun e he => List.mem_cons_of_mem _ he, ⟨hp.1, set_ok h.ok b nv.leaf nv.l hn, hp.2 _ (List.mem_cons_self ..) (h.nin.more (fun e he => List.mem_cons_of_mem _ he))⟩⟩, [], perm_nrow.trans (perm_nil _)⟩)
theorem qname {bc : Nat} {q : Q} {B : Nat} (h : q.Ok B) (nv : NV) (hn : nv.l.length ≤ 1000) (t b : Int) : Con Try.prog 25 [.pointer (some ⟨bc, 0, none⟩), .int .i64 t, .int .i64 b, .agg nv.c.toArray] (fun _ => True) (nrow nv :: q.H bc) (fun q' : Q => .bool (q.M.name t b nv.leaf nv.l).1) (fun q' => q'.M = (q.M.name t b nv.leaf nv.l).2 ∧ (∀ e ∈ q.G, e ∈ q'.G) ∧ q'.Ok B) (fun q' => nrow nv :: q'.H bc) :=
  Con.pack q.G (name_spec h.rel h.ok t b nv (by omega)) (List.Perm.refl _) (fun _ _ _ => trivial) (fun r => (⟨r.1, (q.M.name t b nv.leaf nv.l).2, nrow r.2 :: q.G⟩ : Q)) (fun r hp => ⟨rfl, ⟨rfl, fun e he => List.mem_cons_of_mem _ he, ⟨hp.1, name_ok h.ok t b nv.leaf nv.l hn, hp.2 _ (List.mem_cons_self ..) (h.nin.more (fun e he => List.mem_cons_of_mem _ he))⟩⟩, [], perm_nrow.trans (perm_nil _)⟩)
theorem qfill {bc : Nat} {q : Q} {B : Nat} (h : q.Ok B) (nv : NV) (hn : nv.l.length ≤ 1000) (b : Int) : Con Try.prog 14 [.pointer (some ⟨bc, 0, none⟩), .int .i64 b, .agg nv.c.toArray] (fun _ => True) (nrow nv :: q.H bc) (fun r : Q × Value => .tuple #[r.2, .bool (q.M.fill b nv.leaf nv.l).1.2]) (fun r => r.1.M = (q.M.fill b nv.leaf nv.l).2 ∧ (∀ e ∈ q.G, e ∈ r.1.G) ∧ r.1.Ok B) (fun r => rowE r.2 3 (encI .i64) (q.M.fill b nv.leaf nv.l).1.1 :: nrow nv :: r.1.H bc) :=
  Con.pack q.G (fill_spec h.rel h.ok b nv (by omega)) (List.Perm.refl _) (fun _ _ _ => trivial) (fun r => ((⟨r.1, (q.M.fill b nv.leaf nv.l).2, nrow r.2.1 :: q.G⟩ : Q), r.2.2)) (fun r hp => ⟨rfl, ⟨rfl, fun e he => List.mem_cons_of_mem _ he, ⟨hp.1, fill_ok h.ok b nv.leaf nv.l hn, hp.2 _ (List.mem_cons_self ..) (h.nin.more (fun e he => List.mem_cons_of_mem _ he))⟩⟩, [], (List.Perm.cons _ perm_nrow).trans (perm_nil _)⟩)
theorem qevict {bc : Nat} {q : Q} {B : Nat} (h : q.Ok B) : Con Try.prog 20 [.pointer (some ⟨bc, 0, none⟩)] (fun _ => True) (q.H bc) (fun r : Q × NV => evV q.M.evict.1 r.2) (fun r => r.1.M = q.M.evict.2 ∧ r.1.G = q.G ∧ r.1.Ok B ∧ ((r.2.e = sv0 ∧ r.2.l = []) ∨ nrow r.2 ∈ q.G) ∧ ∀ f, q.M.evict.1 = some f → r.2.leaf = f.leaf ∧ r.2.l = f.es) (fun r => r.1.H bc) :=
  Con.pack q.G (evict_spec h.rel h.ok) (List.Perm.refl _) (fun _ _ _ => trivial) (fun r => ((⟨r.1, q.M.evict.2, q.G⟩ : Q), r.2)) (fun r hp => ⟨rfl, ⟨rfl, rfl, ⟨hp.1, evict_ok h.ok, (hp.2.1 q.G h.nin).1⟩, (hp.2.1 q.G h.nin).2, hp.2.2⟩, [], perm_nil _⟩)
theorem qmay {bc : Nat} {q : Q} {B : Nat} (h : q.Ok B) (t : Int) : Con Try.prog 13 [.pointer (some ⟨bc, 0, none⟩), .int .i64 t] (fun _ => True) (q.H bc) (fun _ : Unit => .bool (q.M.may t)) (fun _ => True) (fun _ => q.H bc) :=
  Con.pack (q.H bc) (maygo_spec h.rel h.ok t) (List.Perm.refl _) (fun w _ hh => cr_hp hh (fun e he => List.mem_append_left _ he)) id (fun b hp => ⟨rfl, hp, [], perm_nil _⟩)
theorem qfree {bc : Nat} {q : Q} {B : Nat} (h : q.Ok B) : Con Try.prog 18 [.pointer (some ⟨bc, 0, none⟩)] (fun _ => True) (q.H bc) (fun _ : Unit => .int .i64 (q.M.free : Int)) (fun _ => True) (fun _ => q.H bc) :=
  Con.pack (q.H bc) (freen_spec h.rel h.ok) (List.Perm.refl _) (fun w _ hh => cr_hp hh (fun e he => List.mem_append_left _ he)) id (fun b hp => ⟨rfl, hp, [], perm_nil _⟩)
theorem qline {bc : Nat} {q : Q} {B : Nat} (h : q.Ok B) : Con Try.prog 23 [.pointer (some ⟨bc, 0, none⟩)] (fun _ => True) (q.H bc) (fun v : Value => v) (fun _ => True) (fun v => rowE v 3 (encI .i64) (q.M.line.map Prod.fst) :: q.H bc) :=
  Con.pack (q.H bc) (line_spec h.rel h.ok) (List.Perm.refl _) (fun w _ hh => cr_hp hh (fun e he => List.mem_append_left _ he)) id (fun b hp => ⟨rfl, hp, [], perm_nil _⟩)
theorem qnode {bc : Nat} {q : Q} {B : Nat} (h : q.Ok B) (b : Int) : Con Try.prog 32 [.pointer (some ⟨bc, 0, none⟩), .int .i64 b] (fun _ => True) (q.H bc) (fun s : Sv => .tuple #[.agg (⟨(q.M.node b).1.1, s, (q.M.node b).1.2⟩ : NV).c.toArray, .bool (q.M.node b).2]) (fun _ => True) (fun s => rowE s.v 121 En.enc (q.M.node b).1.2 :: q.H bc) :=
  Con.pack (q.H bc) (node_spec h.rel h.ok b) (List.Perm.refl _) (fun w _ hh => ⟨cr_hp hh (fun e he => List.mem_append_left _ he), nr_hp h.nin hh (fun e he => List.mem_append_right _ he)⟩) id (fun b hp => ⟨rfl, hp, [], perm_nil _⟩)
theorem qframes {bc : Nat} {q : Q} {B : Nat} (h : q.Ok B) : Con Try.prog 16 [.pointer (some ⟨bc, 0, none⟩)] (fun _ => True) (q.H bc) (fun b : Value × List FC × List Ent => b.1) (fun b => b.2.1.map vw = q.M.fr ∧ ∀ f ∈ b.2.1, nrow f.nv ∈ b.2.2) (fun b => rowE b.1 44 FC.encA b.2.1 :: (q.H bc ++ b.2.2)) :=
  Con.pack (q.H bc) (frames_spec h.rel h.ok) (List.Perm.refl _) (fun w _ hh => ⟨cr_hp hh (fun e he => List.mem_append_left _ he), nr_hp h.nin hh (fun e he => List.mem_append_right _ he)⟩) id (fun b hp => ⟨rfl, hp, [], (List.Perm.cons _ List.perm_append_comm).trans (perm_nil _)⟩)
theorem qnew (n : Nat) (h1n : 1 ≤ n) (hn : n ≤ 64) : Con Try.prog 9 [.int .i64 (n : Int)] (fun _ => True) ([]) (fun r : Nat × Q => .tuple #[.pointer (some ⟨r.1, 0, none⟩), .int .i64 0]) (fun r => r.2.M = mo0 n ∧ r.2.G = [] ∧ r.2.Ok 0) (fun r => r.2.H r.1) :=
  Con.pack [] (new_spec n h1n hn) (List.Perm.refl _) (fun _ _ _ => trivial) (fun r => (r.1, (⟨r.2, mo0 n, []⟩ : Q))) (fun r hp => ⟨rfl, ⟨rfl, rfl, ⟨hp.1, mo0_ok h1n hn, hp.2 _⟩⟩, [], perm_nil _⟩)
theorem e_callH0 {P : Program} {n : Nat} {L : Env} {o : Oper} {Q : Exit → Act → World → Prop} {K : Act → World → Prop} {w0 : World} {D : List Nat} {β : Type} {v : β → Value} {p : β → Prop} {E : World → Prop} {HA : List Ent} {HB : β → List Ent} {f : FuncId} {xs : List Operand} {ts : Array TypeId} {vs : List Value} (pre : List Ent) (s : Con P f vs E HA v p HB) (ho : o.op = .call ⟨.value (.func f), xs.toArray, ts⟩) (hd : o.dst = none)
    (hc : ∀ us w, (callFunc f us).run P w = .ok (.enter f us) w) (hv : evs L xs = some vs) (hE : ∀ w, St w0 D (pre ++ HA) w → E w) (h : ∀ b, p b → Pre n L (St w0 D (pre ++ HB b)) K) : EOp P n L (St w0 D (pre ++ HA)) o Q K :=
  e_call0 ho hd hc hv (fun w x => (s.frame (F := pre) (x.perm List.perm_append_comm) (hE w x)).mono (fun e w' ⟨b, he, hp, h'⟩ => ⟨b, he, hp, h'.perm List.perm_append_comm⟩)) h
theorem qframes0 {bc : Nat} {q : Q} {B : Nat} (h : q.Ok B) : Con Try.prog 16 [.pointer (some ⟨bc, 0, none⟩)] (fun _ => True) (q.H bc) (fun b : Value × List FC => b.1) (fun b => b.2.map vw = q.M.fr) (fun b => rowE b.1 44 FC.encA b.2 :: q.H bc) :=
  Con.pack (q.H bc) (frames_spec h.rel h.ok) (List.Perm.refl _) (fun w _ hh => ⟨cr_hp hh (fun e he => List.mem_append_left _ he), nr_hp h.nin hh (fun e he => List.mem_append_right _ he)⟩) (fun b => (b.1, b.2.1)) (fun b hp => ⟨rfl, hp.1, b.2.2, List.Perm.cons _ List.perm_append_comm⟩)
theorem qframes2 {bc : Nat} {q : Q} {B : Nat} (h : q.Ok B) : Con Try.prog 16 [.pointer (some ⟨bc, 0, none⟩)] (fun _ => True) (q.H bc) (fun b : Value × List FC × Q => b.1) (fun b => b.2.1.map vw = q.M.fr ∧ (∀ f ∈ b.2.1, nrow f.nv ∈ b.2.2.G) ∧ b.2.2.M = q.M ∧ b.2.2.Ok B) (fun b => rowE b.1 44 FC.encA b.2.1 :: b.2.2.H bc) :=
  Con.pack (q.H bc) (frames_spec h.rel h.ok) (List.Perm.refl _) (fun w _ hh => ⟨cr_hp hh (fun e he => List.mem_append_left _ he), nr_hp h.nin hh (fun e he => List.mem_append_right _ he)⟩) (fun b => (b.1, b.2.1, (⟨q.S, q.M, q.G ++ b.2.2⟩ : Q))) (fun b hp => ⟨rfl, ⟨hp.1, fun f hf => List.mem_append_right _ (hp.2 f hf), rfl, ⟨h.rel, h.ok, h.nin.more (fun e he => List.mem_append_left _ he)⟩⟩, [], (List.Perm.cons _ (List.perm_append_comm.trans (by show ((q.S.H bc ++ q.G) ++ b.2.2).Perm (q.S.H bc ++ (q.G ++ b.2.2)); rw [List.append_assoc]))).trans (perm_nil _)⟩)
end Go.Proofs.Ytpfbagkjhchojaa
