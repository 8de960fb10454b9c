/-
  Shared texts (X3).
-/
import Derived.Test.YtpaabengkidefaaGreatX2
namespace Go.SX

theorem binds_eq (e : Edge) : Region.binds .any e = binds e := by
  unfold Region.binds binds
  cases e.ground <;> rfl

theorem orEdges_spec {acc : List Nat} : ∀ {l : List Edge} {m : Nat}, orEdges acc l = some m →
    (∀ e ∈ l, binds e = true → e.on < acc.length) ∧ ∀ j, m.testBit j = true → ∃ e ∈ l, binds e = true ∧ (j = e.on ∨ ∃ me, acc[e.on]? = some me ∧ me.testBit j = true)
  | [], m, h => by
    have h' : some 0 = some m := h
    injection h' with h'; subst h'
    simp
  | e :: l, m, h => by
    have h' : bi (binds e) (ob (orEdges acc l) fun s => ob (nth acc e.on) fun m => some (Nat.lor s (Nat.lor (Nat.pow 2 e.on) m))) (orEdges acc l) = some m := h
    cases hb : binds e with
    | false =>
      rw [hb] at h'
      obtain ⟨h1, h2⟩ := orEdges_spec h'
      refine ⟨fun x hx hbx => ?_, fun j hj => ?_⟩
      · rcases List.mem_cons.1 hx with rfl | hx
        · rw [hb] at hbx; cases hbx
        · exact h1 x hx hbx
      · obtain ⟨x, hx, r⟩ := h2 j hj
        exact ⟨x, List.mem_cons_of_mem _ hx, r⟩
    | true =>
      rw [hb] at h'
      obtain ⟨s, g1, h'⟩ := ob_inv h'
      obtain ⟨me, g2, h'⟩ := ob_inv h'
      injection h' with h'; subst h'
      rw [nth_eq] at g2
      obtain ⟨h1, h2⟩ := orEdges_spec g1
      refine ⟨fun x hx hbx => ?_, fun j hj => ?_⟩
      · rcases List.mem_cons.1 hx with rfl | hx
        · exact (List.getElem?_eq_some_iff.1 g2).1
        · exact h1 x hx hbx
      · have hj' : (s ||| ((2 ^ e.on) ||| me)).testBit j = true := hj
        rw [Nat.testBit_or, Nat.testBit_or, Bool.or_eq_true, Bool.or_eq_true] at hj'
        rcases hj' with hj' | hj' | hj'
        · obtain ⟨x, hx, r⟩ := h2 j hj'
          exact ⟨x, List.mem_cons_of_mem _ hx, r⟩
        · rw [Nat.testBit_two_pow] at hj'
          have h3 : e.on = j := by simpa using hj'
          exact ⟨e, by simp, hb, .inl h3.symm⟩
        · exact ⟨e, by simp, hb, .inr ⟨me, g2, hj'⟩⟩

theorem masks_spec : ∀ {l : List Oper} {acc ms : List Nat}, masks l acc = some ms →
    (∃ r, ms = acc ++ r ∧ r.length = l.length) ∧ ∀ i o, l[i]? = some o → ∃ m, ms[acc.length + i]? = some m ∧ orEdges (ms.take (acc.length + i)) o.after.toList = some m
  | [], acc, ms, h => by
    have h' : some acc = some ms := h
    injection h' with h'; subst h'
    exact ⟨⟨[], by simp, rfl⟩, fun i o hi => by simp at hi⟩
  | o :: l, acc, ms, h => by
    have h' : ob (orEdges acc o.after.toList) (fun m => masks l (app acc [m])) = some ms := h
    obtain ⟨m, h1, h2⟩ := ob_inv h'
    rw [app_eq] at h2
    obtain ⟨⟨r, hr, hl⟩, hs⟩ := masks_spec h2
    refine ⟨⟨m :: r, by rw [hr]; simp, by simp [hl]⟩, fun i x hi => ?_⟩
    cases i with
    | zero =>
      simp at hi; subst hi
      refine ⟨m, by rw [hr]; simp, ?_⟩
      rw [hr]
      have : ((acc ++ [m]) ++ r).take (acc.length + 0) = acc := by simp
      rw [this]; exact h1
    | succ i =>
      obtain ⟨m', g1, g2⟩ := hs i x (by simpa using hi)
      have e : (acc ++ [m]).length + i = acc.length + (i + 1) := by simp; omega
      rw [e] at g1 g2
      exact ⟨m', g1, g2⟩

/-- What stands ahead by the edges' closure. -/
theorem mask_closed {ops : Array Oper} {ms : List Nat} (hm : masks ops.toList [] = some ms) (D : Nat → Prop)
    (hD : ∀ i o, ops[i]? = some o → D i → ∀ e ∈ o.after, Region.binds .any e = true → D e.on) :
    ∀ (i : Nat) (o : Oper) (m : Nat), ops[i]? = some o → ms[i]? = some m → (∀ e ∈ o.after, Region.binds .any e = true → D e.on) → ∀ j, m.testBit j = true → D j := by
  intro i
  induction i using Nat.strongRecOn with
  | _ i ih =>
    intro o m ho hmi hr j hj
    obtain ⟨_, hs⟩ := masks_spec hm
    obtain ⟨m', g1, g2⟩ := hs i o (by simpa using ho)
    simp only [List.length_nil, Nat.zero_add] at g1 g2
    rw [hmi] at g1; injection g1 with g1; subst g1
    obtain ⟨h1, h2⟩ := orEdges_spec g2
    obtain ⟨e, he, hb, hcase⟩ := h2 j hj
    have heo : D e.on := hr e (by simpa using he) (by rw [binds_eq]; exact hb)
    rcases hcase with rfl | ⟨me, hme, hbit⟩
    · exact heo
    · have hlt := h1 e he hb
      rw [List.length_take] at hlt
      have hlt' : e.on < i := by omega
      rw [List.getElem?_take, if_pos hlt'] at hme
      have hlen : ms.length = ops.size := by
        obtain ⟨⟨r, hr', hl⟩, _⟩ := masks_spec hm
        rw [hr']; simpa using hl
      have hon : e.on < ops.size := by
        have := (List.getElem?_eq_some_iff.1 hme).1
        omega
      exact ih e.on hlt' _ me (Array.getElem?_eq_getElem hon) hme (hD e.on _ (Array.getElem?_eq_getElem hon) heo) j hbit

theorem edge_lt {ops : Array Oper} {ms : List Nat} (hm : masks ops.toList [] = some ms) {i : Nat} {o : Oper} (ho : ops[i]? = some o) : ∀ e ∈ o.after, Region.binds .any e = true → e.on < i := by
  intro e he hb
  obtain ⟨_, hs⟩ := masks_spec hm
  obtain ⟨m', g1, g2⟩ := hs i o (by simpa using ho)
  obtain ⟨h1, _⟩ := orEdges_spec g2
  have := h1 e (by simpa using he) (by rw [← binds_eq]; exact hb)
  rw [List.length_take] at this
  simp at this; omega

theorem slots_spec {ops : Array Oper} {x : Oper} {mask : Nat} : ∀ {l : List Oper} {j : Nat}, slots ops x mask l j = true → ∀ i y, l[i]? = some y → mask.testBit (j + i) = true ∨ Oper.apart ops x y = true
  | [], j, _, i, y, hy => by simp at hy
  | z :: l, j, h, i, y, hy => by
    have h' : bi (Nat.testBit mask j) (slots ops x mask l (j + 1)) (bi (Oper.apart ops x z) (slots ops x mask l (j + 1)) false) = true := h
    have h2 : (mask.testBit j = true ∨ Oper.apart ops x z = true) ∧ slots ops x mask l (j + 1) = true := by
      cases hq : Nat.testBit mask j
      · rw [hq] at h'
        cases hz : Oper.apart ops x z
        · rw [hz] at h'; cases h'
        · rw [hz] at h'; exact ⟨.inr rfl, h'⟩
      · rw [hq] at h'; exact ⟨.inl rfl, h'⟩
    cases i with
    | zero => simp at hy; subst hy; exact h2.1
    | succ i =>
      have := slots_spec h2.2 i y (by simpa using hy)
      rwa [show j + 1 + i = j + (i + 1) by omega] at this

theorem slotsAll_spec {ops : Array Oper} : ∀ {l : List Oper} {ms : List Nat} {bf : List Oper}, slotsAll ops l ms bf = true → ∀ i x m, l[i]? = some x → ms[i]? = some m →
    ∀ j y, (bf ++ l)[j]? = some y → j < bf.length + i → m.testBit j = true ∨ Oper.apart ops x y = true
  | [], ms, bf, _, i, x, m, hx, _, j, y, _, _ => by simp at hx
  | z :: l, [], bf, h, i, x, m, _, hm, j, y, _, _ => by simp at hm
  | z :: l, m0 :: ms, bf, h, i, x, m, hx, hm, j, y, hy, hj => by
    have h' : bi (slots ops z m0 bf 0) (slotsAll ops l ms (app bf [z])) false = true := h
    have h2 : slots ops z m0 bf 0 = true ∧ slotsAll ops l ms (app bf [z]) = true := by
      cases hq : slots ops z m0 bf 0
      · rw [hq] at h'; cases h'
      · rw [hq] at h'; exact ⟨rfl, h'⟩
    cases i with
    | zero =>
      simp at hx hm; subst hx; subst hm
      have hjl : j < bf.length := by omega
      rw [List.getElem?_append_left hjl] at hy
      have := slots_spec h2.1 j y hy
      simpa using this
    | succ i =>
      rw [app_eq] at h2
      have := slotsAll_spec h2.2 i x m (by simpa using hx) (by simpa using hm) j y (by simpa using hy) (by simp; omega)
      exact this

theorem memb_eq : ∀ (l : List Nat) (n : Nat), memb l n = true ↔ n ∈ l
  | [], n => by show (false = true) ↔ _; simp
  | a :: l, n => by
    show bi (Nat.beq a n) true (memb l n) = true ↔ _
    rw [bi_eq, beq_dec]
    by_cases e : a = n
    · simp [e]
    · have ih := memb_eq l n
      have e' : ¬ n = a := fun h => e h.symm
      simp [e, e', ih]

theorem disj_spec : ∀ {l r : List Nat}, disj l r = true → ∀ k ∈ l, k ∉ r
  | [], r, _, k, hk => by simp at hk
  | a :: l, r, h, k, hk => by
    have h' : bi (memb r a) false (disj l r) = true := h
    have h2 : memb r a = false ∧ disj l r = true := by
      cases hq : memb r a
      · rw [hq] at h'; exact ⟨rfl, h'⟩
      · rw [hq] at h'; cases h'
    rcases List.mem_cons.1 hk with rfl | hk
    · intro hr
      have := (memb_eq r k).2 hr
      rw [h2.1] at this; cases this
    · exact disj_spec h2.2 k hk

theorem outside_spec {a b : Nat} : ∀ {l : List Nat}, outside a b l = true → ∀ k ∈ l, ¬ (a ≤ k ∧ k < b)
  | [], _, k, hk => by simp at hk
  | x :: l, h, k, hk => by
    have h' : bi (Nat.ble (x + 1) a) (outside a b l) (bi (Nat.ble b x) (outside a b l) false) = true := h
    have h2 : ¬ (a ≤ x ∧ x < b) ∧ outside a b l = true := by
      cases hq : Nat.ble (x + 1) a
      · rw [hq] at h'
        cases hz : Nat.ble b x
        · rw [hz] at h'; cases h'
        · rw [hz] at h'
          have := ble_inv hz
          exact ⟨by omega, h'⟩
      · rw [hq] at h'
        have := ble_inv hq
        exact ⟨by omega, h'⟩
    rcases List.mem_cons.1 hk with rfl | hk
    · exact h2.1
    · exact outside_spec h2.2 k hk

theorem clear_spec {f : En → Bool} {mask : Nat} : ∀ {l : List En}, clear f mask l = true → ∀ e ∈ l, mask.testBit e.i = false → f e = true
  | [], _, e, he, _ => by simp at he
  | x :: l, h, e, he, hb => by
    have h' : bi (Nat.testBit mask x.i) (clear f mask l) (bi (f x) (clear f mask l) false) = true := h
    have h2 : (mask.testBit x.i = true ∨ f x = true) ∧ clear f mask l = true := by
      cases hq : Nat.testBit mask x.i
      · rw [hq] at h'
        cases hz : f x
        · rw [hz] at h'; cases h'
        · rw [hz] at h'; exact ⟨.inr rfl, h'⟩
      · rw [hq] at h'; exact ⟨.inl rfl, h'⟩
    rcases List.mem_cons.1 he with rfl | he
    · rcases h2.1 with h3 | h3
      · rw [hb] at h3; cases h3
      · exact h3
    · exact clear_spec h2.2 e he hb

theorem nilB_iff {α : Type} (l : List α) : nilB l = true ↔ l = [] := by
  cases l with
  | nil => show (true = true) ↔ _; simp
  | cons a l => show (false = true) ↔ _; simp

theorem clashR_spec {rd : Option (List Nat)} {e : En} (h : clashR rd e = true) : ∀ k, inR rd k → k ∉ e.w ∧ ¬ (e.a ≤ k ∧ k < e.b) := by
  cases rd with
  | none => cases h
  | some l =>
    have h' : bi (disj l e.w) (outside e.a e.b l) false = true := h
    have h2 : disj l e.w = true ∧ outside e.a e.b l = true := by
      cases hq : disj l e.w
      · rw [hq] at h'; cases h'
      · rw [hq] at h'; exact ⟨rfl, h'⟩
    exact fun k hk => ⟨disj_spec h2.1 k hk, outside_spec h2.2 k hk⟩

theorem clashW_spec {w : List Nat} {e : En} (h : clashW w e = true) : ∀ k ∈ w, ¬ inR e.rd k := by
  unfold clashW at h
  cases hr : e.rd with
  | none =>
    rw [hr] at h
    have h' : nilB w = true := h
    rw [nilB_iff] at h'
    subst h'
    intro k hk; simp at hk
  | some l =>
    rw [hr] at h
    exact fun k hk => disj_spec (l := w) (r := l) h k hk

theorem hidden_spec {mask : Nat} : ∀ {l : List En} {r : List Nat}, hidden mask l = some r →
    (∀ e ∈ l, mask.testBit e.i = false → (∀ k ∈ e.w, k ∈ r) ∧ ∀ k, e.a ≤ k → k < e.b → k ∈ r) ∧ ∀ k ∈ r, ∃ e ∈ l, k ∈ e.w ∨ (k = e.a ∧ e.a < e.b)
  | [], r, h => by
    have h' : some [] = some r := h
    injection h' with h'; subst h'
    simp
  | x :: l, r, h => by
    have h' : ob (hidden mask l) (fun r => bi (Nat.testBit mask x.i) (some r) (bi (Nat.beq x.a x.b) (some (app x.w r)) (bi (Nat.beq (x.a + 1) x.b) (some (x.a :: app x.w r)) none))) = some r := h
    obtain ⟨q, h1, h2⟩ := ob_inv h'
    obtain ⟨g1, g2⟩ := hidden_spec h1
    cases hq : Nat.testBit mask x.i with
    | true =>
      rw [hq] at h2
      have h2' : some q = some r := h2
      injection h2' with h2'; subst h2'
      refine ⟨fun e he hb => ?_, fun k hk => ?_⟩
      · rcases List.mem_cons.1 he with rfl | he
        · rw [hq] at hb; cases hb
        · exact g1 e he hb
      · obtain ⟨e, he, r⟩ := g2 k hk
        exact ⟨e, List.mem_cons_of_mem _ he, r⟩
    | false =>
      rw [hq] at h2
      rw [app_eq] at h2
      cases ha : Nat.beq x.a x.b with
      | true =>
        rw [ha] at h2
        have h2' : some (x.w ++ q) = some r := h2
        injection h2' with h2'; subst h2'
        have hab := beq_inv ha
        refine ⟨fun e he hb => ?_, fun k hk => ?_⟩
        · rcases List.mem_cons.1 he with rfl | he
          · exact ⟨fun k hk => by simp [hk], fun k k1 k2 => by omega⟩
          · obtain ⟨c1, c2⟩ := g1 e he hb
            exact ⟨fun k hk => by simp [c1 k hk], fun k k1 k2 => by simp [c2 k k1 k2]⟩
        · rcases List.mem_append.1 hk with hk | hk
          · exact ⟨x, by simp, .inl hk⟩
          · obtain ⟨e, he, r⟩ := g2 k hk
            exact ⟨e, List.mem_cons_of_mem _ he, r⟩
      | false =>
        rw [ha] at h2
        obtain ⟨hb1, h2⟩ := bi_inv (c := Nat.beq (x.a + 1) x.b) h2
        injection h2 with h2; subst h2
        have hab := beq_inv hb1
        refine ⟨fun e he hb => ?_, fun k hk => ?_⟩
        · rcases List.mem_cons.1 he with rfl | he
          · exact ⟨fun k hk => by simp [hk], fun k k1 k2 => by have : k = e.a := by omega
                                                               simp [this]⟩
          · obtain ⟨c1, c2⟩ := g1 e he hb
            exact ⟨fun k hk => by simp [c1 k hk], fun k k1 k2 => by simp [c2 k k1 k2]⟩
        · rcases List.mem_cons.1 hk with rfl | hk
          · exact ⟨x, by simp, .inr ⟨rfl, by omega⟩⟩
          · rcases List.mem_append.1 hk with hk | hk
            · exact ⟨x, by simp, .inl hk⟩
            · obtain ⟨e, he, r⟩ := g2 k hk
              exact ⟨e, List.mem_cons_of_mem _ he, r⟩

theorem delAll_get {m : T Blk} : ∀ {l : List Nat}, (∀ k ∈ l, k ≤ 8388608) → ∀ k, (delAll l m).get k = if k ∈ l then none else m.get k
  | [], _, k => by show m.get k = _; simp
  | a :: l, h, k => by
    show ((delAll l m).set a none).get k = _
    rw [get_set _ _ _ _ (h a (by simp)), delAll_get (fun x hx => h x (by simp [hx]))]
    by_cases e : k = a
    · simp [e]
    · simp [e]

theorem restore_get {m0 m : T Blk} : ∀ {l : List Nat}, (∀ k ∈ l, k ≤ 8388608) → ∀ k, (restore l m0 m).get k = if k ∈ l then m0.get k else m.get k
  | [], _, k => by show m.get k = _; simp
  | a :: l, h, k => by
    show ((restore l m0 m).set a (m0.get a)).get k = _
    rw [get_set _ _ _ _ (h a (by simp)), restore_get (fun x hx => h x (by simp [hx]))]
    by_cases e : k = a
    · subst e; simp
    · simp [e]

end Go.SX

namespace Go.SX

/-- What an operation of a region did. -/
structure Dat where
  ex : Bool
  r : R
  sti : St

def WOk (s : SA) : Prop := ∀ e ∈ s.ew, (∀ k ∈ e.w, k < s.st.nb) ∧ e.b ≤ s.st.nb

structure StepD (P : Program) (call : CallFn) (lo : Nat) (all : List Oper) (o : Oper) (m i : Nat) (s s' : SA) (d : Dat) : Prop where
  want : want s.fr all o.guard = some d.ex
  skip : d.ex = false → s'.fr = setD s.fr o.dst (.tup []) ∧ s'.st = s.st ∧ s'.w = s.w
  ev : d.ex = true → evOp o.op P call (opnd s.fr) d.sti = some d.r
  stok : d.ex = true → StOk d.sti ∧ d.sti.nb = s.st.nb ∧ d.sti.nt = s.st.nt
  sub : d.ex = true → ∀ k b, d.sti.mem.get k = some b → s.st.mem.get k = some b
  res : d.ex = true → s'.fr = setD s.fr o.dst d.r.v ∧ s'.w = below lo d.r.w s.w ∧ s'.st.nb = d.r.st.nb ∧ s'.st.nt = d.r.st.nt
  new : d.ex = true → ∀ k, (k ∈ d.r.w ∨ s.st.nb ≤ k) → s'.st.mem.get k = d.r.st.mem.get k
  old : d.ex = true → ∀ k, k ∉ d.r.w → k < s.st.nb → s'.st.mem.get k = s.st.mem.get k
  rd : d.ex = true → ∀ e ∈ s.ew, m.testBit e.i = false → ∀ k, inR d.r.rd k → (∃ b, d.sti.mem.get k = some b) → k ∉ e.w ∧ ¬ (e.a ≤ k ∧ k < e.b)
  wr : d.ex = true → ∀ e ∈ s.es, m.testBit e.i = false → ∀ k ∈ d.r.w, ¬ inR e.rd k
  noteR : d.ex = true → (∃ k, inR d.r.rd k) → ∃ e ∈ s'.es, e.i = i ∧ ∀ k, inR d.r.rd k → inR e.rd k
  noteW : d.ex = true → (∃ k, k ∈ d.r.w ∨ (s.st.nb ≤ k ∧ k < d.r.st.nb)) → ∃ e ∈ s'.ew, e.i = i ∧ e.w = d.r.w ∧ e.a = s.st.nb ∧ e.b = d.r.st.nb
  es : ∀ e ∈ s.es, e ∈ s'.es
  ew : ∀ e ∈ s.ew, e ∈ s'.ew
  eff : d.ex = true → Eff d.sti d.r
  ok : StOk s'.st
  wok : WOk s'

section
variable {P : Program} {K : Toks} {call : CallFn} {lo N : Nat}

theorem noteW_mem {i nb : Nat} {rd : Option (List Nat)} {r : R} {ew : List En} : (∀ e ∈ ew, e ∈ noteW i nb rd r ew) ∧ (∀ e ∈ noteW i nb rd r ew, e ∈ ew ∨ e = ⟨i, rd, r.w, nb, r.st.nb⟩) ∧
    ((∃ k, k ∈ r.w ∨ (nb ≤ k ∧ k < r.st.nb)) → (⟨i, rd, r.w, nb, r.st.nb⟩ : En) ∈ noteW i nb rd r ew) := by
  unfold noteW
  cases h1 : nilB r.w with
  | false =>
    show (∀ e ∈ ew, e ∈ (⟨i, rd, r.w, nb, r.st.nb⟩ : En) :: ew) ∧ _ ∧ (_ → _ ∈ (⟨i, rd, r.w, nb, r.st.nb⟩ : En) :: ew)
    exact ⟨fun e he => List.mem_cons_of_mem _ he, fun e he => (List.mem_cons.1 he).symm, fun _ => by simp⟩
  | true =>
    rw [nilB_iff] at h1
    cases h2 : Nat.beq r.st.nb nb with
    | false => exact ⟨fun e he => List.mem_cons_of_mem _ he, fun e he => (List.mem_cons.1 he).symm, fun _ => List.mem_cons_self⟩
    | true =>
      have := beq_inv h2
      refine ⟨fun e he => he, fun e he => .inl he, fun ⟨k, hk⟩ => ?_⟩
      rcases hk with hk | hk
      · rw [h1] at hk; simp at hk
      · omega

theorem clearW {_b : Bool} {w : List Nat} {m : Nat} {es : List En} (h : bi (nilB w) true (clear (clashW w) m es) = true) : ∀ e ∈ es, m.testBit e.i = false → ∀ k ∈ w, ¬ inR e.rd k := by
  cases hn : nilB w with
  | true =>
    rw [nilB_iff] at hn; subst hn
    intro e _ _ k hk; simp at hk
  | false =>
    rw [hn] at h
    exact fun e he hb => clashW_spec (clear_spec h e he hb)

theorem anyStep_inv (hcall : CallOk P K call) {all : List Oper} {o : Oper} {m i : Nat} {s s' : SA} (h : anyStep P call lo all o m i s = some s') (hst : StOk s.st) (hw : WOk s) :
    ∃ d, StepD P call lo all o m i s s' d := by
  obtain ⟨b, h1, h⟩ := ob_inv h
  cases b with
  | false =>
    have h' : some (⟨s.es, s.ew, setD s.fr o.dst (.tup []), s.st, s.w⟩ : SA) = some s' := h
    injection h' with h'; subst h'
    exact ⟨⟨false, ⟨.tup [], s.st, [], none⟩, s.st⟩, h1, fun _ => ⟨rfl, rfl, rfl⟩, fun e => (by cases e), fun e => (by cases e), fun e => (by cases e), fun e => (by cases e), fun e => (by cases e), fun e => (by cases e), fun e => (by cases e), fun e => (by cases e),
      fun e => (by cases e), fun e => (by cases e), fun _ he => he, fun _ he => he, fun e => (by cases e), hst, hw⟩
  | true =>
    cases hc : isCall o.op with
    | true =>
      rw [hc] at h
      obtain ⟨hd, g1, h⟩ := ob_inv h
      obtain ⟨r, g2, h⟩ := ob_inv h
      obtain ⟨g3, h⟩ := bi_inv h
      injection h with h
      obtain ⟨q1, q2⟩ := hidden_spec g1
      have hle : ∀ k ∈ hd, k ≤ 8388608 := by
        intro k hk
        obtain ⟨e, he, hk'⟩ := q2 k hk
        obtain ⟨w1, w2⟩ := hw e he
        have := hst.nb
        rcases hk' with hk' | ⟨rfl, hlt⟩
        · have := w1 k hk'; omega
        · omega
      have hsti : StOk (⟨delAll hd s.st.mem, s.st.nb, s.st.nt⟩ : St) := ⟨hst.nb, fun k hk => by
        show (delAll hd s.st.mem).get k = none
        rw [delAll_get hle]; split
        · rfl
        · exact hst.dom k hk⟩
      obtain ⟨heff, _⟩ := op_sound (K := K) hcall hsti g2
      have hget : ∀ k, (delAll hd s.st.mem).get k = if k ∈ hd then none else s.st.mem.get k := delAll_get hle
      have hget' : ∀ k, (restore hd s.st.mem r.st.mem).get k = if k ∈ hd then s.st.mem.get k else r.st.mem.get k := restore_get hle
      have hnew : ∀ k, k ∈ hd → k < s.st.nb := by
        intro k hk
        obtain ⟨e, he, hk'⟩ := q2 k hk
        obtain ⟨w1, w2⟩ := hw e he
        rcases hk' with hk' | ⟨rfl, hlt⟩
        · exact w1 k hk'
        · omega
      have hwn : ∀ k ∈ r.w, k ∉ hd := by
        intro k hk hh
        obtain ⟨_, b, hb⟩ := heff.live k hk
        have hb' : (delAll hd s.st.mem).get k = some b := hb
        rw [hget, if_pos hh] at hb'; cases hb'
      subst h
      obtain ⟨nw1, nw2, nw3⟩ := noteW_mem (i := i) (nb := s.st.nb) (rd := none) (r := r) (ew := s.ew)
      refine ⟨⟨true, r, ⟨delAll hd s.st.mem, s.st.nb, s.st.nt⟩⟩, h1, fun e => (by cases e), fun _ => g2, fun _ => ⟨hsti, rfl, rfl⟩, fun _ k b hk => ?_, fun _ => ⟨rfl, rfl, rfl, rfl⟩, fun _ k hk => ?_, fun _ k hk hlt => ?_,
        fun _ e he hb k _ hl => ?_, fun _ => clearW (_b := true) g3, fun _ _ => ⟨_, List.mem_cons_self, rfl, fun _ _ => trivial⟩, fun _ hk => ⟨_, nw3 hk, rfl, rfl, rfl, rfl⟩, fun e he => List.mem_cons_of_mem _ he, nw1, fun _ => heff, ?_, fun e he => ?_⟩
      · have hk' : (delAll hd s.st.mem).get k = some b := hk
        rw [hget] at hk'
        split at hk'
        · cases hk'
        · exact hk'
      · show (restore hd s.st.mem r.st.mem).get k = r.st.mem.get k
        rw [hget']
        rcases hk with hk | hk
        · rw [if_neg (hwn k hk)]
        · rw [if_neg (fun hh => by have := hnew k hh; omega)]
      · show (restore hd s.st.mem r.st.mem).get k = s.st.mem.get k
        rw [hget']
        by_cases hh : k ∈ hd
        · rw [if_pos hh]
        · rw [if_neg hh, heff.same k hk hlt]
          show (delAll hd s.st.mem).get k = _
          rw [hget, if_neg hh]
      · obtain ⟨c1, c2⟩ := q1 e he hb
        obtain ⟨b, hb'⟩ := hl
        have hb'' : (delAll hd s.st.mem).get k = some b := hb'
        rw [hget] at hb''
        by_cases hh : k ∈ hd
        · rw [if_pos hh] at hb''; cases hb''
        · exact ⟨fun hk => hh (c1 k hk), fun hk => hh (c2 k hk.1 hk.2)⟩
      · refine ⟨heff.ok.nb, fun k hk => ?_⟩
        show (restore hd s.st.mem r.st.mem).get k = none
        have hk' : r.st.nb ≤ k := hk
        have := heff.nb
        have h2 : s.st.nb ≤ r.st.nb := this
        rw [hget', if_neg (fun hh => by have := hnew k hh; omega)]
        exact heff.ok.dom k hk'
      · have h2 : s.st.nb ≤ r.st.nb := heff.nb
        rcases nw2 e he with he | rfl
        · obtain ⟨w1, w2⟩ := hw e he
          exact ⟨fun k hk => by have := w1 k hk; show k < r.st.nb; omega, by show e.b ≤ r.st.nb; omega⟩
        · refine ⟨fun k hk => ?_, Nat.le_refl _⟩
          have := (heff.live k hk).1
          have h3 : k < s.st.nb := this
          show k < r.st.nb; omega
    | false =>
      rw [hc] at h
      obtain ⟨r, g2, h⟩ := ob_inv h
      obtain ⟨g1, h⟩ := bi_inv h
      obtain ⟨g3, h⟩ := bi_inv h
      injection h with h
      obtain ⟨heff, _⟩ := op_sound (K := K) hcall hst g2
      subst h
      obtain ⟨nw1, nw2, nw3⟩ := noteW_mem (i := i) (nb := s.st.nb) (rd := r.rd) (r := r) (ew := s.ew)
      refine ⟨⟨true, r, s.st⟩, h1, fun e => (by cases e), fun _ => g2, fun _ => ⟨hst, rfl, rfl⟩, fun _ k b hk => hk, fun _ => ⟨rfl, rfl, rfl, rfl⟩, fun _ k _ => rfl, fun _ k hk hlt => heff.same k hk hlt,
        fun _ e he hb k hk _ => clashR_spec (clear_spec g1 e he hb) k hk, fun _ => clearW (_b := true) g3, fun _ hk => ?_, fun _ hk => ⟨_, nw3 hk, rfl, rfl, rfl, rfl⟩, fun e he => ?_, nw1, fun _ => heff, heff.ok, fun e he => ?_⟩
      · show ∃ e ∈ SX.noteR i s.st.nb r s.es, _
        unfold SX.noteR
        obtain ⟨k, hk⟩ := hk
        cases hr : r.rd with
        | none => exact ⟨_, List.mem_cons_self, rfl, fun _ _ => trivial⟩
        | some l =>
          rw [hr] at hk
          cases hn : nilB l with
          | true => rw [nilB_iff] at hn; subst hn; simp [inR] at hk
          | false =>
            refine ⟨⟨i, some l, r.w, s.st.nb, r.st.nb⟩, ?_, rfl, fun k hk => hk⟩
            show _ ∈ bi (nilB l) s.es _
            rw [hn]; exact List.mem_cons_self
      · show e ∈ SX.noteR i s.st.nb r s.es
        unfold SX.noteR
        cases hr : r.rd with
        | none => exact List.mem_cons_of_mem _ he
        | some l =>
          show e ∈ bi (nilB l) s.es _
          cases hn : nilB l with
          | true => exact he
          | false => exact List.mem_cons_of_mem _ he
      · have h2 : s.st.nb ≤ r.st.nb := heff.nb
        rcases nw2 e he with he | rfl
        · obtain ⟨w1, w2⟩ := hw e he
          exact ⟨fun k hk => by have := w1 k hk; show k < r.st.nb; omega, by show e.b ≤ r.st.nb; omega⟩
        · refine ⟨fun k hk => ?_, Nat.le_refl _⟩
          have h3 : k < s.st.nb := (heff.live k hk).1
          show k < r.st.nb; omega

/-- The states that a region goes through. -/
theorem evAny_trace (hcall : CallOk P K call) {all : List Oper} : ∀ (l : List Oper) (ms : List Nat) (i : Nat) (s s' : SA), evAny P call lo all l ms i s = some s' → StOk s.st → WOk s →
    ∃ f : Nat → SA, f 0 = s ∧ f l.length = s' ∧ ∀ j o, l[j]? = some o → ∃ m d, ms[j]? = some m ∧ StepD P call lo all o m (i + j) (f j) (f (j + 1)) d
  | [], ms, i, s, s', h, _, _ => by
    have h' : some s = some s' := h
    injection h' with h'
    exact ⟨fun _ => s, rfl, h', fun j o hj => by simp at hj⟩
  | o :: l, [], i, s, s', h, _, _ => by cases h
  | o :: l, m :: ms, i, s, s', h, hst, hw => by
    have h' : ob (anyStep P call lo all o m i s) (fun s1 => evAny P call lo all l ms (i + 1) s1) = some s' := h
    obtain ⟨s1, h1, h2⟩ := ob_inv h'
    obtain ⟨d, hd⟩ := anyStep_inv hcall h1 hst hw
    obtain ⟨f, f0, fl, fs⟩ := evAny_trace hcall l ms (i + 1) s1 s' h2 hd.ok hd.wok
    refine ⟨fun j => match j with | 0 => s | j + 1 => f j, rfl, fl, fun j x hj => ?_⟩
    cases j with
    | zero =>
      simp at hj; subst hj
      exact ⟨m, d, rfl, by show StepD P call lo all o m (i + 0) s (f 0) d; rw [f0]; exact hd⟩
    | succ j =>
      obtain ⟨m', d', g1, g2⟩ := fs j x (by simpa using hj)
      exact ⟨m', d', by simpa using g1, by rw [show i + (j + 1) = i + 1 + j by omega]; exact g2⟩

end
end Go.SX

namespace Go.SX

/-- The run of a region in the text's order. -/
structure Tr (P : Program) (call : CallFn) (lo N : Nat) (ops : Array Oper) (ms : List Nat) (f : Nat → SA) (d : Nat → Dat) : Prop where
  step : ∀ (j : Nat) (o : Oper), ops[j]? = some o → ∃ m, ms[j]? = some m ∧ StepD P call lo ops.toList o m j (f j) (f (j + 1)) (d j)
  masks : masks ops.toList [] = some ms
  slots : ∀ (i : Nat) (x : Oper) (m : Nat), ops[i]? = some x → ms[i]? = some m → ∀ (j : Nat) (y : Oper), ops[j]? = some y → j < i → m.testBit j = true ∨ Oper.apart ops x y = true
  dst : ∀ (i : Nat) (o : Oper) (t : Nat), ops[i]? = some o → o.dst = some t → t < N
  ok0 : StOk (f 0).st

/-- An operation changes what is known of a block. -/
def Mod (f : Nat → SA) (d : Nat → Dat) (i k : Nat) : Prop := (d i).ex = true ∧ (k ∈ (d i).r.w ∨ (f i).st.nb ≤ k ∧ k < (f (i + 1)).st.nb)

section
variable {P : Program} {K : Toks} {call : CallFn} {lo N : Nat} {ops : Array Oper} {ms : List Nat} {f : Nat → SA} {d : Nat → Dat}

theorem Tr.at (T : Tr P call lo N ops ms f d) {j : Nat} (hj : j < ops.size) : ∃ o m, ops[j]? = some o ∧ ms[j]? = some m ∧ StepD P call lo ops.toList o m j (f j) (f (j + 1)) (d j) := by
  obtain ⟨m, h1, h2⟩ := T.step j _ (Array.getElem?_eq_getElem hj)
  exact ⟨_, m, Array.getElem?_eq_getElem hj, h1, h2⟩

theorem Tr.ok (T : Tr P call lo N ops ms f d) : ∀ i, i ≤ ops.size → StOk (f i).st
  | 0, _ => T.ok0
  | i + 1, h => by
    obtain ⟨o, m, _, _, hs⟩ := T.at (j := i) (by omega)
    exact hs.ok

theorem StepD.nb {o : Oper} {m i : Nat} {s s' : SA} {d : Dat} (h : StepD P call lo ops.toList o m i s s' d) : s.st.nb ≤ s'.st.nb ∧ s.st.nt ≤ s'.st.nt := by
  cases he : d.ex with
  | false => obtain ⟨_, h2, _⟩ := h.skip he; rw [h2]; exact ⟨Nat.le_refl _, Nat.le_refl _⟩
  | true =>
    obtain ⟨_, _, h3, h4⟩ := h.res he
    obtain ⟨_, h5, h6⟩ := h.stok he
    have h7 := h.eff he
    rw [h3, h4, ← h5, ← h6]
    exact ⟨h7.nb, h7.nt⟩

theorem Tr.mono (T : Tr P call lo N ops ms f d) {i : Nat} : ∀ {j : Nat}, i ≤ j → j ≤ ops.size → (f i).st.nb ≤ (f j).st.nb ∧ (f i).st.nt ≤ (f j).st.nt ∧ (∀ e ∈ (f i).es, e ∈ (f j).es) ∧ (∀ e ∈ (f i).ew, e ∈ (f j).ew) := by
  intro j
  induction j with
  | zero => intro h _; have : i = 0 := by omega
            subst this; exact ⟨Nat.le_refl _, Nat.le_refl _, fun _ h => h, fun _ h => h⟩
  | succ j ih =>
    intro h hj
    by_cases e : i = j + 1
    · subst e; exact ⟨Nat.le_refl _, Nat.le_refl _, fun _ h => h, fun _ h => h⟩
    · obtain ⟨h1, h2, h3, h4⟩ := ih (by omega) (by omega)
      obtain ⟨o, m, _, _, hs⟩ := T.at (j := j) (by omega)
      obtain ⟨h5, h6⟩ := hs.nb
      exact ⟨by omega, by omega, fun e he => hs.es e (h3 e he), fun e he => hs.ew e (h4 e he)⟩

theorem Tr.wmono (T : Tr P call lo N ops ms f d) {i : Nat} : ∀ {j : Nat}, i ≤ j → j ≤ ops.size → ∀ k ∈ (f i).w, k ∈ (f j).w := by
  intro j
  induction j with
  | zero => intro h _; have : i = 0 := by omega
            subst this; exact fun _ h => h
  | succ j ih =>
    intro h hj k hk
    by_cases e : i = j + 1
    · subst e; exact hk
    · have h1 := ih (by omega) (by omega) k hk
      obtain ⟨o, m, _, _, hs⟩ := T.at (j := j) (by omega)
      cases he : (d j).ex with
      | false => obtain ⟨_, _, h3⟩ := hs.skip he; rw [h3]; exact h1
      | true => obtain ⟨_, h2, _⟩ := hs.res he; rw [h2]; exact (mem_below _ _ _ _).2 (.inr h1)

theorem Tr.wof (T : Tr P call lo N ops ms f d) {i : Nat} (hi : i < ops.size) (he : (d i).ex = true) {k : Nat} (hk : k ∈ (d i).r.w) (hlo : k < lo) : k ∈ (f ops.size).w := by
  obtain ⟨o, m, _, _, hs⟩ := T.at hi
  obtain ⟨_, h2, _⟩ := hs.res he
  refine T.wmono (i := i + 1) (by omega) (Nat.le_refl _) k ?_
  rw [h2]
  exact (mem_below _ _ _ _).2 (.inl ⟨hk, hlo⟩)

theorem Tr.keep (T : Tr P call lo N ops ms f d) {i k : Nat} (hi : i < ops.size) (h : ¬ Mod f d i k) : (f (i + 1)).st.mem.get k = (f i).st.mem.get k := by
  obtain ⟨o, m, _, _, hs⟩ := T.at hi
  cases he : (d i).ex with
  | false => obtain ⟨_, h2, _⟩ := hs.skip he; rw [h2]
  | true =>
    by_cases hk : k < (f i).st.nb
    · exact hs.old he k (fun hw => h ⟨he, .inl hw⟩) hk
    · have h1 : ¬ k < (f (i + 1)).st.nb := fun hlt => h ⟨he, .inr ⟨by omega, hlt⟩⟩
      rw [(T.ok (i + 1) (by omega)).dom k (by omega), (T.ok i (by omega)).dom k (by omega)]

theorem Tr.keeps (T : Tr P call lo N ops ms f d) {p k : Nat} : ∀ {q : Nat}, p ≤ q → q ≤ ops.size → (∀ j, p ≤ j → j < q → ¬ Mod f d j k) → (f q).st.mem.get k = (f p).st.mem.get k := by
  intro q
  induction q with
  | zero => intro h _ _; have : p = 0 := by omega
            subst this; rfl
  | succ q ih =>
    intro h hq hm
    by_cases e : p = q + 1
    · subst e; rfl
    · rw [T.keep (by omega) (hm q (by omega) (by omega)), ih (by omega) (by omega) fun j a b => hm j a (by omega)]

/-- Two positions that part the changes alike. -/
theorem Tr.same (T : Tr P call lo N ops ms f d) {L : Nat → Prop} {k p q : Nat} (hp : p ≤ ops.size) (hq : q ≤ ops.size)
    (p1 : ∀ j, j < p → Mod f d j k → L j) (p2 : ∀ j, p ≤ j → j < ops.size → Mod f d j k → ¬ L j)
    (q1 : ∀ j, j < q → Mod f d j k → L j) (q2 : ∀ j, q ≤ j → j < ops.size → Mod f d j k → ¬ L j) : (f p).st.mem.get k = (f q).st.mem.get k := by
  rcases Nat.le_total p q with h | h
  · exact (T.keeps h hq fun j a b hm => p2 j a (by omega) hm (q1 j b hm)).symm
  · exact T.keeps h hp fun j a b hm => q2 j a (by omega) hm (p1 j b hm)

theorem Tr.keepF (T : Tr P call lo N ops ms f d) (hN : N ≤ 1000000) {i t : Nat} (hi : i < ops.size) (h : ∀ o : Oper, ops[i]? = some o → o.dst ≠ some t) : (f (i + 1)).fr.get t = (f i).fr.get t := by
  obtain ⟨o, m, ho, _, hs⟩ := T.at hi
  have key : ∀ v, (setD (f i).fr o.dst v).get t = (f i).fr.get t := by
    intro v
    cases hd : o.dst with
    | none => rfl
    | some s =>
      show (SX.T.set (f i).fr s (some v)).get t = _
      have := T.dst i o s ho hd
      rw [get_set _ _ _ _ (by omega), if_neg (fun e => h o ho (by rw [hd, e]))]
  cases he : (d i).ex with
  | false => obtain ⟨h1, _⟩ := hs.skip he; rw [h1, key]
  | true => obtain ⟨h1, _⟩ := hs.res he; rw [h1, key]

theorem Tr.keepsF (T : Tr P call lo N ops ms f d) (hN : N ≤ 1000000) {p t : Nat} : ∀ {q : Nat}, p ≤ q → q ≤ ops.size → (∀ (j : Nat) (o : Oper), p ≤ j → j < q → ops[j]? = some o → o.dst ≠ some t) → (f q).fr.get t = (f p).fr.get t := by
  intro q
  induction q with
  | zero => intro h _ _; have : p = 0 := by omega
            subst this; rfl
  | succ q ih =>
    intro h hq hm
    by_cases e : p = q + 1
    · subst e; rfl
    · rw [T.keepF hN (by omega) (fun o ho => hm q o (by omega) (by omega) ho), ih (by omega) (by omega) fun j o a b => hm j o a (by omega)]

theorem Tr.sameF (T : Tr P call lo N ops ms f d) (hN : N ≤ 1000000) {L : Nat → Prop} {t p q : Nat} (hp : p ≤ ops.size) (hq : q ≤ ops.size)
    (p1 : ∀ (j : Nat) (o : Oper), j < p → ops[j]? = some o → o.dst = some t → L j) (p2 : ∀ (j : Nat) (o : Oper), p ≤ j → ops[j]? = some o → o.dst = some t → ¬ L j)
    (q1 : ∀ (j : Nat) (o : Oper), j < q → ops[j]? = some o → o.dst = some t → L j) (q2 : ∀ (j : Nat) (o : Oper), q ≤ j → ops[j]? = some o → o.dst = some t → ¬ L j) : (f p).fr.get t = (f q).fr.get t := by
  rcases Nat.le_total p q with h | h
  · exact (T.keepsF hN h hq fun j o a b ho hd => p2 j o a ho hd (q1 j o b ho hd)).symm
  · exact T.keepsF hN h hp fun j o a b ho hd => q2 j o a ho hd (p1 j o b ho hd)

/-- Operations that no edge orders do not meet. -/
theorem Tr.apartR (T : Tr P call lo N ops ms f d) {i j : Nat} {m : Nat} (hj : j < i) (hi : i < ops.size) (hm : ms[i]? = some m) (hb : m.testBit j = false) (hei : (d i).ex = true) {k : Nat}
    (hr : inR (d i).r.rd k) (hl : ∃ b, (d i).sti.mem.get k = some b) : ¬ Mod f d j k := by
  rintro ⟨hej, hk⟩
  obtain ⟨oj, mj, _, _, hsj⟩ := T.at (j := j) (by omega)
  obtain ⟨oi, mi, _, hmi, hsi⟩ := T.at hi
  rw [hm] at hmi; injection hmi with hmi; subst hmi
  obtain ⟨_, _, hnb, _⟩ := hsj.res hej
  obtain ⟨e, he, e1, e2, e3, e4⟩ := hsj.noteW hej ⟨k, by rw [← hnb]; exact hk⟩
  have he' := (T.mono (i := j + 1) (j := i) (by omega) (by omega)).2.2.2 e he
  obtain ⟨h1, h2⟩ := hsi.rd hei e he' (by rw [e1]; exact hb) k hr hl
  rcases hk with hk | hk
  · exact h1 (by rw [e2]; exact hk)
  · exact h2 (by rw [e3, e4, ← hnb]; exact hk)

theorem Tr.apartW (T : Tr P call lo N ops ms f d) {i j : Nat} {m : Nat} (hj : j < i) (hi : i < ops.size) (hm : ms[i]? = some m) (hb : m.testBit j = false) (hei : (d i).ex = true) (hej : (d j).ex = true) {k : Nat}
    (hk : k ∈ (d i).r.w) : ¬ inR (d j).r.rd k := by
  intro hr
  obtain ⟨oj, mj, _, _, hsj⟩ := T.at (j := j) (by omega)
  obtain ⟨oi, mi, _, hmi, hsi⟩ := T.at hi
  rw [hm] at hmi; injection hmi with hmi; subst hmi
  obtain ⟨e, he, e1, e2⟩ := hsj.noteR hej ⟨k, hr⟩
  have he' := (T.mono (i := j + 1) (j := i) (by omega) (by omega)).2.2.1 e he
  exact hsi.wr hei e he' (by rw [e1]; exact hb) k hk (e2 k hr)

/-- What is written was there and is read. -/
theorem Tr.wread (T : Tr P call lo N ops ms f d) {i : Nat} (hi : i < ops.size) (he : (d i).ex = true) {k : Nat} (hk : k ∈ (d i).r.w) : inR (d i).r.rd k ∧ (∃ b, (d i).sti.mem.get k = some b) ∧ k < (f i).st.nb := by
  obtain ⟨oi, mi, _, hmi, hs⟩ := T.at hi
  have heff := hs.eff he
  obtain ⟨h1, h2⟩ := heff.live k hk
  obtain ⟨_, h3, _⟩ := hs.stok he
  refine ⟨?_, h2, by omega⟩
  cases hr : (d i).r.rd with
  | none => trivial
  | some l => exact heff.rdw l hr k hk

/-- The operations that are listed are closed under the edges. -/
def Closed (ops : Array Oper) (L : Nat → Prop) : Prop := ∀ (i : Nat) (o : Oper), ops[i]? = some o → L i → ∀ e ∈ o.after, Region.binds .any e = true → L e.on

theorem Tr.back (T : Tr P call lo N ops ms f d) {L : Nat → Prop} (hL : Closed ops L) {i j m : Nat} {o : Oper} (ho : ops[i]? = some o) (hm : ms[i]? = some m) (hb : m.testBit j = true)
    (hr : ∀ e ∈ o.after, Region.binds .any e = true → L e.on) : L j := mask_closed T.masks L hL i o m ho hm hr j hb

section ready
variable {L : Nat → Prop} {i : Nat} {o : Oper}

/-- What an operation that is next reads is as in the text's order. -/
theorem Tr.reads (T : Tr P call lo N ops ms f d) (hL : Closed ops L) (ho : ops[i]? = some o) (hr : ∀ e ∈ o.after, Region.binds .any e = true → L e.on) (hn : ¬ L i) (he : (d i).ex = true) {k : Nat}
    (hk : inR (d i).r.rd k) (hl : ∃ b, (d i).sti.mem.get k = some b) : (∀ j, j < i → Mod f d j k → L j) ∧ (∀ j, i ≤ j → j < ops.size → Mod f d j k → ¬ L j) := by
  have hi : i < ops.size := (Array.getElem?_eq_some_iff.1 ho).1
  obtain ⟨oi, mi, hoi, hmi, hs⟩ := T.at hi
  refine ⟨fun j hj hm => ?_, fun j hj hjn hm hLj => ?_⟩
  · cases hb : mi.testBit j with
    | true => exact T.back hL ho hmi hb hr
    | false => exact absurd hm (T.apartR hj hi hmi hb he hk hl)
  · by_cases e : j = i
    · subst e; exact hn hLj
    · obtain ⟨oj, mj, hoj, hmj, hsj⟩ := T.at hjn
      cases hb : mj.testBit i with
      | true => exact hn (T.back hL hoj hmj hb (hL j oj hoj hLj))
      | false =>
        obtain ⟨hej, hk2⟩ := hm
        rcases hk2 with hk2 | hk2
        · exact T.apartW (by omega) hjn hmj hb hej he hk2 hk
        · obtain ⟨b, hb'⟩ := hl
          obtain ⟨hst, hnb, _⟩ := hs.stok he
          have := hst.lt hb'
          have := (T.mono (i := i) (j := j) (by omega) (by omega)).1
          omega

theorem Tr.news (T : Tr P call lo N ops ms f d) (hL : Closed ops L) (ho : ops[i]? = some o) (hn : ¬ L i) {k : Nat}
    (hk : (f i).st.nb ≤ k ∧ k < (f (i + 1)).st.nb) : (∀ j, j < i → ¬ Mod f d j k) ∧ (∀ j, i < j → j < ops.size → Mod f d j k → ¬ L j) := by
  have hi : i < ops.size := (Array.getElem?_eq_some_iff.1 ho).1
  refine ⟨fun j hj hm => ?_, fun j hj hjn hm hLj => ?_⟩
  · obtain ⟨hej, hm⟩ := hm
    rcases hm with hm | hm
    · have := (T.wread (by omega) hej hm).2.2
      have := (T.mono (i := j) (j := i) (by omega) (by omega)).1
      omega
    · have := (T.mono (i := j + 1) (j := i) (by omega) (by omega)).1
      omega
  · obtain ⟨oj, mj, hoj, hmj, hsj⟩ := T.at hjn
    cases hb : mj.testBit i with
    | true => exact hn (T.back hL hoj hmj hb (hL j oj hoj hLj))
    | false =>
      obtain ⟨hej, hm⟩ := hm
      rcases hm with hm | hm
      · obtain ⟨c1, c2, _⟩ := T.wread hjn hej hm
        refine T.apartR hj hjn hmj hb hej c1 c2 ⟨?_, .inr hk⟩
        cases hx : (d i).ex with
        | true => rfl
        | false =>
          obtain ⟨oi, mi, _, _, hs⟩ := T.at hi
          obtain ⟨_, h2, _⟩ := hs.skip hx
          rw [h2] at hk; omega
      · have := (T.mono (i := i + 1) (j := j) (by omega) (by omega)).1
        omega

theorem Tr.looks (T : Tr P call lo N ops ms f d) (hL : Closed ops L) (ho : ops[i]? = some o) (hr : ∀ e ∈ o.after, Region.binds .any e = true → L e.on) (hn : ¬ L i) {t : Nat} (ht : t ∈ o.looksAt ops) :
    (∀ (j : Nat) (p : Oper), j < i → ops[j]? = some p → p.dst = some t → L j) ∧ (∀ (j : Nat) (p : Oper), i ≤ j → ops[j]? = some p → p.dst = some t → ¬ L j) := by
  have hi : i < ops.size := (Array.getElem?_eq_some_iff.1 ho).1
  obtain ⟨oi, mi, hoi, hmi, hs⟩ := T.at hi
  refine ⟨fun j p hj hp hd => ?_, fun j p hj hp hd hLj => ?_⟩
  · rcases T.slots i o mi ho hmi j p hp hj with hb | ha
    · exact T.back hL ho hmi hb hr
    · exact absurd ht ((Oper.apart_spec ha).2.2 t hd)
  · by_cases e : j = i
    · subst e; exact hn hLj
    · have hjn : j < ops.size := (Array.getElem?_eq_some_iff.1 hp).1
      obtain ⟨oj, mj, hoj, hmj, hsj⟩ := T.at hjn
      rw [hp] at hoj; injection hoj with hoj; subst hoj
      rcases T.slots j p mj hp hmj i o ho (by omega) with hb | ha
      · exact hn (T.back hL hp hmj hb (hL j p hp hLj))
      · exact (Oper.apart_spec ha).1 t hd ht

theorem Tr.dsts (T : Tr P call lo N ops ms f d) (hL : Closed ops L) (ho : ops[i]? = some o) (hr : ∀ e ∈ o.after, Region.binds .any e = true → L e.on) (hn : ¬ L i) {t : Nat} (ht : o.dst = some t) :
    (∀ (j : Nat) (p : Oper), j < i → ops[j]? = some p → p.dst = some t → L j) ∧ (∀ (j : Nat) (p : Oper), i < j → ops[j]? = some p → p.dst = some t → ¬ L j) := by
  have hi : i < ops.size := (Array.getElem?_eq_some_iff.1 ho).1
  obtain ⟨oi, mi, hoi, hmi, hs⟩ := T.at hi
  refine ⟨fun j p hj hp hd => ?_, fun j p hj hp hd hLj => ?_⟩
  · rcases T.slots i o mi ho hmi j p hp hj with hb | ha
    · exact T.back hL ho hmi hb hr
    · exact absurd hd ((Oper.apart_spec ha).2.1 t ht)
  · have hjn : j < ops.size := (Array.getElem?_eq_some_iff.1 hp).1
    obtain ⟨oj, mj, hoj, hmj, hsj⟩ := T.at hjn
    rw [hp] at hoj; injection hoj with hoj; subst hoj
    rcases T.slots j p mj hp hmj i o ho hj with hb | ha
    · exact hn (T.back hL hp hmj hb (hL j p hp hLj))
    · exact (Oper.apart_spec ha).2.1 t hd ht

end ready
end
end Go.SX

namespace Go.SX

/-- What holds while a region is under way, its operations in any order. -/
structure RI (K : Toks) (E0 : Env) (w0 : World) (st0 : St) (ops : Array Oper) (f : Nat → SA) (d : Nat → Dat) (N : Nat) (dl : List Deferred) (L : Nat → Prop) (E : Env) (w : World) (a : Act) : Prop where
  closed : Closed ops L
  step : Step K E0 w0 E w (f ops.size).w st0.nb (f ops.size).st.nb st0.nt (f ops.size).st.nt
  mem : ∃ m : Nat → Option Blk, (∀ k, ∃ p, p ≤ ops.size ∧ (∀ j, j < p → Mod f d j k → L j) ∧ (∀ j, p ≤ j → j < ops.size → Mod f d j k → ¬ L j) ∧ m k = (f p).st.mem.get k) ∧ (∀ k b, m k = some b → BlkOk E w k b) ∧
    ∀ k k' b b' p s s', m k = some b → m k' = some b' → E.rho k = some (p, s) → E.rho k' = some (p, s') → k = k'
  tmp : ∀ t : Nat, ∃ p, p ≤ ops.size ∧ (∀ (j : Nat) (o : Oper), j < p → ops[j]? = some o → o.dst = some t → L j) ∧ (∀ (j : Nat) (o : Oper), p ≤ j → ops[j]? = some o → o.dst = some t → ¬ L j) ∧
    ∀ v, (f p).fr.get t = some v → ∃ u, a.tmps[t]? = some u ∧ RelV E v u
  free : ∀ i, i < ops.size → ¬ L i → (∀ k, (f i).st.nb ≤ k → k < (f (i + 1)).st.nb → E.rho k = none) ∧ (∀ j, (f i).st.nt ≤ j → j < (f (i + 1)).st.nt → E.sig j = none)
  size : N ≤ a.tmps.size
  defs : a.defers = dl

section
variable {P : Program} {K : Toks} {call : CallFn} {N : Nat} {ops : Array Oper} {ms : List Nat} {f : Nat → SA} {d : Nat → Dat} {E0 : Env} {w0 : World} {st0 : St} {dl : List Deferred}

open Classical in
theorem ri_step (hcall : CallOk P K call) (hN : N ≤ 1000000) (T : Tr P call st0.nb N ops ms f d) (hst0 : st0.nb ≤ (f 0).st.nb ∧ st0.nt ≤ (f 0).st.nt) {L L' : Nat → Prop} {E : Env} {w : World} {a : Act} (h : RI K E0 w0 st0 ops f d N dl L E w a)
    {i : Nat} {o : Oper} (ho : ops[i]? = some o) (hn : ¬ L i) (hr : ∀ e ∈ o.after, Region.binds .any e = true → L e.on) (hL' : ∀ j, L' j ↔ L j ∨ j = i)
    {next : Act → World → Prop} {Q : Exit → Act → World → Prop} (hnext : ∀ E' w' a', RI K E0 w0 st0 ops f d N dl L' E' w' a' → next a' w') : wpOp P ops Q i next a w := by
  have hi : i < ops.size := (Array.getElem?_eq_some_iff.1 ho).1
  obtain ⟨o', m, ho', hm, hs⟩ := T.at hi
  rw [ho] at ho'; injection ho' with ho'; subst ho'
  have hdst : ∀ t : Nat, o.dst = some t → t < N := fun t ht => T.dst i o t ho ht
  have hclosed' : Closed ops L' := by
    intro j p hp hLj e he hb
    rw [hL']
    rcases (hL' j).1 hLj with hLj | rfl
    · exact .inl (h.closed j p hp hLj e he hb)
    · rw [ho] at hp; injection hp with hp; subst hp
      exact .inl (hr e he hb)
  -- slots that the operation looks at
  have hslot : ∀ t : Nat, t ∈ o.looksAt ops → ∀ v, (f i).fr.get t = some v → ∃ u, a.tmps[t]? = some u ∧ RelV E v u := by
    intro t ht v hv
    obtain ⟨p, p1, p2, p3, p4⟩ := h.tmp t
    obtain ⟨q1, q2⟩ := T.looks h.closed ho hr hn ht
    have := T.sameF hN p1 (Nat.le_of_lt hi) p2 p3 q1 q2
    exact p4 v (by rw [this]; exact hv)
  have hwant : Region.wanted o (yielded ops a.tmps) = (d i).ex := by
    refine want_sound' (E := E) (fun q p t v hq hp ht hv => hslot t ?_ v hv) hs.want
    unfold Oper.looksAt
    rw [List.mem_append]
    right
    rw [hq]
    simp [hp, ht]
  -- the frame behind it
  have htmp : ∀ (F : Env) (v : V) (x : Value), E.le F → (f (i + 1)).fr = setD (f i).fr o.dst v → RelV F v x →
      ∀ t : Nat, ∃ p, p ≤ ops.size ∧ (∀ (j : Nat) (o : Oper), j < p → ops[j]? = some o → o.dst = some t → L' j) ∧ (∀ (j : Nat) (o : Oper), p ≤ j → ops[j]? = some o → o.dst = some t → ¬ L' j) ∧
        ∀ v, (f p).fr.get t = some v → ∃ u, (a.put o.dst x).tmps[t]? = some u ∧ RelV F v u := by
    intro F v x hle hf hx t
    by_cases ht : o.dst = some t
    · obtain ⟨q1, q2⟩ := T.dsts h.closed ho hr hn ht
      refine ⟨i + 1, hi, fun j p hj hp hd => ?_, fun j p hj hp hd => ?_, fun y hy => ?_⟩
      · rw [hL']
        by_cases e : j = i
        · exact .inr e
        · exact .inl (q1 j p (by omega) hp hd)
      · rw [hL']
        rintro (hLj | e)
        · exact q2 j p (by omega) hp hd hLj
        · omega
      · rw [hf, ht] at hy
        have hy' : (SX.T.set (f i).fr t (some v)).get t = some y := hy
        have := hdst t ht
        rw [get_set _ _ _ _ (by omega), if_pos rfl] at hy'
        injection hy' with hy'; subst hy'
        rw [ht]
        have hsz := h.size
        exact ⟨x, by simp [Act.put, Array.getElem?_setIfInBounds_self_of_lt (by omega : t < a.tmps.size)], hx⟩
    · obtain ⟨p, p1, p2, p3, p4⟩ := h.tmp t
      refine ⟨p, p1, fun j q hj hq hd => (hL' j).2 (.inl (p2 j q hj hq hd)), fun j q hj hq hd => ?_, fun y hy => ?_⟩
      · rw [hL']
        rintro (hLj | e)
        · exact p3 j q hj hq hd hLj
        · subst e
          rw [ho] at hq; injection hq with hq; subst hq
          exact ht hd
      · obtain ⟨u, h1, h2⟩ := p4 y hy
        refine ⟨u, ?_, h2.mono hle⟩
        cases hd : o.dst with
        | none => exact h1
        | some s =>
          simp only [Act.put]
          rw [Array.getElem?_setIfInBounds_ne (fun e => ht (by rw [hd, e]))]
          exact h1
  unfold wpOp
  rw [ho]
  cases hex : (d i).ex with
  | false =>
    simp only [hwant, hex, Bool.false_eq_true, if_false]
    obtain ⟨s1, s2, s3⟩ := hs.skip hex
    refine hnext E w _ ⟨hclosed', h.step, ?_, htmp E (.tup []) undef (.refl E) s1 ⟨#[], rfl, trivial⟩, fun j hj hLj => h.free j hj (fun hl => hLj ((hL' j).2 (.inl hl))), by rw [put_size]; exact h.size, by rw [put_def]; exact h.defs⟩
    obtain ⟨m0, m1, m2, m3⟩ := h.mem
    refine ⟨m0, fun k => ?_, m2, m3⟩
    obtain ⟨p, p1, p2, p3, p4⟩ := m1 k
    refine ⟨p, p1, fun j hj hmd => (hL' j).2 (.inl (p2 j hj hmd)), fun j hj hjn hmd => ?_, p4⟩
    rw [hL']
    rintro (hLj | e)
    · exact p3 j hj hjn hmd hLj
    · rw [e] at hmd
      have := hmd.1
      rw [hex] at this; cases this
  | true =>
    simp only [hwant, hex, if_true]
    left
    obtain ⟨hstok, hnb, hnt⟩ := hs.stok hex
    obtain ⟨r1, r2, r3, r4⟩ := hs.res hex
    have heff := hs.eff hex
    -- only what the operation looks at
    let ev' : Ev := fun x => if x ∈ o.op.operands.toList then opnd (f i).fr x else none
    have hev : evOp o.op P call ev' (d i).sti = some (d i).r := by
      rw [← hs.ev hex]
      exact evOp_congr _ fun x hx => by show (if x ∈ o.op.operands.toList then opnd (f i).fr x else none) = _; rw [if_pos hx]
    have hevok : EvOk E ev' a := by
      intro x v hx
      have hx' : (if x ∈ o.op.operands.toList then opnd (f i).fr x else none) = some v := hx
      split at hx'
      · rename_i hmem
        cases x with
        | tmp t =>
          obtain ⟨u, h1, h2⟩ := hslot t (by
            unfold Oper.looksAt
            rw [List.mem_append]
            left
            rw [List.mem_filterMap]
            exact ⟨.tmp t, hmem, rfl⟩) v hx'
          have : a.eval (.tmp t) = u := by simp [Act.eval, h1]
          rw [this]; exact h2
        | const c =>
          have h' : ob (ofConst c) (fun s => some (V.s s)) = some v := hx'
          obtain ⟨s, h1, h'⟩ := ob_inv h'
          injection h' with h'; subst h'; exact ofConst_rel E h1
        | func g =>
          have h' : some (V.s (.c (.fn g []))) = some v := hx'
          injection h' with h'; subst h'; exact ⟨#[], rfl, trivial⟩
        | global g => cases hx'
      · cases hx'
    obtain ⟨_, hw⟩ := op_sound (K := K) hcall hstok hev
    obtain ⟨m0, m1, m2, m3⟩ := h.mem
    -- what it reads is there
    have hread : ∀ k b, inR (d i).r.rd k → (d i).sti.mem.get k = some b → m0 k = some b := by
      intro k b hk hb
      obtain ⟨p, p1, p2, p3, p4⟩ := m1 k
      obtain ⟨q1, q2⟩ := T.reads h.closed ho hr hn hex hk ⟨b, hb⟩
      rw [p4, T.same p1 (Nat.le_of_lt hi) p2 p3 q1 q2]
      exact hs.sub hex k b hb
    have hpre : Pre K E w (d i).sti (d i).r := by
      refine ⟨h.step.gi, fun k b hk hb => m2 k b (hread k b hk hb), fun k k' b b' p s s' hk hk' hb hb' => m3 k k' b b' p s s' (hread k b hk hb) (hread k' b' hk' hb'), fun k h1 h2 => ?_, fun j h1 h2 => ?_⟩
      · exact (h.free i hi hn).1 k (by omega) (by omega)
      · exact (h.free i hi hn).2 j (by omega) (by omega)
    refine hw E w a hevok hpre _ _ fun v F u hout => ?_
    have hwl : ∀ k ∈ (d i).r.w, ∃ b, m0 k = some b ∧ k < (f i).st.nb := by
      intro k hk
      obtain ⟨c1, ⟨b, c2⟩, c3⟩ := T.wread hi hex hk
      exact ⟨b, hread k b c1 c2, c3⟩
    have hrho : ∀ k, ¬ ((f i).st.nb ≤ k ∧ k < (f (i + 1)).st.nb) → F.rho k = E.rho k := by
      intro k hk
      by_cases e : F.rho k = E.rho k
      · exact e
      · have := hout.step.newB k e
        omega
    have hsig : ∀ j, ¬ ((f i).st.nt ≤ j ∧ j < (f (i + 1)).st.nt) → F.sig j = E.sig j := by
      intro k hk
      by_cases e : F.sig k = E.sig k
      · exact e
      · have := hout.step.newT k e
        omega
    have hbase := T.mono (i := 0) (j := i) (by omega) (by omega)
    have hlast := T.mono (i := i + 1) (j := ops.size) (by omega) (Nat.le_refl _)
    have hall := (T.mono (i := i) (j := ops.size) (by omega) (Nat.le_refl _)).1
    refine hnext F u _ ⟨hclosed', ⟨h.step.le.trans hout.step.le, fun k hk => ?_, fun j hj => ?_, hout.step.os.trans h.step.os, hout.step.tape.trans h.step.tape, hout.step.output.trans h.step.output, Nat.le_trans h.step.size hout.step.size,
      fun b hb hW => ?_, fun k p s h1 h2 h3 => ?_, hout.step.gi⟩, ?_, htmp F (d i).r.v v hout.step.le r1 hout.val, fun j hj hLj => ?_, by rw [put_size]; exact h.size, by rw [put_def]; exact h.defs⟩
    · by_cases e : F.rho k = E.rho k
      · exact h.step.newB k (by rw [← e]; exact hk)
      · have := hout.step.newB k e
        have := hst0.1
        omega
    · by_cases e : F.sig j = E.sig j
      · exact h.step.newT j (by rw [← e]; exact hj)
      · have := hout.step.newT j e
        have := hst0.2
        omega
    · have hb1 := h.step.kept b hb hW
      rw [← hb1]
      refine hout.step.kept b (by have := h.step.size; omega) fun k hk s hp => ?_
      obtain ⟨b0, _, hkl⟩ := hwl k hk
      by_cases hlo : k < st0.nb
      · by_cases e : E.rho k = E0.rho k
        · exact hW k (T.wof hi hex hk hlo) s (by rw [← e]; exact hp)
        · have := (h.step.newB k e).1; omega
      · rcases h.step.fresh k b s (by omega) (by omega) hp with hf | ⟨k0, hk0, s0, hp0⟩
        · omega
        · exact hW k0 hk0 s0 hp0
    · by_cases hnew : (f i).st.nb ≤ k ∧ k < (f (i + 1)).st.nb
      · rcases hout.step.fresh k p s (by omega) (by omega) h3 with hf | ⟨k0, hk0, s0, hp0⟩
        · exact .inl (Nat.le_trans h.step.size hf)
        · obtain ⟨b0, _, hkl⟩ := hwl k0 hk0
          by_cases hlo : k0 < st0.nb
          · by_cases e : E.rho k0 = E0.rho k0
            · exact .inr ⟨k0, T.wof hi hex hk0 hlo, s0, by rw [← e]; exact hp0⟩
            · have := (h.step.newB k0 e).1; omega
          · exact h.step.fresh k0 p s0 (by omega) (by omega) hp0
      · rw [hrho k hnew] at h3
        exact h.step.fresh k p s h1 h2 h3
    · -- memory
      refine ⟨fun k => if Mod f d i k then (f (i + 1)).st.mem.get k else m0 k, fun k => ?_, fun k b hb => ?_, fun k k' b b' p s s' hb hb' hp hp' => ?_⟩
      · by_cases hmod : Mod f d i k
        · have hq : (∀ j, j < i → Mod f d j k → L j) ∧ (∀ j, i < j → j < ops.size → Mod f d j k → ¬ L j) := by
            rcases hmod.2 with hk | hk
            · obtain ⟨c1, c2, _⟩ := T.wread hi hex hk
              obtain ⟨q1, q2⟩ := T.reads h.closed ho hr hn hex c1 c2
              exact ⟨q1, fun j a1 a2 => q2 j (by omega) a2⟩
            · obtain ⟨q1, q2⟩ := T.news h.closed ho hn hk
              exact ⟨fun j a1 a2 => absurd a2 (q1 j a1), q2⟩
          refine ⟨i + 1, hi, fun j hj hm => ?_, fun j hj hjn hm => ?_, by simp only [hmod, if_true]⟩
          · rw [hL']
            by_cases e : j = i
            · exact .inr e
            · exact .inl (hq.1 j (by omega) hm)
          · rw [hL']
            rintro (hLj | e)
            · exact hq.2 j (by omega) hjn hm hLj
            · omega
        · obtain ⟨p, p1, p2, p3, p4⟩ := m1 k
          refine ⟨p, p1, fun j hj hmd => (hL' j).2 (.inl (p2 j hj hmd)), fun j hj hjn hmd => ?_, by simp only [hmod, if_false]; exact p4⟩
          rw [hL']
          rintro (hLj | e)
          · exact p3 j hj hjn hmd hLj
          · rw [e] at hmd; exact hmod hmd
      · by_cases hmod : Mod f d i k
        · simp only [hmod, if_true] at hb
          rw [hs.new hex k (hmod.2.imp id (fun h => h.1))] at hb
          exact hout.blk k b (hmod.2.imp id (fun h => by omega)) hb
        · simp only [hmod, if_false] at hb
          refine blk_kept (m2 k b hb) hout.step.le fun p s hp => ?_
          refine hout.step.kept p (h.step.gi.low k p s hp) fun k' hk' s' hp' => ?_
          obtain ⟨b0, hb0, _⟩ := hwl k' hk'
          have := m3 k k' b b0 p s s' hb hb0 hp hp'
          subst this
          exact hmod ⟨hex, .inl hk'⟩
      · have hmix : ∀ k k' b' p s s', Mod f d i k → ¬ Mod f d i k' → m0 k' = some b' → F.rho k = some (p, s) → F.rho k' = some (p, s') → (∃ b, (d i).r.st.mem.get k = some b) → k = k' := by
          intro k k' b' p s s' hmod hmod' hb' hp hp' _
          have hk'n : ¬ ((f i).st.nb ≤ k' ∧ k' < (f (i + 1)).st.nb) := fun hh => hmod' ⟨hex, .inr hh⟩
          rw [hrho k' hk'n] at hp'
          rcases hmod.2 with hk | hk
          · obtain ⟨b0, hb0, hlt⟩ := hwl k hk
            rw [hrho k (by omega)] at hp
            exact m3 k k' b0 b' p s s' hb0 hb' hp hp'
          · rcases hout.step.fresh k p s (by omega) (by omega) hp with hf | ⟨k0, hk0, s0, hp0⟩
            · have := h.step.gi.low k' p s' hp'; omega
            · obtain ⟨b0, hb0, _⟩ := hwl k0 hk0
              have := m3 k0 k' b0 b' p s0 s' hb0 hb' hp0 hp'
              subst this; exact absurd ⟨hex, .inl hk0⟩ hmod'
        by_cases hmod : Mod f d i k <;> by_cases hmod' : Mod f d i k'
        · simp only [hmod, hmod', if_true] at hb hb'
          rw [hs.new hex k (hmod.2.imp id (fun h => h.1))] at hb
          rw [hs.new hex k' (hmod'.2.imp id (fun h => h.1))] at hb'
          exact hout.inj k k' b b' p s s' (hmod.2.imp id (fun h => by omega)) (hmod'.2.imp id (fun h => by omega)) hb hb' hp hp'
        · simp only [hmod, hmod', if_true, if_false] at hb hb'
          rw [hs.new hex k (hmod.2.imp id (fun h => h.1))] at hb
          exact hmix k k' b' p s s' hmod hmod' hb' hp hp' ⟨b, hb⟩
        · simp only [hmod, hmod', if_true, if_false] at hb hb'
          rw [hs.new hex k' (hmod'.2.imp id (fun h => h.1))] at hb'
          exact (hmix k' k b p s' s hmod' hmod hb hp' hp ⟨b', hb'⟩).symm
        · simp only [hmod, hmod', if_false] at hb hb'
          rw [hrho k (fun hh => hmod ⟨hex, .inr hh⟩)] at hp
          rw [hrho k' (fun hh => hmod' ⟨hex, .inr hh⟩)] at hp'
          exact m3 k k' b b' p s s' hb hb' hp hp'
    · have hji : j ≠ i := fun e => hLj ((hL' j).2 (.inr e))
      obtain ⟨g1, g2⟩ := h.free j hj (fun hl => hLj ((hL' j).2 (.inl hl)))
      have hdis : ∀ k, (f j).st.nb ≤ k → k < (f (j + 1)).st.nb → ¬ ((f i).st.nb ≤ k ∧ k < (f (i + 1)).st.nb) := by
        intro k a1 a2 a3
        rcases Nat.lt_or_gt_of_ne hji with hlt | hlt
        · have := (T.mono (i := j + 1) (j := i) (by omega) (by omega)).1; omega
        · have := (T.mono (i := i + 1) (j := j) (by omega) (by omega)).1; omega
      have hdis' : ∀ k, (f j).st.nt ≤ k → k < (f (j + 1)).st.nt → ¬ ((f i).st.nt ≤ k ∧ k < (f (i + 1)).st.nt) := by
        intro k a1 a2 a3
        rcases Nat.lt_or_gt_of_ne hji with hlt | hlt
        · have := (T.mono (i := j + 1) (j := i) (by omega) (by omega)).2.1; omega
        · have := (T.mono (i := i + 1) (j := j) (by omega) (by omega)).2.1; omega
      exact ⟨fun k a1 a2 => by rw [hrho k (hdis k a1 a2)]; exact g1 k a1 a2, fun k a1 a2 => by rw [hsig k (hdis' k a1 a2)]; exact g2 k a1 a2⟩

end
end Go.SX

namespace Go.SX

theorem countP_less {p q : Nat → Bool} : ∀ {l : List Nat} {i : Nat}, (∀ x ∈ l, q x = true → p x = true) → i ∈ l → p i = true → q i = false → l.countP q < l.countP p
  | [], i, _, hi, _, _ => by simp at hi
  | a :: l, i, h, hi, hp, hq => by
    have hle : l.countP q ≤ l.countP p := List.countP_mono_left fun x hx hqx => h x (by simp [hx]) hqx
    rcases List.mem_cons.1 hi with rfl | hi
    · rw [List.countP_cons_of_neg (by simp [hq]), List.countP_cons_of_pos hp]
      omega
    · have ih := countP_less (fun x hx => h x (by simp [hx])) hi hp hq
      by_cases ha : q a = true
      · rw [List.countP_cons_of_pos ha, List.countP_cons_of_pos (h a (by simp) ha)]; omega
      · rw [List.countP_cons_of_neg ha, List.countP_cons]
        split <;> omega

section
variable {P : Program} {K : Toks} {call : CallFn} {N : Nat} {ops : Array Oper} {ms : List Nat} {f : Nat → SA} {d : Nat → Dat} {E0 : Env} {w0 : World} {st0 : St} {dl : List Deferred}

theorem Tr.pinv {lo : Nat} (T : Tr P call lo N ops ms f d) (hst0 : lo ≤ (f 0).st.nb) (m0 : Nat → Option Blk) (h0 : PInv lo m0 (f 0).st (f 0).w) : ∀ i, i ≤ ops.size → PInv lo m0 (f i).st (f i).w := by
  intro i
  induction i with
  | zero => intro _; exact h0
  | succ i ih =>
    intro hi
    obtain ⟨g1, g2⟩ := ih (by omega)
    obtain ⟨o, m, _, _, hs⟩ := T.at (j := i) (by omega)
    have hmono := (T.mono (i := 0) (j := i) (by omega) (by omega)).1
    cases hex : (d i).ex with
    | false =>
      obtain ⟨_, s2, s3⟩ := hs.skip hex
      rw [s2, s3]; exact ⟨g1, g2⟩
    | true =>
      obtain ⟨_, s2, _⟩ := hs.res hex
      refine ⟨fun k hk hw => ?_, fun k hk => ?_⟩
      · rw [s2, mem_below] at hw
        have hw1 : k ∉ (d i).r.w := fun hh => hw (.inl ⟨hh, hk⟩)
        rw [hs.old hex k hw1 (by omega), g1 k hk (fun hh => hw (.inr hh))]
      · rw [s2, mem_below] at hk
        rcases hk with ⟨hk, hlo⟩ | hk
        · by_cases hw : k ∈ (f i).w
          · exact g2 k hw
          · obtain ⟨_, ⟨b, hb⟩, _⟩ := T.wread (by omega) hex hk
            exact ⟨hlo, b, by rw [← g1 k hlo hw]; exact hs.sub hex k b hb⟩
        · exact g2 k hk

/-- All done. -/
theorem ri_end (hN : N ≤ 1000000) (T : Tr P call st0.nb N ops ms f d) {L : Nat → Prop} {E : Env} {w : World} {a : Act} (h : RI K E0 w0 st0 ops f d N dl L E w a) (hall : ∀ i, i < ops.size → L i)
    (hst0 : st0.nb ≤ (f 0).st.nb ∧ st0.nt ≤ (f 0).st.nt) (hsame : ∀ k, k < st0.nb → k ∉ (f 0).w → (f 0).st.mem.get k = st0.mem.get k) (hlive : ∀ k ∈ (f 0).w, k < st0.nb ∧ ∃ b, st0.mem.get k = some b) :
    Inv K E0 w0 st0 E w (f ops.size).st (f ops.size).w ∧ FrOk E (f ops.size).fr a := by
  obtain ⟨m0, m1, m2, m3⟩ := h.mem
  have hm : ∀ k, m0 k = (f ops.size).st.mem.get k := by
    intro k
    obtain ⟨p, p1, p2, p3, p4⟩ := m1 k
    rw [p4]
    exact (T.keeps p1 (Nat.le_refl _) fun j a1 a2 hmd => p3 j a1 a2 hmd (hall j a2)).symm
  have hind := T.pinv hst0.1 st0.mem.get ⟨hsame, hlive⟩
  obtain ⟨g1, g2⟩ := hind ops.size (Nat.le_refl _)
  have hmono := T.mono (i := 0) (j := ops.size) (by omega) (Nat.le_refl _)
  refine ⟨⟨h.step, fun k b hb => m2 k b (by rw [hm]; exact hb), fun k k' b b' p s s' hb hb' => m3 k k' b b' p s s' (by rw [hm]; exact hb) (by rw [hm]; exact hb'), T.ok _ (Nat.le_refl _), by omega, by omega, g1, g2⟩, fun t v hv => ?_⟩
  obtain ⟨p, p1, p2, p3, p4⟩ := h.tmp t
  refine p4 v ?_
  rw [← T.keepsF hN p1 (Nat.le_refl _) fun j o a1 a2 hj hd => p3 j o a1 hj hd (hall j a2)]
  exact hv

theorem region_wp (hcall : CallOk P K call) (hN : N ≤ 1000000) (T : Tr P call st0.nb N ops ms f d)
    (hst0 : st0.nb ≤ (f 0).st.nb ∧ st0.nt ≤ (f 0).st.nt) (hsame : ∀ k, k < st0.nb → k ∉ (f 0).w → (f 0).st.mem.get k = st0.mem.get k) (hlive : ∀ k ∈ (f 0).w, k < st0.nb ∧ ∃ b, st0.mem.get k = some b)
    {Q : Exit → Act → World → Prop} (hQ : ∀ E' w' a', Inv K E0 w0 st0 E' w' (f ops.size).st (f ops.size).w → FrOk E' (f ops.size).fr a' → N ≤ a'.tmps.size → a'.defers = dl → Q .normal a' w') :
    ∀ (fuel : Nat) (listed : Array Bool) (E : Env) (w : World) (a : Act), listed.size = ops.size → (List.range ops.size).countP (fun i => !listed.getD i false) ≤ fuel →
      RI K E0 w0 st0 ops f d N dl (fun j => listed.getD j false = true) E w a → wpAny P .any ops Q fuel listed a w := by
  intro fuel
  have hend : ∀ (listed : Array Bool) (E : Env) (w : World) (a : Act), RI K E0 w0 st0 ops f d N dl (fun j => listed.getD j false = true) E w a → (∀ i, i < ops.size → listed.getD i false = true) → Q .normal a w := by
    intro listed E w a h hall
    obtain ⟨h1, h2⟩ := ri_end hN T h hall hst0 hsame hlive
    exact hQ E w a h1 h2 h.size h.defs
  have hun : ∀ (listed : Array Bool) (i : Nat), listed.size = ops.size → i < ops.size → ¬ listed.getD i false = true → listed.getD i true = false := by
    intro listed i hsz hi hn
    have hi' : i < listed.size := by omega
    simp only [Array.getD, hi', dif_pos] at hn ⊢
    simpa using hn
  induction fuel with
  | zero =>
    intro listed E w a hsz hc h
    have hall : ∀ i, i < ops.size → listed.getD i false = true := by
      intro i hi
      have h0 : (List.range ops.size).countP (fun i => !listed.getD i false) = 0 := by omega
      rw [List.countP_eq_zero] at h0
      have := h0 i (by simpa using hi)
      simpa using this
    refine ⟨?_, hend listed E w a h hall⟩
    rw [List.eq_nil_iff_forall_not_mem]
    intro i hmem
    obtain ⟨h1, o, ho, _⟩ := mem_ready.1 hmem
    have hi := (Array.getElem?_eq_some_iff.1 ho).1
    have := hall i hi
    have hi' : i < listed.size := by omega
    simp only [Array.getD, hi', dif_pos] at h1 this
    rw [h1] at this; cases this
  | succ fuel ih =>
    intro listed E w a hsz hc h
    refine ⟨fun hnil => ?_, fun i hmem => ?_⟩
    · refine hend listed E w a h fun i => ?_
      induction i using Nat.strongRecOn with
      | _ i ihi =>
        intro hi
        refine Classical.byContradiction fun hn => ?_
        have : i ∈ Region.ready .any ops listed := by
          rw [mem_ready]
          refine ⟨hun listed i hsz hi hn, ops[i], Array.getElem?_eq_getElem hi, fun e he hb => ?_⟩
          have hlt := edge_lt T.masks (Array.getElem?_eq_getElem hi) e he hb
          exact ihi e.on hlt (by omega)
        rw [hnil] at this; cases this
    · obtain ⟨h1, o, ho, hr⟩ := mem_ready.1 hmem
      have hi := (Array.getElem?_eq_some_iff.1 ho).1
      have hi' : i < listed.size := by omega
      have hn : ¬ listed.getD i false = true := by
        simp only [Array.getD, hi', dif_pos] at h1 ⊢
        rw [h1]; simp
      have hset : ∀ j, (listed.setIfInBounds i true).getD j false = true ↔ listed.getD j false = true ∨ j = i := by
        intro j
        by_cases e : j = i
        · subst e
          simp only [or_true, iff_true]
          simp [Array.getD, hi']
        · rw [getD_set_ne false (fun h => e h.symm)]
          simp [e]
      refine ri_step hcall hN T hst0 h ho hn hr hset fun E' w' a' h' => ih _ E' w' a' (by simp [hsz]) ?_ h'
      have hlt := countP_less (p := fun i => !listed.getD i false) (q := fun j => !(listed.setIfInBounds i true).getD j false) (l := List.range ops.size) (i := i) (fun x _ hx => by
        cases hb : listed.getD x false with
        | false => rfl
        | true =>
          have := (hset x).2 (.inl hb)
          simp only [this] at hx; cases hx) (by simpa using hi) (by cases hb : listed.getD i false with
        | false => rfl
        | true => exact absurd hb hn) (by simp only [(hset i).2 (.inr rfl)]; rfl)
      omega

theorem region_any (hcall : CallOk P K call) (hmix : P.follows .mixedOrders = true) (hN : N ≤ 1000000) {lo : Nat} (hreg : regOk ops = some ms) (hok : dOk N ops.toList = true) {fr : Fr} {st : St} {W : List Nat} {s' : SA}
    (h : evAny P call lo ops.toList ops.toList ms 0 ⟨[], [], fr, st, W⟩ = some s') (hst : StOk st) (id : Nat) :
    Good K lo N fr st W ⟨.normal, s'.fr, s'.st, s'.w⟩ (fun Q => (Code.region id ops true).wp P Q) := by
  obtain ⟨f, f0, fl, fs⟩ := evAny_trace hcall _ _ _ _ _ h hst (fun e he => by simp at he)
  obtain ⟨ms', hm1, hm2⟩ := ob_inv hreg
  obtain ⟨hm3, hm4⟩ := bi_inv hm2
  injection hm4 with hm4
  rw [hm4] at hm1 hm3
  have hd : ∀ j, ∃ d : Dat, ∀ o, ops[j]? = some o → ∃ m, ms[j]? = some m ∧ StepD P call lo ops.toList o m j (f j) (f (j + 1)) d := by
    intro j
    by_cases hj : j < ops.size
    · obtain ⟨m, d, h1, h2⟩ := fs j ops[j] (by simp)
      refine ⟨d, fun o ho => ⟨m, h1, ?_⟩⟩
      rw [Array.getElem?_eq_getElem hj] at ho
      injection ho with ho; subst ho
      rw [Nat.zero_add] at h2; exact h2
    · exact ⟨⟨false, ⟨.tup [], ⟨.lf, 0, 0⟩, [], none⟩, ⟨.lf, 0, 0⟩⟩, fun o ho => absurd (Array.getElem?_eq_some_iff.1 ho).1 hj⟩
  obtain ⟨d, hd⟩ := Classical.axiomOfChoice hd
  have hdst : ∀ (l : List Oper), dOk N l = true → ∀ (i : Nat) (o : Oper) (t : Nat), l[i]? = some o → o.dst = some t → t < N := by
    intro l
    induction l with
    | nil => intro _ i o t hi; simp at hi
    | cons x l ih =>
      intro hx i o t hi ht
      obtain ⟨g1, g2⟩ := dOk_cons hx
      cases i with
      | zero => simp at hi; subst hi; exact g1 t ht
      | succ i => exact ih g2 i o t (by simpa using hi) ht
  have T : Tr P call lo N ops ms f d := by
    refine ⟨hd, hm1, fun i x m hx hmi j y hy hji => ?_, fun i o t ho ht => hdst _ hok i o t (by simpa using ho) ht, by rw [f0]; exact hst⟩
    exact slotsAll_spec hm3 i x m (by simpa using hx) hmi j y (by simpa using hy) (by simpa using hji)
  have fl' : f ops.size = s' := by simpa using fl
  have hmono := T.mono (i := 0) (j := ops.size) (by omega) (Nat.le_refl _)
  rw [f0, fl'] at hmono
  have hmb : st.nb ≤ s'.st.nb := hmono.1
  have hmt : st.nt ≤ s'.st.nt := hmono.2.1
  refine ⟨⟨hmono.1, hmono.2.1, by rw [← fl']; exact T.ok _ (Nat.le_refl _), fun hl m0 hp => by
    have := T.pinv (by rw [f0]; exact hl) m0 (by rw [f0]; exact hp) ops.size (Nat.le_refl _)
    rw [fl'] at this; exact this⟩, fun E0 w0 st0 hlo E w a hi hf ha hfree Q hQ => ?_⟩
  subst hlo
  refine wp_region_any hmix ?_
  have hfree1 : ∀ k, st.nb ≤ k → k < s'.st.nb → E.rho k = none := by
    intro k a1 a2
    by_cases e : E.rho k = E0.rho k
    · rw [e]; exact hfree.1 k (by have := hi.nb; omega) a2
    · have := (hi.step.newB k e).2; omega
  have hfree2 : ∀ k, st.nt ≤ k → k < s'.st.nt → E.sig k = none := by
    intro k a1 a2
    by_cases e : E.sig k = E0.sig k
    · rw [e]; exact hfree.2 k (by have := hi.nt; omega) a2
    · have := (hi.step.newT k e).2; omega
  have hW : ∀ k ∈ W, k ∈ (f ops.size).w := by
    have := T.wmono (i := 0) (j := ops.size) (by omega) (Nat.le_refl _)
    rw [f0] at this; exact this
  refine region_wp (K := K) (E0 := E0) (w0 := w0) (st0 := st0) (dl := a.defers) hcall hN T (by rw [f0]; exact ⟨hi.nb, hi.nt⟩) (by rw [f0]; exact hi.same) (by rw [f0]; exact hi.live)
    (fun E' w' a' b1 b2 b3 b4 => hQ E' w' a' (by rw [fl'] at b1; exact b1) (by rw [fl'] at b2; exact b2) b3 b4) ops.size _ E _ a (by simp) (by
      have := List.countP_le_length (p := fun i => !(Array.replicate ops.size false).getD i false) (l := List.range ops.size)
      simpa using this) ?_
  have hnone : ∀ j, ¬ (Array.replicate ops.size false).getD j false = true := by
    intro j
    simp only [Array.getD]
    split
    · simp
    · simp
  refine ⟨fun i o ho hl => absurd hl (hnone i), ⟨hi.step.le, fun k hk => ?_, fun j hj => ?_, hi.step.os, hi.step.tape, hi.step.output, hi.step.size, fun b hb hWn => hi.step.kept b hb fun k hk => hWn k (hW k hk), fun k p s h1 h2 h3 => ?_, ?_⟩,
    ⟨fun k => (f 0).st.mem.get k, fun k => ⟨0, by omega, fun j hj => by omega, fun j _ _ _ => hnone j, rfl⟩, fun k b hb => ?_, fun k k' b b' p s s' hb hb' => ?_⟩,
    fun t => ⟨0, by omega, fun j o hj => by omega, fun j o _ _ _ => hnone j, fun v hv => ?_⟩, fun i hi' _ => ⟨fun k a1 a2 => ?_, fun j a1 a2 => ?_⟩, ha, rfl⟩
  · rw [fl']
    have := hi.step.newB k hk; omega
  · rw [fl']
    have := hi.step.newT j hj; omega
  · rw [fl'] at h2
    by_cases hk : k < st.nb
    · rcases hi.step.fresh k p s h1 hk h3 with hf | ⟨k0, hk0, s0, hp0⟩
      · exact .inl hf
      · exact .inr ⟨k0, hW k0 hk0, s0, hp0⟩
    · rw [hfree1 k (by omega) h2] at h3; cases h3
  · exact gi_grow hi.step.gi rfl rfl hi.step.gi.low (Nat.le_refl _) (fun k p s hk _ => ⟨k, s, hk⟩) (fun _ _ _ => rfl)
  · rw [f0] at hb; exact hi.blk k b hb
  · rw [f0] at hb hb'; exact hi.inj k k' b b' p s s' hb hb'
  · rw [f0] at hv; exact hf t v hv
  · have h1 := (T.mono (i := 0) (j := i) (by omega) (by omega)).1
    have h2 := (T.mono (i := i + 1) (j := ops.size) (by omega) (Nat.le_refl _)).1
    rw [f0] at h1; rw [fl'] at h2
    have h1' : st.nb ≤ (f i).st.nb := h1
    exact hfree1 k (by omega) (by omega)
  · have h1 := (T.mono (i := 0) (j := i) (by omega) (by omega)).2.1
    have h2 := (T.mono (i := i + 1) (j := ops.size) (by omega) (Nat.le_refl _)).2.1
    rw [f0] at h1; rw [fl'] at h2
    have h1' : st.nt ≤ (f i).st.nt := h1
    exact hfree2 j (by omega) (by omega)

end
end Go.SX

namespace Go.SX

section
variable {P : Program} {K : Toks} {call : CallFn} {lo N fuel : Nat}

theorem Good.mono {fr : Fr} {st : St} {W : List Nat} {z : Z} {wp wp' : (Exit → Act → World → Prop) → Act → World → Prop} (h : Good K lo N fr st W z wp) (hw : ∀ Q a w, wp Q a w → wp' Q a w) : Good K lo N fr st W z wp' :=
  ⟨h.1, fun E0 w0 st0 hlo E w a hi hf ha hfree Q hQ => hw _ _ _ (h.2 E0 w0 st0 hlo E w a hi hf ha hfree Q hQ)⟩

theorem evCode_sound (hcall : CallOk P K call) (hmix : P.follows .mixedOrders = true) (hN : N ≤ 1000000) : ∀ (c : Code), codeOk N c = true →
    ∀ fr st W z, evCode P call lo fuel c fr st W = some z → StOk st → Good K lo N fr st W z (fun Q => c.wp P Q) := by
  have simple : ∀ (c : Code) (e : Ex) (fr : Fr) (st : St) (W : List Nat) (z : Z), some (⟨e, fr, st, W⟩ : Z) = some z → StOk st → (∀ (Q : Exit → Act → World → Prop) a w, Q (toExit e) a w → c.wp P Q a w) → Good K lo N fr st W z (fun Q => c.wp P Q) := by
    intro c e fr st W z h hst hw
    injection h with h; subst h
    exact ⟨⟨Nat.le_refl _, Nat.le_refl _, .refl hst⟩, fun E0 w0 st0 hlo E w a hi hf ha hfree Q hQ => hw Q a w (hQ E w a hi hf ha rfl)⟩
  intro c
  induction c with
  | skip => intro _ fr st W z h hst; exact simple _ .normal fr st W z h hst fun Q a w => wp_skip
  | label l => intro _ fr st W z h hst; exact simple _ .normal fr st W z h hst fun Q a w => wp_label
  | exit i => intro _ fr st W z h hst; exact simple _ (.exit i) fr st W z h hst fun Q a w => wp_exit
  | ret => intro _ fr st W z h hst; exact simple _ .ret fr st W z h hst fun Q a w => wp_ret
  | goto l => intro _ fr st W z h _; cases h
  | scope b _ => intro _ fr st W z h _; cases h
  | refuse s => intro _ fr st W z h _; cases h
  | rangeFunc x ps y b _ _ => intro _ fr st W z h _; cases h
  | region id ops draw =>
    intro hok fr st W z h hst
    cases draw with
    | false =>
      have h' : evOps P call lo ops.toList ops.toList fr st W = some z := h
      obtain ⟨he, hg⟩ := evOps_sound hcall hN ops ops.toList 0 rfl hok fr st W z h' hst
      refine hg.mono fun Q a w hw => wp_region ?_
      rw [List.range_eq_range']
      simpa using hw
    | true =>
      have h' : ob (regOk ops) (fun ms => ob (evAny P call lo ops.toList ops.toList ms 0 ⟨[], [], fr, st, W⟩) fun s => some ⟨.normal, s.fr, s.st, s.w⟩) = some z := h
      obtain ⟨ms, h1, h'⟩ := ob_inv h'
      obtain ⟨s, h2, h3⟩ := ob_inv h'
      injection h3 with h3; subst h3
      exact region_any hcall hmix hN h1 hok h2 hst id
  | seq x y ihx ihy =>
    intro hok fr st W z h hst
    have hok' : bi (codeOk N x) (codeOk N y) false = true := hok
    have hok2 : codeOk N x = true ∧ codeOk N y = true := by
      cases hq : codeOk N x
      · rw [hq] at hok'; cases hok'
      · rw [hq] at hok'; exact ⟨rfl, hok'⟩
    have h' : ob (evCode P call lo fuel x fr st W) (fun z => seqZ z (evCode P call lo fuel y)) = some z := h
    obtain ⟨z1, h1, h2⟩ := ob_inv h'
    have hg1 := ihx hok2.1 fr st W z1 h1 hst
    obtain ⟨⟨n1, n2, n3⟩, g1⟩ := hg1
    cases he : z1.e with
    | normal =>
      unfold seqZ at h2
      rw [he] at h2
      have h2' : evCode P call lo fuel y z1.fr z1.st z1.w = some z := h2
      obtain ⟨⟨m1, m2, m3⟩, g2⟩ := ihy hok2.2 _ _ _ z h2' n3.ok
      refine ⟨⟨by omega, by omega, n3.trans m3 n1⟩, fun E0 w0 st0 hlo E w a hi hf ha hfree Q hQ => wp_seq ?_⟩
      refine g1 E0 w0 st0 hlo E w a hi hf ha (hfree.le m1 m2) _ fun E' w' a' b1 b2 b3 b4 => ?_
      rw [he]
      exact g2 E0 w0 st0 hlo E' w' a' b1 b2 b3 hfree Q fun E'' w'' a'' c1 c2 c3 c4 => hQ E'' w'' a'' c1 c2 c3 (c4.trans b4)
    | exit i =>
      unfold seqZ at h2
      rw [he] at h2
      have h2' : some z1 = some z := h2
      injection h2' with h2'; subst h2'
      refine ⟨⟨n1, n2, n3⟩, fun E0 w0 st0 hlo E w a hi hf ha hfree Q hQ => wp_seq ?_⟩
      refine g1 E0 w0 st0 hlo E w a hi hf ha hfree _ fun E' w' a' b1 b2 b3 b4 => ?_
      have := hQ E' w' a' b1 b2 b3 b4
      rw [he] at this ⊢
      exact this
    | ret =>
      unfold seqZ at h2
      rw [he] at h2
      have h2' : some z1 = some z := h2
      injection h2' with h2'; subst h2'
      refine ⟨⟨n1, n2, n3⟩, fun E0 w0 st0 hlo E w a hi hf ha hfree Q hQ => wp_seq ?_⟩
      refine g1 E0 w0 st0 hlo E w a hi hf ha hfree _ fun E' w' a' b1 b2 b3 b4 => ?_
      have := hQ E' w' a' b1 b2 b3 b4
      rw [he] at this ⊢
      exact this
  | cond c x y ihx ihy =>
    intro hok fr st W z h hst
    have hok' : bi (codeOk N x) (codeOk N y) false = true := hok
    have hok2 : codeOk N x = true ∧ codeOk N y = true := by
      cases hq : codeOk N x
      · rw [hq] at hok'; cases hok'
      · rw [hq] at hok'; exact ⟨rfl, hok'⟩
    have h' : ob (opC (opnd fr) c) (fun v => match v with
      | .bool t => bi t (evCode P call lo fuel x fr st W) (evCode P call lo fuel y fr st W)
      | _ => none) = some z := h
    obtain ⟨v, h1, h2⟩ := ob_inv h'
    cases v with
    | bool t =>
      cases t with
      | true =>
        obtain ⟨p1, p2⟩ := ihx hok2.1 fr st W z h2 hst
        exact ⟨p1, fun E0 w0 st0 hlo E w a hi hf ha hfree Q hQ => wp_cond_true (opC_rel hf.ev h1) (p2 E0 w0 st0 hlo E w a hi hf ha hfree Q hQ)⟩
      | false =>
        obtain ⟨p1, p2⟩ := ihy hok2.2 fr st W z h2 hst
        exact ⟨p1, fun E0 w0 st0 hlo E w a hi hf ha hfree Q hQ => wp_cond_false (opC_rel hf.ev h1) (p2 E0 w0 st0 hlo E w a hi hf ha hfree Q hQ)⟩
    | _ => cases h2
  | block id b ih =>
    intro hok fr st W z h hst
    have h' : ob (evCode P call lo fuel b fr st W) (blockZ id) = some z := h
    obtain ⟨z1, h1, h2⟩ := ob_inv h'
    obtain ⟨⟨n1, n2, n3⟩, g1⟩ := ih hok fr st W z1 h1 hst
    unfold blockZ at h2
    cases he : z1.e with
    | normal =>
      rw [he] at h2
      have h2' : some z1 = some z := h2
      injection h2' with h2'; subst h2'
      refine ⟨⟨n1, n2, n3⟩, fun E0 w0 st0 hlo E w a hi hf ha hfree Q hQ => wp_block (g1 E0 w0 st0 hlo E w a hi hf ha hfree _ fun E' w' a' b1 b2 b3 b4 => ?_)⟩
      have := hQ E' w' a' b1 b2 b3 b4
      rw [he] at this ⊢
      exact this
    | ret =>
      rw [he] at h2
      have h2' : some z1 = some z := h2
      injection h2' with h2'; subst h2'
      refine ⟨⟨n1, n2, n3⟩, fun E0 w0 st0 hlo E w a hi hf ha hfree Q hQ => wp_block (g1 E0 w0 st0 hlo E w a hi hf ha hfree _ fun E' w' a' b1 b2 b3 b4 => ?_)⟩
      have := hQ E' w' a' b1 b2 b3 b4
      rw [he] at this ⊢
      exact this
    | exit i =>
      rw [he] at h2
      have h2' : bi (Nat.beq i id) (some ⟨.normal, z1.fr, z1.st, z1.w⟩) (some z1) = some z := h2
      rw [beq_dec] at h2'
      by_cases hid : i = id
      · rw [show decide (i = id) = true by simp [hid]] at h2'
        have h3 : some (⟨.normal, z1.fr, z1.st, z1.w⟩ : Z) = some z := h2'
        injection h3 with h3; subst h3
        refine ⟨⟨n1, n2, n3.ok, n3.p⟩, fun E0 w0 st0 hlo E w a hi hf ha hfree Q hQ => wp_block (g1 E0 w0 st0 hlo E w a hi hf ha hfree _ fun E' w' a' b1 b2 b3 b4 => ?_)⟩
        have := hQ E' w' a' b1 b2 b3 b4
        rw [he]
        simp only [toExit, Exit.inBlock, hid, if_true]
        exact this
      · rw [show decide (i = id) = false by simp [hid]] at h2'
        have h3 : some z1 = some z := h2'
        injection h3 with h3; subst h3
        refine ⟨⟨n1, n2, n3⟩, fun E0 w0 st0 hlo E w a hi hf ha hfree Q hQ => wp_block (g1 E0 w0 st0 hlo E w a hi hf ha hfree _ fun E' w' a' b1 b2 b3 b4 => ?_)⟩
        have := hQ E' w' a' b1 b2 b3 b4
        rw [he] at this ⊢
        simp only [toExit, Exit.inBlock, hid, if_false]
        exact this
  | loop b ih =>
    intro hok fr st W z h hst
    have h' : loopZ (evCode P call lo fuel b) fuel fr st W = some z := h
    exact (loopZ_sound (fun fr st W z h hst => ih hok fr st W z h hst) fuel fr st W z h' hst).mono fun Q a w hw => wp_loop_rounds fuel hw

theorem enter_get : ∀ (vl : List V) (i : Nat) (fr : Fr) (t : Nat), i + vl.length ≤ 8388608 → (enter vl i fr).get t = if i ≤ t ∧ t < i + vl.length then vl[t - i]? else fr.get t
  | [], i, fr, t, _ => by
    show fr.get t = _
    rw [if_neg (by simp)]
  | v :: vl, i, fr, t, h => by
    show (enter vl (i + 1) (fr.set i (some v))).get t = _
    simp only [List.length_cons] at h
    rw [enter_get vl (i + 1) _ t (by omega)]
    by_cases h1 : i + 1 ≤ t ∧ t < i + 1 + vl.length
    · have h2 : i ≤ t ∧ t < i + (vl.length + 1) := by omega
      rw [if_pos h1, if_pos (by simpa using h2)]
      have : t - i = (t - (i + 1)) + 1 := by omega
      rw [this]; simp
    · rw [if_neg h1, get_set _ _ _ _ (by omega)]
      by_cases e : t = i
      · subst e
        rw [if_pos rfl, if_pos (by simp)]
        simp
      · rw [if_neg e, if_neg (by simp; omega)]

theorem RelA.length {E : Env} : ∀ {l : List V} {vs : List Value}, RelA E l vs → vs.length = l.length
  | [], [], _ => rfl
  | _ :: _, _ :: _, ⟨_, b⟩ => by simp [RelA.length b]
  | [], _ :: _, x => x.elim
  | _ :: _, [], x => x.elim

theorem RelA.get {E : Env} : ∀ {l : List V} {vs : List Value} (n : Nat) (c : V), RelA E l vs → l[n]? = some c → ∃ v, vs[n]? = some v ∧ RelV E c v
  | [], [], n, c, _, h => by simp at h
  | a :: l, v :: vs, 0, c, ⟨r, _⟩, h => by simp at h; subst h; exact ⟨v, rfl, r⟩
  | a :: l, v :: vs, n + 1, c, ⟨_, r⟩, h => by
    simp at h
    obtain ⟨u, h1, h2⟩ := RelA.get n c r h
    exact ⟨u, by simpa using h1, h2⟩
  | [], _ :: _, _, _, x, _ => x.elim
  | _ :: _, [], _, _, x, _ => x.elim

theorem unS_rel {E : Env} : ∀ {l : List V} {r : List S} {vs : List Value}, unS l = some r → RelA E l vs → RelT E r vs
  | [], r, [], h, _ => by
    have h' : some [] = some r := h
    injection h' with h'; subst h'; trivial
  | v :: l, r, x :: vs, h, ⟨a, b⟩ => by
    have h' : ob (vS v) (fun s => ob (unS l) fun r => some (s :: r)) = some r := h
    obtain ⟨s, h1, h'⟩ := ob_inv h'
    obtain ⟨q, h2, h3⟩ := ob_inv h'
    injection h3 with h3; subst h3
    exact ⟨vS_rel h1 a, unS_rel h2 b⟩
  | [], _, _ :: _, _, x => x.elim
  | _ :: _, _, [], _, x => x.elim

/-- One result. -/
def resF (tmps : Array Value) : ResultVar → Sem Value
  | .tmp t => pure (tmps.getD t undef)
  | .cell a t => do loadVar t (← asAddr (tmps.getD a undef))

theorem results_eq (fn : Func) (tmps : Array Value) : results fn tmps = (do let vs ← fn.results.mapM (resF tmps); pure (if h : vs.size = 1 then vs[0] else .tuple vs)) := by
  unfold results
  congr 1

theorem res1_run {E : Env} {w : World} {fr : Fr} {st : St} {a : Act} {r : ResultVar} {v : V} (hf : FrOk E fr a) (hb : ∀ k b, st.mem.get k = some b → BlkOk E w k b) (h : res1 P fr st r = some v) :
    ∃ u, (resF a.tmps r).run P w = .ok u w ∧ RelV E v u := by
  cases r with
  | tmp t =>
    obtain ⟨u, h1, h2⟩ := hf t v h
    exact ⟨u, by simp [resF, h1], h2⟩
  | cell x t =>
    obtain ⟨y, h1, h⟩ := ob_inv h
    obtain ⟨c, h2, h⟩ := ob_inv h
    obtain ⟨p, h3, h⟩ := ob_inv h
    obtain ⟨b, h4, h⟩ := ob_inv h
    obtain ⟨s, h5, h6⟩ := ob_inv h
    injection h6 with h6; subst h6
    obtain ⟨u, g1, g2⟩ := hf x y h1
    have hc := vC_rel h2 g2
    rw [cPtr_inv h3] at hc
    obtain ⟨q, n, hq, rfl⟩ := hc
    obtain ⟨q', n', arr, ty, hq', hh, _, hr⟩ := hb _ _ h4
    rw [hq] at hq'; injection hq' with hq'; injection hq' with e1 e2; subst e1; subst e2
    obtain ⟨u, hv, hs⟩ := run_loadVar (P := P) (t := t) hh hr h5
    refine ⟨u, ?_, hs⟩
    simp [resF, g1, asAddr, hv]

theorem resV_run {E : Env} {w : World} {fr : Fr} {st : St} {a : Act} (hf : FrOk E fr a) (hb : ∀ k b, st.mem.get k = some b → BlkOk E w k b) : ∀ {l : List ResultVar} {vs : List V}, resV P fr st l = some vs →
    ∃ us : List Value, (l.mapM (resF a.tmps)).run P w = .ok us w ∧ RelA E vs us
  | [], vs, h => by
    have h' : some [] = some vs := h
    injection h' with h'; subst h'
    exact ⟨[], by simp, trivial⟩
  | r :: l, vs, h => by
    have h' : ob (res1 P fr st r) (fun v => ob (resV P fr st l) fun vs => some (v :: vs)) = some vs := h
    obtain ⟨v, h1, h'⟩ := ob_inv h'
    obtain ⟨q, h2, h3⟩ := ob_inv h'
    injection h3 with h3; subst h3
    obtain ⟨u, g1, g2⟩ := res1_run hf hb h1
    obtain ⟨us, g3, g4⟩ := resV_run hf hb h2
    refine ⟨u :: us, ?_, g2, g4⟩
    simp only [List.mapM_cons, Sem.run_bind, g1, Result.andThen_ok, g3, Sem.run_pure]

theorem tupV_rel {E : Env} {l : List V} {v : V} {us : List Value} (h : tupV l = some v) (hr : RelA E l us) : ∃ x, (if h : us.toArray.size = 1 then us.toArray[0] else .tuple us.toArray) = x ∧ RelV E v x := by
  unfold tupV at h
  split at h
  · rename_i y
    injection h with h; subst h
    match us, hr with
    | [u], hr => exact ⟨u, by simp, hr.1⟩
    | [], hr => exact hr.elim
    | _ :: _ :: _, hr => exact hr.2.elim
  · rename_i hne
    obtain ⟨r, h1, h2⟩ := ob_inv h
    injection h2 with h2; subst h2
    refine ⟨_, rfl, ?_⟩
    have hlen := hr.length
    have h1n : ¬ us.toArray.size = 1 := by
      intro e
      simp at e
      rw [e] at hlen
      match l, hlen with
      | [y], _ => exact hne y rfl
    rw [dif_neg h1n]
    exact ⟨_, rfl, by simpa using unS_rel h1 hr⟩

/-- What is asked of the program. -/
structure ProgOk (P : Program) : Prop where
  mix : P.follows .mixedOrders = true
  name : ∀ (f : Nat) (fn : Func), P.funcs[f]? = some fn → (fn.name == "runtime.NumGoroutine") = false

theorem enter_run (hP : ProgOk P) {f : Nat} {fn : Func} {c : Code} (hf : P.funcs[f]? = some fn) (hb : fn.body = some c) (vs : Array Value) (w : World) : (callFunc f vs).run P w = .ok (.enter f vs) w := by
  have hne : ¬ fn.name = "runtime.NumGoroutine" := by
    have := hP.name f fn hf
    simpa using this
  unfold callFunc
  simp [hf, hne, hb]

theorem runFn_ok (hP : ProgOk P) (hcall : CallOk P K call) {f : Nat} {vl : List V} {st : St} {r : R} (h : runFn P call fuel f vl st = some r) (hst : StOk st) :
    Eff st r ∧ (∀ vs w, (callFunc f vs).run P w = .ok (.enter f vs) w) ∧
    ∀ E w vs, RelA E vl vs → Pre K E w st r → Calls P f vs.toArray w fun e u => ∃ v F, e = .returned v ∧ Out K E w st r F u v := by
  obtain ⟨fn, h1, h⟩ := ob_inv h
  obtain ⟨c, h2, h⟩ := ob_inv h
  obtain ⟨h3, h⟩ := bi_inv h
  obtain ⟨h4, h⟩ := bi_inv h
  obtain ⟨h5, h⟩ := bi_inv h
  obtain ⟨z, h6, h7⟩ := ob_inv h
  have hN : fn.ntmps ≤ 1000000 := ble_inv h3
  have hlen : vl.length ≤ fn.ntmps := by rw [← len_eq]; exact ble_inv h5
  obtain ⟨⟨n1, n2, n3⟩, hg⟩ := evCode_sound (K := K) (N := fn.ntmps) hcall hP.mix hN c h4 _ _ _ _ h6 hst
  have hfin : (z.e = .normal ∨ z.e = .ret) ∧ finish P fn z = some r := by
    unfold leave at h7
    cases he : z.e <;> rw [he] at h7
    · exact ⟨.inl rfl, h7⟩
    · cases h7
    · exact ⟨.inr rfl, h7⟩
  obtain ⟨hze, h8⟩ := hfin
  obtain ⟨vs0, h9, h8⟩ := ob_inv h8
  obtain ⟨v, h10, h11⟩ := ob_inv h8
  injection h11 with h11
  have hframe : ∀ E (vs : List Value), RelA E vl vs → FrOk E (enter vl 0 .lf) { tmps := vs.toArray ++ Array.replicate (fn.ntmps - vs.toArray.size) undef, defers := [] } := by
    intro E vs hr t y hy
    have hl := hr.length
    rw [enter_get vl 0 _ t (by omega)] at hy
    split at hy
    · rename_i hlt
      obtain ⟨u, hu, hrel⟩ := hr.get (t - 0) y hy
      refine ⟨u, ?_, hrel⟩
      rw [Nat.sub_zero] at hu
      have hlt' : t < vs.toArray.size := by simp; omega
      rw [Array.getElem?_append_left hlt']
      simpa using hu
    · have : (T.lf : Fr).get t = none := rfl
      rw [this] at hy; cases hy
  have hp0 := n3.p (Nat.le_refl _) st.mem.get ⟨fun k _ _ => rfl, fun k hk => by simp at hk⟩
  refine ⟨by rw [← h11]; exact ⟨n1, n2, fun k a1 a2 => hp0.1 k a2 a1, hp0.2, n3.ok, fun l hl => by cases hl⟩, fun vs w => enter_run hP h1 h2 vs w, fun E w vs hr hp => ?_⟩
  refine calls_of_wp h1 h2 ?_
  have hinv : Inv K E w st E w st [] := inv_start hp.gi (fun k b hb => hp.blk k b (by rw [← h11]; trivial) hb)
    (fun k k' b b' p s s' hb hb' => hp.inj k k' b b' p s s' (by rw [← h11]; trivial) (by rw [← h11]; trivial) hb hb') hst
  have hfree : Free E st z.st.nb z.st.nt := by
    have a1 := hp.newB
    have a2 := hp.newT
    rw [← h11] at a1 a2
    exact ⟨a1, a2⟩
  refine hg E w st rfl E w _ hinv (hframe E vs hr) (by simp; omega) hfree _ fun E' w' a' b1 b2 b3 b4 => ?_
  obtain ⟨us, g1, g2⟩ := resV_run (P := P) b2 b1.blk h9
  obtain ⟨x, hx, hv⟩ := tupV_rel h10 g2
  have hres : (results fn a'.tmps).run P w' = .ok x w' := by
    rw [results_eq, Sem.run_bind, Array.mapM_eq_mapM_toList, Sem.run_map]
    rw [g1]
    simp only [Result.andThen_ok, Sem.run_pure]
    rw [← hx]
  obtain ⟨o1, o2⟩ := inv_out b1 hv
  have hb : a'.defers = [] ∧ ∃ v, (results fn a'.tmps).run P w' = .ok v w' ∧ ∃ x F, Ending.returned v = .returned x ∧ Out K E w st r F w' x :=
    ⟨b4, x, hres, x, E', rfl, by rw [← h11]; exact o2⟩
  rcases hze with he | he
  · rw [he]; exact hb
  · rw [he]; exact hb

/-- Functions that are taken by what was shown of them. -/
def OrcOk (P : Program) (K : Toks) (orc : Nat → Option (List V → St → Option R)) : Prop :=
  ∀ f g, orc f = some g → ∀ vl st r, g vl st = some r → StOk st → Eff st r ∧ (∀ vs w, (callFunc f vs).run P w = .ok (.enter f vs) w) ∧
    ∀ E w vs, RelA E vl vs → Pre K E w st r → Calls P f vs.toArray w fun e u => ∃ v F, e = .returned v ∧ Out K E w st r F u v

/-- The executor tells the truth. -/
theorem evCall_ok (hP : ProgOk P) {orc : Nat → Option (List V → St → Option R)} (ho : OrcOk P K orc) (fuel : Nat) : ∀ d, CallOk P K (evCall P orc fuel d)
  | 0 => fun f vl st r h => by cases h
  | d + 1 => fun f vl st r h hst => by
    have h' : @Option.rec (List V → St → Option R) (fun _ => Option R) (runFn P (evCall P orc fuel d) fuel f vl st) (fun g => g vl st) (orc f) = some r := h
    cases hg : orc f with
    | none =>
      rw [hg] at h'
      exact runFn_ok hP (evCall_ok hP ho fuel d) h' hst
    | some g =>
      rw [hg] at h'
      exact ho f g hg vl st r h' hst

end
end Go.SX

namespace Go.Proofs.YtpaabengkidefaaGreat
namespace FE

/-- The value of a list of limbs, the least significant first. -/
def val : List Int → Int
  | [] => 0
  | x :: l => x + 1000000000 * val l

def Dig (l : List Int) : Prop := ∀ x ∈ l, 0 ≤ x ∧ x < 1000000000

theorem val_nil : val [] = 0 := rfl
theorem val_cons (x : Int) (l : List Int) : val (x :: l) = x + 1000000000 * val l := rfl

theorem Dig.nil : Dig [] := fun _ h => by cases h
theorem Dig.cons {x : Int} {l : List Int} (h0 : 0 ≤ x) (h1 : x < 1000000000) (h : Dig l) : Dig (x :: l) := by
  intro y hy
  rcases List.mem_cons.1 hy with rfl | hy
  · exact ⟨h0, h1⟩
  · exact h y hy
theorem Dig.head {x : Int} {l : List Int} (h : Dig (x :: l)) : 0 ≤ x ∧ x < 1000000000 := h x (by simp)
theorem Dig.tail {x : Int} {l : List Int} (h : Dig (x :: l)) : Dig l := fun y hy => h y (by simp [hy])
theorem Dig.append {a b : List Int} (ha : Dig a) (hb : Dig b) : Dig (a ++ b) := by
  intro x hx
  rcases List.mem_append.1 hx with h | h
  · exact ha x h
  · exact hb x h
theorem Dig.take {a : List Int} (h : Dig a) (n : Nat) : Dig (a.take n) := fun x hx => h x (List.mem_of_mem_take hx)
theorem Dig.drop {a : List Int} (h : Dig a) (n : Nat) : Dig (a.drop n) := fun x hx => h x (List.mem_of_mem_drop hx)
theorem Dig.get {a : List Int} (h : Dig a) (i : Nat) (hi : i < a.length) : 0 ≤ a[i] ∧ a[i] < 1000000000 := h _ (List.getElem_mem hi)
theorem Dig.getD {a : List Int} (h : Dig a) (i : Nat) : 0 ≤ a.getD i 0 ∧ a.getD i 0 < 1000000000 := by
  rw [List.getD_eq_getElem?_getD]
  by_cases hi : i < a.length
  · rw [List.getElem?_eq_getElem hi]; exact h.get i hi
  · rw [List.getElem?_eq_none (by omega)]; simp
theorem Dig.set {a : List Int} (h : Dig a) (i : Nat) {x : Int} (h0 : 0 ≤ x) (h1 : x < 1000000000) : Dig (a.set i x) := by
  intro y hy
  rcases List.mem_or_eq_of_mem_set hy with h' | rfl
  · exact h y h'
  · exact ⟨h0, h1⟩
theorem Dig.replicate (n : Nat) : Dig (List.replicate n 0) := by
  intro x hx
  rw [List.eq_of_mem_replicate hx]; omega

/-- Powers of the base. -/
def bp (n : Nat) : Int := 1000000000 ^ n
theorem bp_zero : bp 0 = 1 := by simp [bp]
theorem bp_succ (n : Nat) : bp (n + 1) = 1000000000 * bp n := by simp [bp, Int.pow_succ, Int.mul_comm]
theorem bp_pos (n : Nat) : 0 < bp n := Int.pow_pos (by omega)
theorem bp_add (m n : Nat) : bp (m + n) = bp m * bp n := by simp [bp, Int.pow_add]
theorem bp_mono {m n : Nat} (h : m ≤ n) : bp m ≤ bp n := by
  obtain ⟨k, rfl⟩ := Nat.exists_eq_add_of_le h
  rw [bp_add]
  have := bp_pos m
  have := bp_pos k
  calc bp m = bp m * 1 := by simp
    _ ≤ bp m * bp k := Int.mul_le_mul_of_nonneg_left (by omega) (by omega)

theorem val_append (a b : List Int) : val (a ++ b) = val a + bp a.length * val b := by
  induction a with
  | nil => simp [val, bp_zero]
  | cons x a ih =>
    simp only [List.cons_append, val_cons, ih, List.length_cons, bp_succ]
    grind

theorem val_nonneg {l : List Int} (h : Dig l) : 0 ≤ val l := by
  induction l with
  | nil => simp [val]
  | cons x l ih =>
    have := h.head
    have := ih h.tail
    rw [val_cons]; omega

theorem val_lt {l : List Int} (h : Dig l) : val l < bp l.length := by
  induction l with
  | nil => simp [val, bp_zero]
  | cons x l ih =>
    have := h.head
    have := ih h.tail
    rw [val_cons, List.length_cons, bp_succ]; omega

theorem val_replicate (n : Nat) : val (List.replicate n 0) = 0 := by
  induction n with
  | zero => rfl
  | succ n ih => rw [List.replicate_succ, val_cons, ih]; rfl

theorem val_take_succ (l : List Int) (i : Nat) (hi : i < l.length) : val (l.take (i + 1)) = val (l.take i) + bp i * l[i] := by
  rw [List.take_succ_eq_append_getElem hi, val_append, val_cons, val_nil, List.length_take]
  rw [Nat.min_eq_left (by omega)]; simp

theorem val_take_drop (l : List Int) (i : Nat) (hi : i ≤ l.length) : val l = val (l.take i) + bp i * val (l.drop i) := by
  conv => lhs; rw [← List.take_append_drop i l]
  rw [val_append, List.length_take, Nat.min_eq_left hi]

theorem val_set (l : List Int) (i : Nat) (x : Int) (hi : i < l.length) : val (l.set i x) = val l + bp i * (x - l[i]) := by
  induction l generalizing i with
  | nil => simp at hi
  | cons y l ih =>
    cases i with
    | zero => simp only [List.set_cons_zero, val_cons, bp_zero, List.getElem_cons_zero]; omega
    | succ i =>
      have := ih i (by simpa using hi)
      simp only [List.set_cons_succ, val_cons, List.getElem_cons_succ, this, bp_succ]
      grind

/-- No zero limb at the end. -/
def Top (l : List Int) : Prop := ∀ h : l ≠ [], l.getLast h ≠ 0

theorem Top.nil : Top [] := fun h => absurd rfl h
theorem Top.tail {x : Int} {l : List Int} (h : Top (x :: l)) : Top l := by
  intro hl
  have := h (by simp)
  rwa [List.getLast_cons hl] at this

theorem val_pos {l : List Int} (hd : Dig l) (ht : Top l) (hl : l ≠ []) : 0 < val l := by
  induction l with
  | nil => exact absurd rfl hl
  | cons x l ih =>
    have h1 := hd.head
    rw [val_cons]
    by_cases hn : l = []
    · subst hn
      have := ht (by simp)
      simp at this
      rw [val_nil]; omega
    · have := ih hd.tail ht.tail hn
      omega

theorem val_eq_zero {l : List Int} (hd : Dig l) (ht : Top l) : val l = 0 ↔ l = [] := by
  constructor
  · intro h
    by_cases hl : l = []
    · exact hl
    · have := val_pos hd ht hl; omega
  · rintro rfl; rfl

theorem val_inj {a b : List Int} (ha : Dig a) (hat : Top a) (hb : Dig b) (hbt : Top b) (h : val a = val b) : a = b := by
  induction a generalizing b with
  | nil => exact ((val_eq_zero hb hbt).1 (by rw [← h]; rfl)).symm
  | cons x a ih =>
    cases b with
    | nil => exact (val_eq_zero ha hat).1 (by rw [h]; rfl)
    | cons y b =>
      rw [val_cons, val_cons] at h
      have h1 := ha.head
      have h2 := hb.head
      have hxy : x = y := by omega
      have hab : val a = val b := by omega
      rw [hxy, ih ha.tail hat.tail hb.tail hbt.tail hab]

/-- The limbs of a number. -/
def toL (n : Nat) : List Int := if h : n = 0 then [] else ((n % 1000000000 : Nat) : Int) :: toL (n / 1000000000)
termination_by n
decreasing_by omega

theorem toL_zero : toL 0 = [] := by rw [toL]; simp
theorem toL_pos {n : Nat} (h : n ≠ 0) : toL n = ((n % 1000000000 : Nat) : Int) :: toL (n / 1000000000) := by rw [toL]; simp [h]

theorem toL_dig (n : Nat) : Dig (toL n) := by
  induction n using Nat.strongRecOn with
  | _ n ih =>
    by_cases h : n = 0
    · subst h; rw [toL_zero]; exact Dig.nil
    · rw [toL_pos h]
      exact Dig.cons (by omega) (by omega) (ih _ (by omega))

theorem val_toL (n : Nat) : val (toL n) = n := by
  induction n using Nat.strongRecOn with
  | _ n ih =>
    by_cases h : n = 0
    · subst h; rw [toL_zero]; rfl
    · rw [toL_pos h, val_cons, ih _ (by omega)]; omega

theorem toL_eq_nil {n : Nat} : toL n = [] ↔ n = 0 := by
  constructor
  · intro h
    have := val_toL n
    rw [h, val_nil] at this; omega
  · rintro rfl; exact toL_zero

theorem toL_top (n : Nat) : Top (toL n) := by
  induction n using Nat.strongRecOn with
  | _ n ih =>
    by_cases h : n = 0
    · subst h; rw [toL_zero]; exact Top.nil
    · intro hl
      have hrest := ih (n / 1000000000) (by omega)
      have e := toL_pos h
      by_cases hn : toL (n / 1000000000) = []
      · have h0 := toL_eq_nil.1 hn
        simp only [e, hn, List.getLast_singleton]
        omega
      · have := hrest hn
        simp only [e]
        rwa [List.getLast_cons hn]

theorem toL_val {l : List Int} (hd : Dig l) (ht : Top l) : toL (val l).toNat = l := by
  refine val_inj (toL_dig _) (toL_top _) hd ht ?_
  rw [val_toL]
  have := val_nonneg hd
  omega

theorem eq_toL {l : List Int} {n : Nat} (hd : Dig l) (ht : Top l) (hv : val l = n) : l = toL n := by
  rw [← toL_val hd ht, hv]; simp

/-- The number of limbs tells the size. -/
theorem val_ge {l : List Int} (hd : Dig l) (ht : Top l) (hl : l ≠ []) : bp (l.length - 1) ≤ val l := by
  induction l with
  | nil => exact absurd rfl hl
  | cons x l ih =>
    have h1 := hd.head
    rw [val_cons]
    by_cases hn : l = []
    · subst hn
      have := ht (by simp)
      simp at this
      simp [val_nil, bp_zero]; omega
    · have := ih hd.tail ht.tail hn
      have hlen : l.length ≠ 0 := by simpa using hn
      rw [List.length_cons, Nat.add_sub_cancel]
      have e : l.length = (l.length - 1) + 1 := by omega
      rw [e, bp_succ]; omega

theorem len_le_iff {l : List Int} (hd : Dig l) (ht : Top l) (k : Nat) : l.length ≤ k ↔ val l < bp k := by
  constructor
  · intro h
    have := val_lt hd
    have := bp_mono h
    omega
  · intro h
    by_cases hl : l = []
    · subst hl; simp
    · have h1 := val_ge hd ht hl
      by_cases hk : l.length ≤ k
      · exact hk
      · have := bp_mono (show k ≤ l.length - 1 by omega)
        omega

theorem toL_len_le (n k : Nat) : (toL n).length ≤ k ↔ (n : Int) < bp k := by
  rw [len_le_iff (toL_dig n) (toL_top n), val_toL]

/-- Cutting off the zeros at the end. -/
def trim : List Int → List Int
  | [] => []
  | x :: l => if x = 0 ∧ trim l = [] then [] else x :: trim l

theorem val_trim (l : List Int) : val (trim l) = val l := by
  induction l with
  | nil => rfl
  | cons x l ih =>
    simp only [trim]
    split
    · rename_i h
      rw [val_cons, ← ih, h.2, h.1]; rfl
    · rw [val_cons, ih, val_cons]

theorem dig_trim {l : List Int} (h : Dig l) : Dig (trim l) := by
  induction l with
  | nil => exact Dig.nil
  | cons x l ih =>
    simp only [trim]
    split
    · exact Dig.nil
    · exact Dig.cons h.head.1 h.head.2 (ih h.tail)

theorem top_trim (l : List Int) : Top (trim l) := by
  induction l with
  | nil => exact Top.nil
  | cons x l ih =>
    simp only [trim]
    split
    · exact Top.nil
    · rename_i h
      intro hl
      by_cases hn : trim l = []
      · simp only [hn, List.getLast_singleton]
        intro hx; exact h ⟨hx, hn⟩
      · rw [List.getLast_cons hn]; exact ih hn

theorem trim_snoc_zero (l : List Int) : trim (l ++ [0]) = trim l := by
  induction l with
  | nil => rfl
  | cons x l ih => simp only [List.cons_append, trim, ih]

theorem trim_snoc_ne (l : List Int) {x : Int} (hx : x ≠ 0) : trim (l ++ [x]) = l ++ [x] := by
  induction l with
  | nil => simp [trim, hx]
  | cons y l ih => simp [trim, ih]

theorem trim_eq {l : List Int} {n : Nat} (hd : Dig l) (hv : val l = n) : trim l = toL n :=
  eq_toL (dig_trim hd) (top_trim l) (by rw [val_trim, hv])

/-- A list of limbs that is a natural number of the program. -/
def NatOk (l : List Int) : Prop := l.length ≤ 60 ∧ Dig l ∧ Top l

theorem NatOk.toL {l : List Int} (h : NatOk l) : l = toL (val l).toNat := (toL_val h.2.1 h.2.2).symm

end FE
end Go.Proofs.YtpaabengkidefaaGreat
