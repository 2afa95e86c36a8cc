import PyProof.Rows.All
import HandS.ForMost
import HandS.Flow
import HandS.IsInst
import HandS.StrMore
import HandS.TupAny
import HandS.Deep
import HandS.Replace
import KE.GoesNew
import HandS.Iter
import HandS.Style
import HandS.Words
import HandS.SortKw
import HandS.Conv
import KE.DataMinMax
import HandS.Text
import PySem.Challenge.RW_patchforms_k45_opening_cut_anywhere
set_option Elab.async false
set_option linter.all false
set_option maxRecDepth 100000
set_option maxHeartbeats 4000000
/-! PX1: pure values for what the heap holds, stores of what changes, and how both lie in the layer's abstract heap. -/
namespace PX
open PySem L2

/-- data that does not change -/
inductive D where
  | non | bl (b : Bool) | int (i : Int) | str (s : List Nat) | tup (xs : List D) | lst (xs : List D) | dct (kvs : List (D × D)) | scr (ns : List Int)
/-- what a name holds: data, or the place of a thing that changes -/
inductive VV where
  | d (x : D) | loc (n : Nat) | fn (n : Nat)
/-- a thing that changes; dead: it does not change any more -/
inductive MO where
  | lst (xs : List D) | dct (kvs : List (D × D)) | dead
abbrev Store := List MO
abbrev Env := List (Option VV)
inductive Out (α : Type) where
  | ok (a : α) (st : Store) | fail
def Out.bind {α β : Type} (x : Out α) (f : α → Store → Out β) : Out β := match x with
  | .ok a st => f a st
  | .fail => .fail
@[simp] theorem Out.bind_okE {α β : Type} {a : α} {st : Store} {f : α → Store → Out β} : Out.bind (.ok a st) f = f a st := (rfl)
@[simp] theorem Out.bind_failE {α β : Type} {f : α → Store → Out β} : Out.bind .fail f = .fail := (rfl)
inductive Fl where
  | nx (σ : Env) | rt (v : VV) | bk (σ : Env) | ct (σ : Env)
abbrev Ex := Env → Store → Out VV
abbrev Sx := Env → Store → Out Fl
abbrev Fun := List VV → Store → Out VV

/-- the addresses of the store's things; none: it is dead -/
structure Mu where
  l : List (Option Addr)
  /-- lists that are being made -/
  hid : List Addr
def Mu.push (μ : Mu) (p : Addr) : Mu := ⟨μ.l ++ [some p], μ.hid⟩
def Mu.kill (μ : Mu) (n : Nat) : Mu := ⟨μ.l.set n none, μ.hid⟩
def Mu.take (μ : Mu) (n : Nat) : Mu := ⟨μ.l.take n, μ.hid⟩
def Mu.hide (μ : Mu) (p : Addr) : Mu := ⟨μ.l, p :: μ.hid⟩
def Live (μ : Mu) (a : Addr) : Prop := some a ∈ μ.l ∨ a ∈ μ.hid

section
variable (K : PySem.W.Frag) (M : Addr → Prop) (H : Hp)
def KeyRep : D → Key → Prop
  | .int i, .inl j => i = j
  | .str s, .inr x => x = ⟨s.toArray⟩
  | _, _ => False
mutual
def Rep : D → V → Prop
  | .non, v => v = .non
  | .bl b, v => v = .bl b
  | .int i, v => v = .int i
  | .str s, v => v = .str ⟨s.toArray⟩
  | .tup xs, v => ∃ a vs, v = .ref a ∧ SqT K H a vs ∧ Reps xs vs
  | .lst xs, v => ∃ a vs, v = .ref a ∧ H a = some (.lst vs) ∧ ¬ M a ∧ Reps xs vs
  | .scr ns, v => ∃ a, v = .ref a ∧ SqL K H a (ns.map V.int) ∧ (¬ SqL K (fun _ => none) a (ns.map V.int) → Rd H a (.lst (ns.map V.int)) ∧ ¬ M a)
  | .dct kvs, v => ∃ a ws, v = .ref a ∧ Rd H a (.dK ws) ∧ ¬ M a ∧ RepKs kvs ws
def Reps : List D → List V → Prop
  | [], vs => vs = []
  | d :: ds, vs => ∃ v r, vs = v :: r ∧ Rep d v ∧ Reps ds r
def RepKs : List (D × D) → List (Key × V) → Prop
  | [], ws => ws = []
  | (k, d) :: r, ws => ∃ k' v r', ws = (k', v) :: r' ∧ KeyRep k k' ∧ Rep d v ∧ RepKs r r'
end
end
section
variable (K : PySem.W.Frag) (μ : Mu) (H : Hp)
def RepV : VV → V → Prop
  | .d x, v => Rep K (Live μ) H x v
  | .loc n, v => ∃ oa a, v = .ref a ∧ μ.l[n]? = some oa ∧ (oa = some a ∨ oa = none)
  | .fn _, _ => False
def RepVs : List VV → List V → Prop := Paired (RepV K μ H)
def MRep (a : Addr) : MO → Prop
  | .lst xs => ∃ vs, H a = some (.lst vs) ∧ Reps K (Live μ) H xs vs
  | .dct kvs => ∃ ws, H a = some (.dK ws) ∧ RepKs K (Live μ) H kvs ws
  | .dead => False
end

/-- what changes lies in the store, and there alone -/
structure Cfg (K : PySem.W.Frag) (μ : Mu) (st : Store) (H : Hp) : Prop where
  len : μ.l.length = st.length
  hd : ∀ a ∈ μ.hid, some a ∉ μ.l ∧ ∃ vs, H a = some (.lst vs)
  there : ∀ (n : Nat) (a : Addr), μ.l[n]? = some (some a) → ∃ o, st[n]? = some o ∧ MRep K μ H a o
  gone : ∀ (n : Nat), μ.l[n]? = some none → st[n]? = some .dead
  nd : ∀ (n m : Nat) (a : Addr), μ.l[n]? = some (some a) → μ.l[m]? = some (some a) → n = m
/-- what does not change stands -/
structure Lr (M : Addr → Prop) (H : Hp) (M' : Addr → Prop) (H' : Hp) : Prop where
  rd : ∀ a u, ¬ M a → Rd H a u → Rd H' a u ∧ ¬ M' a
  eq : ∀ a vs, ¬ M a → H a = some (.lst vs) → H' a = some (.lst vs)
  tup : ∀ a vs, Rd H a (.tup vs) → Rd H' a (.tup vs)
/-- .. and what changes keeps its place, or is dead -/
structure Lw (μ : Mu) (H : Hp) (μ' : Mu) (H' : Hp) : Prop extends Lr (Live μ) H (Live μ') H' where
  at' : ∀ (n : Nat) oa, μ.l[n]? = some oa → ∃ oa', μ'.l[n]? = some oa' ∧ (oa' = oa ∨ oa' = none)
/-- .. and the lists that are being made stay -/
structure Le (μ : Mu) (H : Hp) (μ' : Mu) (H' : Hp) : Prop extends Lw μ H μ' H' where
  hk : μ'.hid = μ.hid ∧ ∀ a ∈ μ.hid, H' a = H a
theorem Lr.trans {M H M1 H1 M2 H2} (p : Lr M H M1 H1) (q : Lr M1 H1 M2 H2) : Lr M H M2 H2 where
  rd := fun a u h r => let ⟨r1, h1⟩ := p.rd a u h r; q.rd a u h1 r1
  eq := fun a vs h r => q.eq a vs (p.rd a _ h (.inl r)).2 (p.eq a vs h r)
  tup := fun a vs h => q.tup a vs (p.tup a vs h)
theorem Le.refl (μ : Mu) (H : Hp) : Le μ H μ H := ⟨⟨⟨fun _ _ h r => ⟨r, h⟩, fun _ _ _ h => h, fun _ _ h => h⟩, fun _ _ h => ⟨_, h, .inl rfl⟩⟩, ⟨rfl, fun _ _ => rfl⟩⟩
theorem Lw.trans {μ H μ1 H1 μ2 H2} (p : Lw μ H μ1 H1) (q : Lw μ1 H1 μ2 H2) : Lw μ H μ2 H2 where
  toLr := p.toLr.trans q.toLr
  at' := fun n oa h => by
    obtain ⟨o1, e1, d1⟩ := p.at' n oa h
    obtain ⟨o2, e2, d2⟩ := q.at' n o1 e1
    refine ⟨o2, e2, ?_⟩
    rcases d2 with d2 | d2
    · subst d2; exact d1
    · exact .inr d2

theorem Le.trans {μ H μ1 H1 μ2 H2} (p : Le μ H μ1 H1) (q : Le μ1 H1 μ2 H2) : Le μ H μ2 H2 where
  toLw := p.toLw.trans q.toLw
  hk := ⟨q.hk.1.trans p.hk.1, fun a h => (q.hk.2 a (p.hk.1 ▸ h)).trans (p.hk.2 a h)⟩

section
variable {K : PySem.W.Frag} {M M' : Addr → Prop} {H H' : Hp}
theorem Lr.sqT (l : Lr M H M' H') {a : Addr} {vs : List V} (h : SqT K H a vs) : SqT K H' a vs := by
  rcases h with h | h
  · exact .inl (l.tup a vs h)
  · exact .inr h
mutual
theorem Rep.mono (l : Lr M H M' H') : ∀ {d : D} {v : V}, Rep K M H d v → Rep K M' H' d v
  | .non, _, h => by unfold Rep at h ⊢; exact h
  | .bl _, _, h => by unfold Rep at h ⊢; exact h
  | .int _, _, h => by unfold Rep at h ⊢; exact h
  | .str _, _, h => by unfold Rep at h ⊢; exact h
  | .tup xs, v, h => by
    unfold Rep at h ⊢
    obtain ⟨a, vs, e, s, r⟩ := h
    exact ⟨a, vs, e, l.sqT s, Reps.mono l r⟩
  | .lst xs, v, h => by
    unfold Rep at h ⊢
    obtain ⟨a, vs, e, s, n, r⟩ := h
    obtain ⟨s', n'⟩ := l.rd a _ n (.inl s)
    exact ⟨a, vs, e, l.eq a _ n s, n', Reps.mono l r⟩
  | .scr ns, v, h => by
    unfold Rep at h ⊢
    obtain ⟨a, e, s, n⟩ := h
    by_cases q : SqL K (fun _ => none) a (ns.map V.int)
    · refine ⟨a, e, ?_, fun z => absurd q z⟩
      rcases q with q | q
      · rcases q with q | ⟨_, q⟩ <;> cases q
      · exact .inr q
    · obtain ⟨r, m⟩ := n q
      obtain ⟨s', n'⟩ := l.rd a _ m r
      exact ⟨a, e, .inl s', fun _ => ⟨s', n'⟩⟩
  | .dct kvs, v, h => by
    unfold Rep at h ⊢
    obtain ⟨a, vs, e, s, n, r⟩ := h
    obtain ⟨s', n'⟩ := l.rd a _ n s
    exact ⟨a, vs, e, s', n', RepKs.mono l r⟩
theorem Reps.mono (l : Lr M H M' H') : ∀ {ds : List D} {vs : List V}, Reps K M H ds vs → Reps K M' H' ds vs
  | [], _, h => by unfold Reps at h ⊢; exact h
  | d :: ds, vs, h => by
    unfold Reps at h ⊢
    obtain ⟨v, r, e, h1, h2⟩ := h
    exact ⟨v, r, e, Rep.mono l h1, Reps.mono l h2⟩
theorem RepKs.mono (l : Lr M H M' H') : ∀ {ds : List (D × D)} {vs : List (Key × V)}, RepKs K M H ds vs → RepKs K M' H' ds vs
  | [], _, h => by unfold RepKs at h ⊢; exact h
  | (k, d) :: ds, vs, h => by
    unfold RepKs at h ⊢
    obtain ⟨k', v, r, e, h1, h2, h3⟩ := h
    exact ⟨k', v, r, e, h1, Rep.mono l h2, RepKs.mono l h3⟩
end
theorem RepV.monoW {μ μ' : Mu} (l : Lw μ H μ' H') : ∀ {x : VV} {v : V}, RepV K μ H x v → RepV K μ' H' x v
  | .d x, v, h => Rep.mono (d := x) l.toLr h
  | .loc n, v, h => by
    obtain ⟨oa, a, ea, e, q⟩ := h
    obtain ⟨o', e', r⟩ := l.at' n oa e
    refine ⟨o', a, ea, e', ?_⟩
    rcases r with r | r
    · rw [r]; exact q
    · exact .inr r
  | .fn _, _, h => h
theorem RepV.mono {μ μ' : Mu} (l : Le μ H μ' H') {x : VV} {v : V} (h : RepV K μ H x v) : RepV K μ' H' x v := h.monoW l.toLw
theorem RepVs.mono {μ μ' : Mu} (l : Le μ H μ' H') : ∀ {xs : List VV} {vs : List V}, RepVs K μ H xs vs → RepVs K μ' H' xs vs
  | _, _, .nil => .nil
  | _, _, .cons a b => .cons (a.mono l) (RepVs.mono l b)
theorem Reps.length : ∀ {ds : List D} {vs : List V}, Reps K M H ds vs → ds.length = vs.length
  | [], vs, h => by unfold Reps at h; subst h; rfl
  | d :: ds, vs, h => by
    unfold Reps at h
    obtain ⟨v, r, rfl, h1, h2⟩ := h
    simp [Reps.length h2]
theorem Reps.get : ∀ {ds : List D} {vs : List V} {i : Nat} {d : D}, Reps K M H ds vs → ds[i]? = some d → ∃ v, vs[i]? = some v ∧ Rep K M H d v
  | [], _, i, _, _, e => by simp at e
  | x :: ds, vs, 0, d, h, e => by
    unfold Reps at h
    obtain ⟨v, r, rfl, h1, h2⟩ := h
    simp at e; subst e
    exact ⟨v, rfl, h1⟩
  | x :: ds, vs, i + 1, d, h, e => by
    unfold Reps at h
    obtain ⟨v, r, rfl, h1, h2⟩ := h
    obtain ⟨w, e1, e2⟩ := Reps.get (i := i) (d := d) h2 (by simpa using e)
    exact ⟨w, by simpa using e1, e2⟩
theorem Reps.append : ∀ {ds es : List D} {vs ws : List V}, Reps K M H ds vs → Reps K M H es ws → Reps K M H (ds ++ es) (vs ++ ws)
  | [], es, vs, ws, h, h' => by unfold Reps at h; subst h; exact h'
  | d :: ds, es, vs, ws, h, h' => by
    unfold Reps at h
    obtain ⟨v, r, rfl, h1, h2⟩ := h
    show Reps K M H (d :: (ds ++ es)) _
    unfold Reps
    exact ⟨v, r ++ ws, rfl, h1, Reps.append h2 h'⟩
theorem Reps.nil : Reps K M H [] [] := by unfold Reps; rfl
theorem Reps.cons {d : D} {v : V} {ds vs} (h : Rep K M H d v) (h' : Reps K M H ds vs) : Reps K M H (d :: ds) (v :: vs) := by
  unfold Reps; exact ⟨v, vs, rfl, h, h'⟩
theorem Reps.take : ∀ {ds : List D} {vs : List V} (n : Nat), Reps K M H ds vs → Reps K M H (ds.take n) (vs.take n)
  | [], vs, n, h => by unfold Reps at h; subst h; simpa using Reps.nil
  | d :: ds, vs, 0, h => by simpa using Reps.nil
  | d :: ds, vs, n + 1, h => by
    unfold Reps at h
    obtain ⟨v, r, rfl, h1, h2⟩ := h
    simpa using Reps.cons h1 (Reps.take n h2)
theorem Reps.drop : ∀ {ds : List D} {vs : List V} (n : Nat), Reps K M H ds vs → Reps K M H (ds.drop n) (vs.drop n)
  | [], vs, n, h => by unfold Reps at h; subst h; simpa using Reps.nil
  | d :: ds, vs, 0, h => by simpa using h
  | d :: ds, vs, n + 1, h => by
    unfold Reps at h
    obtain ⟨v, r, rfl, h1, h2⟩ := h
    simpa using Reps.drop n h2
theorem Reps.reverse : ∀ {ds : List D} {vs : List V}, Reps K M H ds vs → Reps K M H ds.reverse vs.reverse
  | [], vs, h => by unfold Reps at h; subst h; simpa using Reps.nil
  | d :: ds, vs, h => by
    unfold Reps at h
    obtain ⟨v, r, rfl, h1, h2⟩ := h
    simpa using Reps.append (Reps.reverse h2) (Reps.cons h1 Reps.nil)
theorem Reps.set : ∀ {ds : List D} {vs : List V} (i : Nat) {d : D} {v : V}, Reps K M H ds vs → Rep K M H d v → Reps K M H (ds.set i d) (vs.set i v)
  | [], vs, i, d, v, h, _ => by unfold Reps at h; subst h; simpa using Reps.nil
  | x :: ds, vs, 0, d, v, h, h' => by
    unfold Reps at h
    obtain ⟨w, r, rfl, h1, h2⟩ := h
    simpa using Reps.cons h' h2
  | x :: ds, vs, i + 1, d, v, h, h' => by
    unfold Reps at h
    obtain ⟨w, r, rfl, h1, h2⟩ := h
    simpa using Reps.cons h1 (Reps.set i h2 h')
theorem Reps.rep {ds : List D} {vs : List V} (h : Reps K M H ds vs) : ∀ k : Nat, Reps K M H (List.replicate k ds).flatten (List.replicate k vs).flatten
  | 0 => by simpa using Reps.nil
  | k + 1 => by
    rw [List.replicate_succ, List.replicate_succ, List.flatten_cons, List.flatten_cons]
    exact Reps.append h (Reps.rep h k)

/-! ### fresh objects, objects written -/
theorem rd_upd_ne {p a : Addr} {o u : HO} (h : a ≠ p) : Rd (upd H p o) a u ↔ Rd H a u := by
  unfold Rd; rw [upd_ne h]
theorem rd_ne_none {a : Addr} {u : HO} (h : Rd H a u) : H a ≠ none := by
  rcases h with h | ⟨o, h⟩ <;> rw [h] <;> simp
theorem rd_ne {a p : Addr} {u : HO} (h : Rd H a u) (hp : H p = none) : a ≠ p := fun e => rd_ne_none h (e ▸ hp)
variable {st : Store} {μ μ' : Mu}
theorem at_live {n : Nat} {a : Addr} (h : μ.l[n]? = some (some a)) : Live μ a := .inl (List.mem_of_getElem? h)
theorem live_at {a : Addr} (h : some a ∈ μ.l) : ∃ n : Nat, μ.l[n]? = some (some a) := List.mem_iff_getElem?.mp h
theorem Cfg.live_some (c : Cfg K μ st H) {a : Addr} (h : Live μ a) : ∃ o, H a = some o ∧ ((∃ vs, o = .lst vs) ∨ ∃ ws, o = .dK ws) := by
  rcases h with h | h
  · obtain ⟨n, e⟩ := live_at h
    obtain ⟨o, e1, m⟩ := c.there n a e
    cases o with
    | lst xs => obtain ⟨vs, e2, _⟩ := m; exact ⟨_, e2, .inl ⟨vs, rfl⟩⟩
    | dct xs => obtain ⟨vs, e2, _⟩ := m; exact ⟨_, e2, .inr ⟨vs, rfl⟩⟩
    | dead => exact m.elim
  · obtain ⟨_, vs, e⟩ := c.hd a h
    exact ⟨_, e, .inl ⟨vs, rfl⟩⟩
theorem Cfg.fresh (c : Cfg K μ st H) {p : Addr} (h : H p = none) : ¬ Live μ p := fun l => by
  obtain ⟨o, e, _⟩ := c.live_some l
  rw [h] at e; cases e
theorem Cfg.hid_ne (c : Cfg K μ st H) {a p : Addr} (h : a ∈ μ.hid) (hp : H p = none) : a ≠ p := fun e => c.fresh hp (.inr (e ▸ h))
theorem Le.new (c : Cfg K μ st H) {p : Addr} {o : HO} (hp : H p = none) : Le μ H μ (upd H p o) where
  rd := fun a u h r => ⟨(rd_upd_ne (rd_ne r hp)).mpr r, h⟩
  eq := fun a vs _ r => by rw [upd_ne (ne_of_none r hp)]; exact r
  tup := fun a vs r => (rd_upd_ne (rd_ne r hp)).mpr r
  hk := ⟨rfl, fun a h => upd_ne (c.hid_ne h hp)⟩
  at' := fun n oa h => ⟨oa, h, .inl rfl⟩
theorem MRep.mono (l : Lr (Live μ) H (Live μ') H') {a : Addr} (e : H' a = H a) : ∀ {o : MO}, MRep K μ H a o → MRep K μ' H' a o
  | .lst xs, h => by
    obtain ⟨vs, e1, r⟩ := h
    exact ⟨vs, e.trans e1, r.mono l⟩
  | .dct xs, h => by
    obtain ⟨vs, e1, r⟩ := h
    exact ⟨vs, e.trans e1, r.mono l⟩
  | .dead, h => h
theorem Cfg.new (c : Cfg K μ st H) {p : Addr} {o : HO} (hp : H p = none) : Cfg K μ st (upd H p o) where
  len := c.len
  hd := fun a h => ⟨(c.hd a h).1, by rw [upd_ne (c.hid_ne h hp)]; exact (c.hd a h).2⟩
  there := fun n a e => by
    obtain ⟨o', e1, m⟩ := c.there n a e
    have ne : a ≠ p := fun z => c.fresh hp (at_live (z ▸ e))
    exact ⟨o', e1, m.mono (Le.new c hp).toLr (upd_ne ne)⟩
  gone := c.gone
  nd := c.nd
theorem get_app {α : Type} (xs : List α) (y : α) (n : Nat) (z : α) : (xs ++ [y])[n]? = some z ↔ xs[n]? = some z ∨ (n = xs.length ∧ y = z) := by
  by_cases h : n < xs.length
  · rw [List.getElem?_append_left h]
    constructor
    · exact .inl
    · rintro (h' | ⟨h', _⟩)
      · exact h'
      · omega
  · rw [List.getElem?_append_right (by omega)]
    constructor
    · intro q
      by_cases h2 : n = xs.length
      · subst h2; simp at q; exact .inr ⟨rfl, q⟩
      · rw [List.getElem?_eq_none (by simp; omega)] at q; cases q
    · rintro (h' | ⟨h', rfl⟩)
      · obtain ⟨q, _⟩ := List.getElem?_eq_some_iff.mp h'; omega
      · subst h'; simp
/-- a new thing that changes -/
theorem Le.newLoc (c : Cfg K μ st H) {p : Addr} {o : HO} (hp : H p = none) : Le μ H (μ.push p) (upd H p o) where
  rd := fun a u h r => by
    refine ⟨(rd_upd_ne (rd_ne r hp)).mpr r, fun l => ?_⟩
    rcases l with l | l
    · rcases List.mem_append.mp l with l | l
      · exact h (.inl l)
      · have : a = p := by simpa using l
        exact rd_ne r hp this
    · exact h (.inr l)
  eq := fun a vs _ r => by rw [upd_ne (ne_of_none r hp)]; exact r
  tup := fun a vs r => (rd_upd_ne (rd_ne r hp)).mpr r
  hk := ⟨rfl, fun a h => upd_ne (c.hid_ne h hp)⟩
  at' := fun n oa h => ⟨oa, (get_app _ _ _ _).mpr (.inl h), .inl rfl⟩
theorem Cfg.newLoc (c : Cfg K μ st H) {p : Addr} {o : HO} {m : MO} (hp : H p = none) (hm : MRep K (μ.push p) (upd H p o) p m) : Cfg K (μ.push p) (st ++ [m]) (upd H p o) where
  len := by simp [Mu.push, c.len]
  hd := fun a h => by
    refine ⟨fun q => ?_, by rw [upd_ne (c.hid_ne h hp)]; exact (c.hd a h).2⟩
    rcases List.mem_append.mp q with q | q
    · exact (c.hd a h).1 q
    · have : a = p := by simpa using q
      exact c.hid_ne h hp this
  there := fun n a e => by
    rcases (get_app _ _ _ _).mp e with e | ⟨e1, e2⟩
    · obtain ⟨o', e1, m'⟩ := c.there n a e
      have ne : a ≠ p := fun z => c.fresh hp (at_live (z ▸ e))
      exact ⟨o', (get_app _ _ _ _).mpr (.inl e1), m'.mono (Le.newLoc c hp).toLr (upd_ne ne)⟩
    · cases e2
      exact ⟨m, (get_app _ _ _ _).mpr (.inr ⟨e1.trans c.len, rfl⟩), hm⟩
  gone := fun n e => by
    rcases (get_app _ _ _ _).mp e with e | ⟨e1, e2⟩
    · exact (get_app _ _ _ _).mpr (.inl (c.gone n e))
    · cases e2
  nd := fun n k a e1 e2 => by
    rcases (get_app _ _ _ _).mp e1 with e1 | ⟨e1, q1⟩
    · rcases (get_app _ _ _ _).mp e2 with e2 | ⟨e2, q2⟩
      · exact c.nd n k a e1 e2
      · cases q2; exact absurd (at_live e1) (c.fresh hp)
    · cases q1
      rcases (get_app _ _ _ _).mp e2 with e2 | ⟨e2, q2⟩
      · exact absurd (at_live e2) (c.fresh hp)
      · omega
/-- a thing is changed -/
theorem Cfg.notTup (c : Cfg K μ st H) {a : Addr} (hl : Live μ a) : ∀ vs, ¬ Rd H a (.tup vs) := fun vs r => by
  obtain ⟨o, e, h⟩ := c.live_some hl
  rcases r with r | ⟨ob, r⟩
  · rw [r] at e; cases e
    rcases h with ⟨_, h⟩ | ⟨_, h⟩ <;> cases h
  · rw [r] at e; cases e
    rcases h with ⟨_, h⟩ | ⟨_, h⟩ <;> cases h
theorem Lr.write {a : Addr} {o : HO} (hl : Live μ a) (nt : ∀ vs, ¬ Rd H a (.tup vs)) : Lr (Live μ) H (Live μ) (upd H a o) where
  rd := fun b u h r => by
    have ne : b ≠ a := fun z => h (z ▸ hl)
    exact ⟨(rd_upd_ne ne).mpr r, h⟩
  eq := fun b vs h r => by
    have ne : b ≠ a := fun z => h (z ▸ hl)
    rw [upd_ne ne]; exact r
  tup := fun b vs r => by
    have ne : b ≠ a := fun z => nt vs (z ▸ r)
    exact (rd_upd_ne ne).mpr r
theorem Le.write (c : Cfg K μ st H) {n : Nat} {a : Addr} {o : HO} (hn : μ.l[n]? = some (some a)) : Le μ H μ (upd H a o) where
  toLr := Lr.write (at_live hn) (c.notTup (at_live hn))
  hk := ⟨rfl, fun b h => upd_ne fun z => (c.hd b h).1 (z ▸ List.mem_of_getElem? hn)⟩
  at' := fun n oa h => ⟨oa, h, .inl rfl⟩
theorem Cfg.write (c : Cfg K μ st H) {n : Nat} {a : Addr} {o : HO} {m : MO} (hn : μ.l[n]? = some (some a)) (hm : MRep K μ (upd H a o) a m) : Cfg K μ (st.set n m) (upd H a o) where
  len := by simp [c.len]
  hd := fun b h => by
    have ne : b ≠ a := fun z => by subst z; exact (c.hd b h).1 (List.mem_of_getElem? hn)
    exact ⟨(c.hd b h).1, by rw [upd_ne ne]; exact (c.hd b h).2⟩
  there := fun k b e => by
    have hl : Live μ a := at_live hn
    by_cases hk : k = n
    · subst hk
      rw [hn] at e; cases e
      have : k < st.length := by rw [← c.len]; exact (List.getElem?_eq_some_iff.mp hn).1
      exact ⟨m, List.getElem?_set_self this, hm⟩
    · obtain ⟨o', e1, m'⟩ := c.there k b e
      have ne : b ≠ a := fun z => hk (c.nd k n a (z ▸ e) hn)
      exact ⟨o', by rw [List.getElem?_set_ne (Ne.symm hk)]; exact e1, m'.mono (Le.write c hn).toLr (upd_ne ne)⟩
  gone := fun k e => by
    have hk : n ≠ k := fun z => by subst z; rw [hn] at e; cases e
    rw [List.getElem?_set_ne hk]; exact c.gone k e
  nd := c.nd
/-- a thing is not changed any more -/
theorem kill_get {n k : Nat} {oa : Option Addr} (e : (μ.kill n).l[k]? = some oa) : (n = k ∧ oa = none) ∨ (n ≠ k ∧ μ.l[k]? = some oa) := by
  unfold Mu.kill at e
  by_cases hk : n = k
  · subst hk
    have hl : n < μ.l.length := by
      have := (List.getElem?_eq_some_iff.mp e).1
      simpa using this
    simp only at e
    rw [List.getElem?_set_self hl] at e
    cases e
    exact .inl ⟨rfl, rfl⟩
  · simp only at e
    rw [List.getElem?_set_ne hk] at e
    exact .inr ⟨hk, e⟩
theorem Cfg.kill (c : Cfg K μ st H) {n : Nat} {a : Addr} (hn : μ.l[n]? = some (some a)) : Cfg K (μ.kill n) (st.set n .dead) H ∧ Le μ H (μ.kill n) H ∧ ¬ Live (μ.kill n) a := by
  have nl0 : ∀ b, some b ∈ (μ.kill n).l → some b ∈ μ.l ∧ b ≠ a := fun b l => by
    obtain ⟨k, e⟩ := live_at (μ := μ.kill n) l
    rcases kill_get e with ⟨_, e⟩ | ⟨hk, e⟩
    · cases e
    · refine ⟨List.mem_of_getElem? e, fun z => hk ?_⟩
      exact c.nd n k a hn (z ▸ e)
  have nl : ∀ b, Live (μ.kill n) b → Live μ b := fun b l => by
    rcases l with l | l
    · exact .inl (nl0 b l).1
    · exact .inr l
  have le : Le μ H (μ.kill n) H := by
    refine ⟨⟨⟨fun b u h r => ⟨r, fun l => h (nl b l)⟩, fun _ _ _ h => h, fun _ _ h => h⟩, fun k oa h => ?_⟩, ⟨rfl, fun _ _ => rfl⟩⟩
    unfold Mu.kill
    by_cases hk : n = k
    · subst hk
      exact ⟨none, List.getElem?_set_self (List.getElem?_eq_some_iff.mp hn).1, .inr rfl⟩
    · exact ⟨oa, by rw [List.getElem?_set_ne hk]; exact h, .inl rfl⟩
  refine ⟨⟨by simp [Mu.kill, c.len], fun b h => ⟨fun q => (c.hd b h).1 (nl0 b q).1, (c.hd b h).2⟩, fun k b e => ?_, fun k e => ?_, fun k m b e1 e2 => ?_⟩, le, fun l => ?_⟩
  · rcases kill_get e with ⟨_, e⟩ | ⟨hk, e⟩
    · cases e
    · obtain ⟨o, e1, m⟩ := c.there k b e
      exact ⟨o, by rw [List.getElem?_set_ne hk]; exact e1, m.mono le.toLr rfl⟩
  · rcases kill_get e with ⟨hk, _⟩ | ⟨hk, e⟩
    · subst hk
      exact List.getElem?_set_self (by rw [← c.len]; exact (List.getElem?_eq_some_iff.mp hn).1)
    · rw [List.getElem?_set_ne hk]
      exact c.gone k e
  · rcases kill_get e1 with ⟨_, e1⟩ | ⟨_, e1⟩
    · cases e1
    · rcases kill_get e2 with ⟨_, e2⟩ | ⟨_, e2⟩
      · cases e2
      · exact c.nd k m b e1 e2
  · rcases l with l | l
    · exact (nl0 a l).2 rfl
    · exact (c.hd a l).1 (List.mem_of_getElem? hn)
/-- the things behind a place are left -/
theorem Cfg.cut (c : Cfg K μ st H) (n : Nat) : Cfg K (μ.take n) (st.take n) H ∧ Lr (Live μ) H (Live (μ.take n)) H := by
  have nl : ∀ b, Live (μ.take n) b → Live μ b := fun b l => by
    rcases l with l | l
    · exact .inl (List.mem_of_mem_take l)
    · exact .inr l
  have lr : Lr (Live μ) H (Live (μ.take n)) H := ⟨fun b u h r => ⟨r, fun l => h (nl b l)⟩, fun _ _ _ h => h, fun _ _ h => h⟩
  have gt : ∀ (k : Nat) (oa : Option Addr), (μ.take n).l[k]? = some oa → k < n ∧ μ.l[k]? = some oa := fun k oa e => by
    unfold Mu.take at e
    have hk : k < n := by
      have := (List.getElem?_eq_some_iff.mp e).1
      rw [List.length_take] at this; omega
    simp only at e
    rw [List.getElem?_take_of_lt hk] at e
    exact ⟨hk, e⟩
  refine ⟨⟨by simp [Mu.take, c.len], fun b h => ⟨fun q => (c.hd b h).1 (List.mem_of_mem_take q), (c.hd b h).2⟩, fun k b e => ?_, fun k e => ?_, fun k m b e1 e2 => c.nd k m b (gt k _ e1).2 (gt m _ e2).2⟩, lr⟩
  · obtain ⟨hk, e⟩ := gt k _ e
    obtain ⟨o, e1, m⟩ := c.there k b e
    exact ⟨o, by rw [List.getElem?_take_of_lt hk]; exact e1, m.mono lr rfl⟩
  · obtain ⟨hk, e⟩ := gt k _ e
    rw [List.getElem?_take_of_lt hk]
    exact c.gone k e
theorem Le.cut {μ0 : Mu} {H0 : Hp} (l : Le μ0 H0 μ H) (c : Cfg K μ st H) {n : Nat} (hn : μ0.l.length ≤ n) : Le μ0 H0 (μ.take n) H where
  toLr := l.toLr.trans (c.cut n).2
  hk := l.hk
  at' := fun k oa e => by
    obtain ⟨o1, e1, d⟩ := l.at' k oa e
    have : k < n := Nat.lt_of_lt_of_le (List.getElem?_eq_some_iff.mp e).1 hn
    exact ⟨o1, by unfold Mu.take; simp only; rw [List.getElem?_take_of_lt this]; exact e1, d⟩
/-- a list is being made -/
theorem Cfg.hide (c : Cfg K μ st H) {p : Addr} (hp : H p = none) {vs : List V} : Cfg K (μ.hide p) st (upd H p (.lst vs)) ∧ Lr (Live μ) H (Live (μ.hide p)) (upd H p (.lst vs)) := by
  have lr : Lr (Live μ) H (Live (μ.hide p)) (upd H p (.lst vs)) := by
    refine ⟨fun a u h r => ⟨(rd_upd_ne (rd_ne r hp)).mpr r, fun l => ?_⟩, fun a ws _ r => by rw [upd_ne (ne_of_none r hp)]; exact r, fun a ws r => (rd_upd_ne (rd_ne r hp)).mpr r⟩
    rcases l with l | l
    · exact h (.inl l)
    · rcases List.mem_cons.mp l with l | l
      · exact rd_ne r hp l
      · exact h (.inr l)
  refine ⟨⟨c.len, fun a h => ?_, fun n a e => ?_, c.gone, c.nd⟩, lr⟩
  · rcases List.mem_cons.mp h with rfl | h
    · exact ⟨fun q => c.fresh hp (.inl q), vs, upd_same⟩
    · exact ⟨(c.hd a h).1, by rw [upd_ne (c.hid_ne h hp)]; exact (c.hd a h).2⟩
  · obtain ⟨o', e1, m⟩ := c.there n a e
    have ne : a ≠ p := fun z => c.fresh hp (at_live (z ▸ e))
    exact ⟨o', e1, m.mono lr (upd_ne ne)⟩
/-- .. it grows -/
theorem Cfg.grow (c : Cfg K μ st H) {p : Addr} (hp : p ∈ μ.hid) {vs : List V} : Cfg K μ st (upd H p (.lst vs)) ∧ Lr (Live μ) H (Live μ) (upd H p (.lst vs)) := by
  have hl : Live μ p := .inr hp
  have lr : Lr (Live μ) H (Live μ) (upd H p (.lst vs)) := Lr.write hl (c.notTup hl)
  refine ⟨⟨c.len, fun a h => ⟨(c.hd a h).1, ?_⟩, fun n a e => ?_, c.gone, c.nd⟩, lr⟩
  · by_cases ha : a = p
    · subst ha; exact ⟨vs, upd_same⟩
    · rw [upd_ne ha]; exact (c.hd a h).2
  · obtain ⟨o', e1, m⟩ := c.there n a e
    have ne : a ≠ p := fun z => (c.hd p hp).1 (z ▸ List.mem_of_getElem? e)
    exact ⟨o', e1, m.mono lr (upd_ne ne)⟩
end
end PX

/-! PXD: what Python's operations do to pure values: plain functions. -/
namespace PX
open PySem

/-- what is read of a name's value -/
def rd (st : Store) : VV → Option D
  | .d x => some x
  | .loc n => match st[n]? with
    | some (.lst xs) => some (.lst xs)
    | some (.dct kvs) => some (.dct kvs)
    | _ => none
  | .fn _ => none
def ofO (o : Option D) (st : Store) : Out VV := match o with
  | some z => .ok (.d z) st
  | none => .fail
/-! ### names, constants -/
def eVar (i : Nat) : Ex := fun σ st => match σ[i]? with
  | some (some x) => .ok x st
  | _ => .fail
/-- a name's thing that changes, which does not change from here on -/
def eFrz (i : Nat) : Ex := fun σ st => match σ[i]? with
  | some (some (.loc n)) => match st[n]? with
    | some (.lst xs) => .ok (.d (.lst xs)) (st.set n .dead)
    | some (.dct kvs) => .ok (.d (.dct kvs)) (st.set n .dead)
    | _ => .fail
  | some (some (.d x)) => .ok (.d x) st
  | _ => .fail
def eC (d : D) : Ex := fun _ st => .ok (.d d) st
/-! ### two values, one value -/
def eBin (F : D → D → Option D) (f g : Ex) : Ex := fun σ st =>
  (f σ st).bind fun x st1 => (g σ st1).bind fun y st2 => match rd st2 x, rd st2 y with
    | some dx, some dy => ofO (F dx dy) st2
    | _, _ => .fail
def eUn (F : D → Option D) (f : Ex) : Ex := fun σ st =>
  (f σ st).bind fun x st1 => match rd st1 x with
    | some dx => ofO (F dx) st1
    | none => .fail
def line (n : Nat) : Bool := decide (n ≤ sizeLine)
def Fadd : D → D → Option D
  | .int i, .int j => some (.int (i + j))
  | .str a, .str b => if line (a.length + b.length) then some (.str (a ++ b)) else none
  | .tup a, .tup b => if line (a.length + b.length) then some (.tup (a ++ b)) else none
  | .lst a, .lst b => if line (a.length + b.length) then some (.lst (a ++ b)) else none
  | _, _ => none
def Fsub : D → D → Option D
  | .int i, .int j => some (.int (i - j))
  | _, _ => none
def small64 (i : Int) : Bool := decide (-(2 ^ 64) < i) && decide (i < 2 ^ 64)
def Fmul : D → D → Option D
  | .int i, .int j => if small64 i || small64 j then some (.int (i * j)) else none
  | .lst a, .int k => if decide (-(2 ^ 63) ≤ k) && decide (k < 2 ^ 63) && line (a.length * k.toNat) then some (.lst (List.replicate k.toNat a).flatten) else none
  | _, _ => none
def Fdiv : D → D → Option D
  | .int i, .int j => if decide (0 < j) && decide (j < 1073741824) then some (.int (i / j)) else none
  | _, _ => none
def Fmod : D → D → Option D
  | .int i, .int j => if decide (0 < j) then some (.int (i % j)) else none
  | _, _ => none
def Fpow : D → D → Option D
  | .int i, .int j => if decide (0 ≤ j) && decide (j ≤ 1000000) && decide (i.natAbs < 2 ^ 64) then some (.int (i ^ j.toNat)) else none
  | _, _ => none
def Fneg : D → Option D
  | .int i => some (.int (-i))
  | _ => none
/-! ### equality -/
mutual
def eqD : D → D → Bool
  | .non, .non => true
  | .bl a, .bl b => a == b
  | .bl a, .int j => (if a then 1 else 0) == j
  | .int i, .bl b => i == (if b then 1 else 0)
  | .int i, .int j => i == j
  | .str a, .str b => a == b
  | .tup a, .tup b => eqDs a b
  | .lst a, .lst b => eqDs a b
  | _, _ => false
def eqDs : List D → List D → Bool
  | [], [] => true
  | a :: as, b :: bs => eqD a b && eqDs as bs
  | _, _ => false
end
/-- data of depth n that == is known of -/
def okN : Nat → D → Bool
  | _, .non | _, .bl _ | _, .int _ => true
  | _, .str s => s.all (fun c => decide (c < 0x110000))
  | n + 1, .tup xs => xs.all (okN n)
  | n + 1, .lst xs => xs.all (okN n)
  | _, _ => false
def okD (d : D) : Bool := okN 64 d
def Feq (a b : D) : Option D := if okD a && okD b then some (.bl (eqD a b)) else none
def Fne (a b : D) : Option D := if okD a && okD b then some (.bl (!eqD a b)) else none
/-! ### order -/
def Flt : D → D → Option D
  | .int i, .int j => some (.bl (decide (i < j)))
  | .str a, .str b => some (.bl (decide (a < b)))
  | _, _ => none
def Fle : D → D → Option D
  | .int i, .int j => some (.bl (decide (i ≤ j)))
  | .str a, .str b => some (.bl (!decide (b < a)))
  | _, _ => none
def Fgt : D → D → Option D
  | .int i, .int j => some (.bl (decide (j < i)))
  | .str a, .str b => some (.bl (decide (b < a)))
  | _, _ => none
def Fge : D → D → Option D
  | .int i, .int j => some (.bl (decide (j ≤ i)))
  | .str a, .str b => some (.bl (!decide (a < b)))
  | _, _ => none
/-! ### in -/
def flat : D → Bool
  | .non | .bl _ | .int _ | .str _ => true
  | _ => false
/-- a within b, as a text -/
def subT (a : List Nat) : List Nat → Bool
  | [] => a.isEmpty
  | b@(_ :: r) => a.isPrefixOf b || subT a r
def Fin' (x : D) : D → Option Bool
  | .str b => match x with
    | .str [c] => some (decide (c ∈ b))
    | _ => none
  | .tup ys => if okD x && okD (.tup ys) then some (ys.any fun y => eqD y x) else none
  | .lst ys => if okD x && okD (.lst ys) then some (ys.any fun y => eqD y x) else none
  | _ => none
def Fin (x y : D) : Option D := (Fin' x y).map .bl
def Fnin (x y : D) : Option D := (Fin' x y).map fun b => .bl (!b)
/-! ### is None -/
def eIsN (f : Ex) : Ex := fun σ st => (f σ st).bind fun x st1 => match x with
  | .d .non => .ok (.d (.bl true)) st1
  | .fn _ => .fail
  | _ => .ok (.d (.bl false)) st1
def eNotN (f : Ex) : Ex := fun σ st => (f σ st).bind fun x st1 => match x with
  | .d .non => .ok (.d (.bl false)) st1
  | .fn _ => .fail
  | _ => .ok (.d (.bl true)) st1
/-! ### truth -/
def truth : D → Option Bool
  | .non => some false
  | .bl b => some b
  | .int i => some (i != 0)
  | .str s => if line s.length then some (!s.isEmpty) else none
  | .tup xs => some (!xs.isEmpty)
  | .lst xs => some (!xs.isEmpty)
  | .dct _ => none
  | .scr ns => some (!ns.isEmpty)
def truV (st : Store) (x : VV) : Option Bool := (rd st x).bind truth
abbrev Tx := Env → Store → Out Bool
/-- an expression as a test -/
def tE (f : Ex) : Tx := fun σ st => (f σ st).bind fun x st1 => match truV st1 x with
  | some b => .ok b st1
  | none => .fail
def tAnd' (f g : Tx) : Tx := fun σ st => (f σ st).bind fun b st1 => if b then g σ st1 else .ok false st1
def tOr' (f g : Tx) : Tx := fun σ st => (f σ st).bind fun b st1 => if b then .ok true st1 else g σ st1
def tNot' (f : Tx) : Tx := fun σ st => (f σ st).bind fun b st1 => .ok (!b) st1
/-- as values -/
def eAnd (f g : Ex) : Ex := fun σ st => (f σ st).bind fun x st1 => match truV st1 x with
  | some true => g σ st1
  | some false => .ok x st1
  | none => .fail
def eOr (f g : Ex) : Ex := fun σ st => (f σ st).bind fun x st1 => match truV st1 x with
  | some true => .ok x st1
  | some false => g σ st1
  | none => .fail
def eNot (f : Ex) : Ex := fun σ st => (f σ st).bind fun x st1 => match truV st1 x with
  | some b => .ok (.d (.bl (!b))) st1
  | none => .fail
def eIf (c : Tx) (f g : Ex) : Ex := fun σ st => (c σ st).bind fun b st1 => if b then f σ st1 else g σ st1
/-- a < b < c -/
def eChain (F G : D → D → Option D) (f g h : Ex) : Ex := fun σ st =>
  (f σ st).bind fun x st1 => (g σ st1).bind fun y st2 => match rd st2 x, rd st2 y with
    | some dx, some dy => match F dx dy with
      | some (.bl true) => (h σ st2).bind fun z st3 => match rd st3 y, rd st3 z with
        | some dy', some dz => ofO (match G dy' dz with | some (.bl b) => some (.bl b) | _ => none) st3
        | _, _ => .fail
      | some (.bl false) => .ok (.d (.bl false)) st2
      | _ => .fail
    | _, _ => .fail
/-! ### arguments, displays -/
def eArgs : List Ex → Env → Store → Out (List VV)
  | [], _, st => .ok [] st
  | f :: fs, σ, st => (f σ st).bind fun x st1 => (eArgs fs σ st1).bind fun xs st2 => .ok (x :: xs) st2
/-- data alone -/
def allD : List VV → Option (List D)
  | [] => some []
  | .d x :: r => (allD r).map (x :: ·)
  | _ :: _ => none
def eTup (fs : List Ex) : Ex := fun σ st => (eArgs fs σ st).bind fun xs st1 => match allD xs with
  | some ds => if line ds.length then .ok (.d (.tup ds)) st1 else .fail
  | none => .fail
def eLst (fs : List Ex) : Ex := fun σ st => (eArgs fs σ st).bind fun xs st1 => match allD xs with
  | some ds => if line ds.length then .ok (.d (.lst ds)) st1 else .fail
  | none => .fail
/-- a list that changes -/
def eNew (fs : List Ex) : Ex := fun σ st => (eArgs fs σ st).bind fun xs st1 => match allD xs with
  | some ds => if line ds.length then .ok (.loc st1.length) (st1 ++ [.lst ds]) else .fail
  | none => .fail
/-! ### places, slices -/
def ixI (n : Nat) (i : Int) : Option Nat := L2.ixN n i
def Fix : D → D → Option D
  | .lst xs, .int i => (ixI xs.length i).bind fun j => xs[j]?
  | .scr ns, .int i => (ixI ns.length i).bind fun j => (ns[j]?).map .int
  | .tup xs, .int i => (ixI xs.length i).bind fun j => xs[j]?
  | .str s, .int i => if line s.length then (ixI s.length i).bind fun j => (s[j]?).map fun c => .str [c] else none
  | _, _ => none
def optI (o : Option D) : Option (Option Int) := match o with
  | none => some none
  | some (.int i) => some (some i)
  | some _ => none
def cut {α : Type} (xs : List α) (lo hi : Option Int) : List α := (xs.drop (HT.sIx xs.length 0 lo)).take (HT.sIx xs.length xs.length hi - HT.sIx xs.length 0 lo)
def Fcut (x : D) (lo hi : Option Int) : Option D := match x with
  | .lst xs => some (.lst (cut xs lo hi))
  | .scr ns => some (.lst ((cut ns lo hi).map .int))
  | .tup xs => some (.tup (cut xs lo hi))
  | .str s => if line s.length then some (.str (cut s lo hi)) else none
  | _ => none
abbrev Px := Env → Store → Out (Option Int)
def pNone : Px := fun _ st => .ok none st
def pSome (f : Ex) : Px := fun σ st => (f σ st).bind fun x st1 => match x with
  | .d (.int i) => .ok (some i) st1
  | _ => .fail
def eCut (f : Ex) (lo hi : Px) : Ex := fun σ st => (f σ st).bind fun x st1 => (lo σ st1).bind fun l st2 => (hi σ st2).bind fun h st3 => match rd st3 x with
  | some dx => ofO (Fcut dx l h) st3
  | none => .fail
/-! ### calls of what is built in -/
def rdAll (st : Store) : List VV → Option (List D)
  | [] => some []
  | x :: r => match rd st x, rdAll st r with
    | some d, some ds => some (d :: ds)
    | _, _ => none
def eCall1 (F : List D → Option D) (fs : List Ex) : Ex := fun σ st => (eArgs fs σ st).bind fun xs st1 => match rdAll st1 xs with
  | some ds => ofO (F ds) st1
  | none => .fail
def allI : List D → Option (List Int)
  | [] => some []
  | .int i :: r => (allI r).map (i :: ·)
  | _ :: _ => none
def allB : List D → Option (List Bool)
  | [] => some []
  | .bl b :: r => (allB r).map (b :: ·)
  | _ :: _ => none
def allS : List D → Option (List (List Nat))
  | [] => some []
  | .str s :: r => (allS r).map (s :: ·)
  | _ :: _ => none
def Flen : List D → Option D
  | [.lst xs] => some (.int xs.length)
  | [.scr ns] => some (.int ns.length)
  | [.tup xs] => some (.int xs.length)
  | [.str s] => if line s.length then some (.int s.length) else none
  | _ => none
def Fsum : List D → Option D
  | [.lst xs] => (allI xs).map fun ns => .int ns.sum
  | _ => none
def Fall : List D → Option D
  | [.lst xs] => (allB xs).map fun bs => .bl (bs.all id)
  | _ => none
def Fany : List D → Option D
  | [.lst xs] => (allB xs).map fun bs => .bl (bs.any id)
  | _ => none
def maxI : List Int → Int
  | [] => 0
  | [a] => a
  | a :: r => max a (maxI r)
def Fmax : List D → Option D
  | [.int i, .int j] => some (.int (if j > i then j else i))
  | [.lst xs] => match allI xs with
    | some (n :: ns) => some (.int (maxI (n :: ns)))
    | _ => none
  | _ => none
def minI : List Int → Int
  | [] => 0
  | [a] => a
  | a :: r => min a (minI r)
def Fmin : List D → Option D
  | [.int i, .int j] => some (.int (if j < i then j else i))
  | [.lst xs] => match allI xs with
    | some (n :: ns) => some (.int (minI (n :: ns)))
    | _ => none
  | _ => none
def Fabs : List D → Option D
  | [.int i] => some (.int (if i < 0 then -i else i))
  | _ => none
def Fdivmod : List D → Option D
  | [.int i, .int j] => if decide (0 < j) && decide (j < 1073741824) then some (.tup [.int (i / j), .int (i % j)]) else none
  | _ => none
def Ftuple : List D → Option D
  | [.lst xs] => some (.tup xs)
  | [.tup xs] => some (.tup xs)
  | _ => none
def Flist : List D → Option D
  | [.lst xs] => some (.lst xs)
  | [.tup xs] => some (.lst xs)
  | _ => none
/-- the decimal signs of a number -/
def numT (n : Nat) : List Nat := (Nat.toDigits 10 n).map Char.toNat
def intT (i : Int) : List Nat := if i < 0 then 45 :: numT i.natAbs else numT i.natAbs
def Fstr : List D → Option D
  | [.int i] => if decide (i.natAbs.log2 < 1920) then some (.str (intT i)) else none
  | _ => none
def Fint : List D → Option D
  | [.int i] => some (.int i)
  | [.bl k] => some (.int (if k then 1 else 0))
  | [.str s] => match intText? ⟨s.toArray⟩ with
    | some n => if decide (s.length ≤ 640) then some (.int n) else none
    | none => none
  | _ => none
/-! ### isinstance -/
inductive Ty where
  | int | bool | str | tuple | list | dict
  deriving DecidableEq
def tyOf : D → Option Ty
  | .non => none
  | .bl _ => some .bool
  | .int _ => some .int
  | .str _ => some .str
  | .tup _ => some .tuple
  | .lst _ => some .list
  | .scr _ => none
  | .dct _ => some .dict
def isTy (d : D) (t : Ty) : Bool := match tyOf d with
  | none => false
  | some u => u == t || (u == .bool && t == .int)
def eIs (f : Ex) (t : Ty) : Ex := fun σ st => (f σ st).bind fun x st1 => match rd st1 x with
  | some (.scr _) => .fail
  | some d => .ok (.d (.bl (isTy d t))) st1
  | none => .fail
def eIsAny (f : Ex) (ts : List Ty) : Ex := fun σ st => (f σ st).bind fun x st1 => match rd st1 x with
  | some (.scr _) => .fail
  | some d => .ok (.d (.bl (ts.any (isTy d)))) st1
  | none => .fail
/-! ### methods that change nothing -/
def tyIs (st : Store) (x : VV) (T : Ty) : Bool := match rd st x with
  | some d => decide (tyOf d = some T)
  | none => false
def eMeth (T : Ty) (F : D → List D → Option D) (f : Ex) (fs : List Ex) : Ex := fun σ st => (f σ st).bind fun x st1 => if tyIs st1 x T then (eArgs fs σ st1).bind fun xs st2 => match rd st2 x, rdAll st2 xs with
  | some d, some ds => ofO (F d ds) st2
  | _, _ => .fail else .fail
def idxOf? (x : D) : List D → Option Nat
  | [] => none
  | y :: r => if eqD y x then some 0 else (idxOf? x r).map (· + 1)
def MidxS : D → List D → Option D
  | .str s, [.str [c]] => if c ∈ s then some (.int (s.idxOf c)) else none
  | _, _ => none
def MidxL : D → List D → Option D
  | .lst ys, [x] => if okD x && okD (.lst ys) then (idxOf? x ys).map fun j => .int j else none
  | _, _ => none
def joinT (s : List Nat) : List (List Nat) → List Nat
  | [] => []
  | [a] => a
  | a :: b :: r => a ++ (s ++ joinT s (b :: r))
def Mjoin : D → List D → Option D
  | .str s, [.lst xs] => match allS xs with
    | some ts => if decide ((ts.map List.length).sum + ts.length * s.length ≤ 16777216) then some (.str (joinT s ts)) else none
    | none => none
  | .str s, [.tup xs] => match allS xs with
    | some ts => if decide ((ts.map List.length).sum + ts.length * s.length ≤ 16777216) then some (.str (joinT s ts)) else none
    | none => none
  | _, _ => none
def zfillT (s : List Nat) (n : Nat) : List Nat := if s.head? = some 43 ∨ s.head? = some 45 then s else List.replicate (n - s.length) 48 ++ s
def Mzfill : D → List D → Option D
  | .str s, [.int n] => if decide (0 ≤ n) && decide (n ≤ 1000) && !(s.head? == some 43 || s.head? == some 45) then some (.str (List.replicate (n.toNat - s.length) 48 ++ s)) else none
  | _, _ => none
def Mstarts : D → List D → Option D
  | .str s, [.str t] => some (.bl (t.isPrefixOf s))
  | _, _ => none
/-! ### methods that change -/
def eApp (f g : Ex) : Ex := fun σ st => (f σ st).bind fun x st1 => if tyIs st1 x .list then (g σ st1).bind fun y st2 => match x, y with
  | .loc n, .d dy => match st2[n]? with
    | some (.lst xs) => if decide (xs.length < sizeLine) then .ok (.d .non) (st2.set n (.lst (xs ++ [dy]))) else .fail
    | _ => .fail
  | _, _ => .fail else .fail
def eExt (f g : Ex) : Ex := fun σ st => (f σ st).bind fun x st1 => if tyIs st1 x .list then (g σ st1).bind fun y st2 => match x, y with
  | .loc n, .d (.lst ys) => match st2[n]? with
    | some (.lst xs) => if line (xs.length + ys.length) then .ok (.d .non) (st2.set n (.lst (xs ++ ys))) else .fail
    | _ => .fail
  | _, _ => .fail else .fail
def ePop (f : Ex) : Ex := fun σ st => (f σ st).bind fun x st1 => match x with
  | .loc n => match st1[n]? with
    | some (.lst xs) => match xs[xs.length - 1]? with
      | some y => .ok (.d y) (st1.set n (.lst xs.dropLast))
      | none => .fail
    | _ => .fail
  | _ => .fail
/-! ### what is walked -/
def signs (s : List Nat) : List D := s.map fun c => .str [c]
def itemsOf : D → Option (List D)
  | .lst xs => some xs
  | .scr ns => some (ns.map .int)
  | .tup xs => some xs
  | .str s => some (signs s)
  | _ => none
def irange (lo : Int) (n : Nat) (c : Int) : List D := (List.range n).map fun (k : Nat) => .int (lo + (k : Int) * c)
/-- what a walk yields; a thing that it walks and that may not change -/
abbrev Ix := Env → Store → Out (List D × Option (Nat × MO))
def iE (f : Ex) : Ix := fun σ st => (f σ st).bind fun x st1 => match x with
  | .d d => match itemsOf d with
    | some ds => .ok (ds, none) st1
    | none => .fail
  | .loc n => match st1[n]? with
    | some (.lst xs) => .ok (xs, some (n, .lst xs)) st1
    | _ => .fail
  | .fn _ => .fail
def b62 (i : Int) : Bool := decide (-(2 ^ 62) ≤ i) && decide (i < 2 ^ 62)
def b61 (i : Int) : Bool := decide (-(2 ^ 61) ≤ i) && decide (i < 2 ^ 61)
def iRange (fs : List Ex) : Ix := fun σ st => (eArgs fs σ st).bind fun xs st1 => match xs with
  | [.d (.int j)] => if b62 j then .ok (irange 0 j.toNat 1, none) st1 else .fail
  | [.d (.int i), .d (.int j)] => if b62 i && b62 j then .ok (irange i (j - i).toNat 1, none) st1 else .fail
  | [.d (.int i), .d (.int j), .d (.int c)] => if b61 i && b61 j && decide (0 < c) && decide (c < 1073741824) then .ok (irange i ((j - i + c - 1) / c).toNat c, none) st1 else .fail
  | _ => .fail
def pairs (k : Int) : List D → List D
  | [] => []
  | d :: r => .tup [.int k, d] :: pairs (k + 1) r
def zips : List D → List D → List D
  | a :: as, b :: bs => .tup [a, b] :: zips as bs
  | _, _ => []
def iEnum (k : Int) (f : Ex) : Ix := fun σ st => (f σ st).bind fun x st1 => match x with
  | .d d => match itemsOf d with
    | some ds => .ok (pairs k ds, none) st1
    | none => .fail
  | .loc n => match st1[n]? with
    | some (.lst xs) => .ok (pairs k xs, some (n, .lst xs)) st1
    | _ => .fail
  | .fn _ => .fail
/-! ### targets -/
abbrev Gx := VV → Env → Store → Out Env
def gN (i : Nat) : Gx := fun v σ st => if i < σ.length then .ok (σ.set i (some v)) st else .fail
def gAll : List Gx → List D → Env → Store → Out Env
  | [], [], σ, st => .ok σ st
  | g :: gs, d :: ds, σ, st => (g (.d d) σ st).bind fun σ1 st1 => gAll gs ds σ1 st1
  | _, _, _, _ => .fail
def gT (gs : List Gx) : Gx := fun v σ st => match v with
  | .d (.tup ds) => gAll gs ds σ st
  | _ => .fail
/-- o[i] = -/
def gS (f g : Ex) : Gx := fun v σ st => (f σ st).bind fun x st1 => (g σ st1).bind fun y st2 => match x, y, v with
  | .loc n, .d (.int i), .d dv => match st2[n]? with
    | some (.lst xs) => match ixI xs.length i with
      | some j => .ok σ (st2.set n (.lst (xs.set j dv)))
      | none => .fail
    | _ => .fail
  | _, _, _ => .fail
/-! ### statements -/
def sNil : Sx := fun σ st => .ok (.nx σ) st
def sSeq (f g : Sx) : Sx := fun σ st => (f σ st).bind fun r st1 => match r with
  | .nx σ1 => g σ1 st1
  | r => .ok r st1
def sAsg (f : Ex) (g : Gx) : Sx := fun σ st => (f σ st).bind fun x st1 => (g x σ st1).bind fun σ1 st2 => .ok (.nx σ1) st2
/-- a, b = e1, e2 with plain names -/
def sPar (is : List Nat) (fs : List Ex) : Sx := fun σ st => (eArgs fs σ st).bind fun xs st1 => if xs.length = is.length ∧ ∀ i ∈ is, i < σ.length then .ok (.nx ((is.zip xs).foldl (fun σ p => σ.set p.1 (some p.2)) σ)) st1 else .fail
def sExpr (f : Ex) : Sx := fun σ st => (f σ st).bind fun _ st1 => .ok (.nx σ) st1
def sRet (f : Ex) : Sx := fun σ st => (f σ st).bind fun x st1 => .ok (.rt x) st1
def sRetN : Sx := fun _ st => .ok (.rt (.d .non)) st
def sIf (c : Tx) (f g : Sx) : Sx := fun σ st => (c σ st).bind fun b st1 => if b then f σ st1 else g σ st1
def sPass : Sx := fun σ st => .ok (.nx σ) st
def sBrk : Sx := fun σ st => .ok (.bk σ) st
def sCont : Sx := fun σ st => .ok (.ct σ) st
def sFail : Sx := fun _ _ => .fail
open Classical in
noncomputable def kept (w : Option (Nat × MO)) (st : Store) : Bool := match w with
  | none => true
  | some (n, o) => decide (st[n]? = some o)
noncomputable def fLoop (w : Option (Nat × MO)) (g : Gx) (b : Sx) : List D → Env → Store → Out Fl
  | [], σ, st => .ok (.nx σ) st
  | d :: ds, σ, st => (g (.d d) σ st).bind fun σ1 st1 => (b σ1 st1).bind fun r st2 => match r with
    | .nx σ2 => if kept w st2 then fLoop w g b ds σ2 st2 else .fail
    | .ct σ2 => if kept w st2 then fLoop w g b ds σ2 st2 else .fail
    | .bk σ2 => .ok (.nx σ2) st2
    | .rt v => .ok (.rt v) st2
noncomputable def sFor (it : Ix) (g : Gx) (b : Sx) : Sx := fun σ st => (it σ st).bind fun p st1 => fLoop p.2 g b p.1 σ st1
def wLoop (c : Tx) (b : Sx) : Nat → Env → Store → Out Fl
  | 0, _, _ => .fail
  | n + 1, σ, st => (c σ st).bind fun t st1 => if t then (b σ st1).bind fun r st2 => match r with
    | .nx σ2 => wLoop c b n σ2 st2
    | .ct σ2 => wLoop c b n σ2 st2
    | .bk σ2 => .ok (.nx σ2) st2
    | .rt v => .ok (.rt v) st2 else .ok (.nx σ) st1
open Classical in
/-- a while of as many turns as it takes -/
noncomputable def sWhile (c : Tx) (b : Sx) : Sx := fun σ st => if h : ∃ n r st', wLoop c b n σ st = .ok r st' then wLoop c b h.choose σ st else .fail
/-! ### comprehensions -/
def wipeE (σ : Env) : List Nat → Env
  | [] => σ
  | v :: vs => (wipeE σ vs).set v none
noncomputable def cLoop (w : Option (Nat × MO)) (g : Gx) (t : Tx) (e : Ex) (σ : Env) : List D → List D → Store → Out (List D)
  | [], acc, st => .ok acc st
  | d :: ds, acc, st => (g (.d d) σ st).bind fun σ1 st1 => (t σ1 st1).bind fun b st2 => if b then (e σ1 st2).bind fun x st3 => match x with
      | .d y => if kept w st3 && decide (acc.length < sizeLine) then cLoop w g t e σ ds (acc ++ [y]) st3 else .fail
      | _ => .fail
    else if kept w st2 then cLoop w g t e σ ds acc st2 else .fail
def tTrue : Tx := fun _ st => .ok true st
noncomputable def eComp (vs : List Nat) (it : Ix) (g : Gx) (t : Tx) (e : Ex) : Ex := fun σ st => (it σ st).bind fun p st1 => (cLoop p.2 g t e (wipeE σ vs) p.1 [] st1).bind fun ds st2 => .ok (.d (.lst ds)) st2
/-! ### defs -/
def eCall (f : Fun) (fs : List Ex) : Ex := fun σ st => (eArgs fs σ st).bind fun xs st1 => f xs st1
/-- f(.., k = ..): the values in the parameters' order by perm -/
def permV (perm : List Nat) (xs : List VV) : List VV := perm.map fun i => xs.getD i (.d .non)
def eCallK (f : Fun) (perm : List Nat) (fs gs : List Ex) : Ex := fun σ st => (eArgs fs σ st).bind fun xs st1 => (eArgs gs σ st1).bind fun ys st2 => f (permV perm (xs ++ ys)) st2
/-- what a def's body hands back, the things that it made left -/
def leave (n : Nat) (r : Out Fl) : Out VV := r.bind fun f st => match f with
  | .rt (.d x) => .ok (.d x) (st.take n)
  | .rt (.loc m) => if m < n then .ok (.loc m) (st.take n) else match st[m]? with
    | some o => .ok (.loc n) (st.take n ++ [o])
    | none => .fail
  | .nx _ => .ok (.d .non) (st.take n)
  | _ => .fail
def enter (N : Nat) (xs : List VV) : Env := xs.map some ++ List.replicate (N - xs.length) none
def runF (ps N : Nat) (b : Sx) : Fun := fun xs st => if xs.length = ps then leave st.length (b (enter N xs) st) else .fail
/-- list(range(..)) -/
def eLRange (fs : List Ex) : Ex := fun σ st => (iRange fs σ st).bind fun p st1 => if line p.1.length then .ok (.d (.lst p.1)) st1 else .fail
/-- a call with keywords of what is built in -/
def eCallK1 (F : List D → List D → Option D) (fs gs : List Ex) : Ex := fun σ st => (eArgs fs σ st).bind fun xs st1 => (eArgs gs σ st1).bind fun ys st2 => match rdAll st2 xs, rdAll st2 ys with
  | some ds, some es => ofO (F ds es) st2
  | _, _ => .fail
def atomI : D → Bool
  | .non | .bl _ | .int _ | .str _ => true
  | _ => false
def FmaxD : List D → List D → Option D
  | [.lst xs], [d] => if atomI d then match allI xs with
    | some [] => some d
    | some (n :: ns) => some (.int (maxI (n :: ns)))
    | none => none
    else none
  | _, _ => none
end PX

/-! PX2: the layer's readings of expressions, by the plain functions. -/
namespace PX
open PySem PySem.Spec PyProof.Rows L2 TL

/-! ### texts -/
theorem len_mk (s : List Nat) : (⟨s.toArray⟩ : Str).length = s.length := by simp [Str.length]
theorem mk_append (a b : List Nat) : (⟨a.toArray⟩ : Str) ++ (⟨b.toArray⟩ : Str) = ⟨(a ++ b).toArray⟩ := ext_tl (by rw [tl_append])
theorem mk_inj {a b : List Nat} : ((⟨a.toArray⟩ : Str) = ⟨b.toArray⟩) ↔ a = b := by
  constructor
  · intro h
    have := congrArg (fun x : Str => x.cps.toList) h
    simpa using this
  · rintro rfl; rfl
theorem line_le {n : Nat} (h : line n = true) : n ≤ sizeLine := of_decide_eq_true h

section
variable {K : PySem.W.Frag} {μ μ' : Mu} {H H' : Hp} {st st' : Store} {M : Addr → Prop}
/-- what is read of a value, as it lies now -/
def RepR (K : PySem.W.Frag) (M : Addr → Prop) (H : Hp) : D → V → Prop
  | .lst xs, v => ∃ a vs, v = .ref a ∧ H a = some (.lst vs) ∧ Reps K M H xs vs
  | .dct kvs, v => ∃ a ws, v = .ref a ∧ Rd H a (.dK ws) ∧ RepKs K M H kvs ws
  | d, v => Rep K M H d v
theorem RepR.of {d : D} {v : V} (h : Rep K M H d v) : RepR K M H d v := by
  cases d with
  | lst xs => unfold Rep at h; obtain ⟨a, vs, e, r, _, s⟩ := h; exact ⟨a, vs, e, r, s⟩
  | dct xs => unfold Rep at h; obtain ⟨a, vs, e, r, _, s⟩ := h; exact ⟨a, vs, e, r, s⟩
  | _ => exact h
theorem rd_rep (c : Cfg K μ st H) {x : VV} {v : V} {d : D} (r : RepV K μ H x v) (e : rd st x = some d) : RepR K (Live μ) H d v := by
  cases x with
  | d y => cases e; exact RepR.of r
  | fn n => cases e
  | loc n =>
    obtain ⟨oa, a', ea, e1, q⟩ := r
    cases oa with
    | none => simp [rd, c.gone n e1] at e
    | some a =>
      have : a = a' := by rcases q with q | q; exact Option.some.inj q; cases q
      subst this
      obtain ⟨o, e2, m⟩ := c.there n a e1
      cases o with
      | lst xs =>
        simp [rd, e2] at e; subst e
        obtain ⟨vs, e3, r3⟩ := m
        exact ⟨a, vs, ea, e3, r3⟩
      | dct xs =>
        simp [rd, e2] at e; subst e
        obtain ⟨vs, e3, r3⟩ := m
        exact ⟨a, vs, ea, .inl e3, r3⟩
      | dead => exact m.elim
theorem RepR.int {i : Int} {v : V} (h : RepR K M H (.int i) v) : v = .int i := by unfold RepR Rep at h; exact h
theorem RepR.bl {i : Bool} {v : V} (h : RepR K M H (.bl i) v) : v = .bl i := by unfold RepR Rep at h; exact h
theorem RepR.non {v : V} (h : RepR K M H .non v) : v = .non := by unfold RepR Rep at h; exact h
theorem RepR.str {s : List Nat} {v : V} (h : RepR K M H (.str s) v) : v = .str ⟨s.toArray⟩ := by unfold RepR Rep at h; exact h
theorem RepR.tup {xs : List D} {v : V} (h : RepR K M H (.tup xs) v) : ∃ a vs, v = .ref a ∧ SqT K H a vs ∧ Reps K M H xs vs := by unfold RepR Rep at h; exact h
theorem RepR.lst {xs : List D} {v : V} (h : RepR K M H (.lst xs) v) : ∃ a vs, v = .ref a ∧ SqL K H a vs ∧ Reps K M H xs vs := by
  obtain ⟨a, vs, e, r, s⟩ := h; exact ⟨a, vs, e, SqL.of r, s⟩
theorem RepR.scr {ns : List Int} {v : V} (h : RepR K M H (.scr ns) v) : ∃ a, v = .ref a ∧ SqL K H a (ns.map V.int) := by
  unfold RepR Rep at h
  obtain ⟨a, e, s, _⟩ := h; exact ⟨a, e, s⟩
theorem Reps.ints : ∀ ns : List Int, Reps K M H (ns.map D.int) (ns.map V.int)
  | [] => Reps.nil
  | n :: ns => Reps.cons (by unfold Rep; rfl) (Reps.ints ns)
theorem Rep.int {i : Int} : Rep K M H (.int i) (.int i) := by unfold Rep; rfl
theorem Rep.bl {b : Bool} : Rep K M H (.bl b) (.bl b) := by unfold Rep; rfl
theorem Rep.non : Rep K M H .non .non := by unfold Rep; rfl
theorem Rep.str {s : List Nat} : Rep K M H (.str s) (.str ⟨s.toArray⟩) := by unfold Rep; rfl
theorem Rep.tup {xs : List D} {a : Addr} {vs : List V} (h : SqT K H a vs) (r : Reps K M H xs vs) : Rep K M H (.tup xs) (.ref a) := by unfold Rep; exact ⟨a, vs, rfl, h, r⟩
theorem Rep.lst {xs : List D} {a : Addr} {vs : List V} (h : H a = some (.lst vs)) (n : ¬ M a) (r : Reps K M H xs vs) : Rep K M H (.lst xs) (.ref a) := by unfold Rep; exact ⟨a, vs, rfl, h, n, r⟩
theorem RepV.bl {b : Bool} : RepV K μ H (.d (.bl b)) (.bl b) := by unfold RepV Rep; rfl
theorem RepV.non : RepV K μ H (.d .non) .non := by unfold RepV Rep; rfl
theorem RepV.int {i : Int} : RepV K μ H (.d (.int i)) (.int i) := by unfold RepV Rep; rfl
theorem RepV.d {x : D} {v : V} (h : Rep K (Live μ) H x v) : RepV K μ H (.d x) v := h
/-- a new tuple, a new list -/
theorem Rep.newTup (cf : Cfg K μ st H) {xs : List D} {vs : List V} {p : Addr} (hp : H p = none) (r : Reps K (Live μ) H xs vs) : Rep K (Live μ) (upd H p (.tup vs)) (.tup xs) (.ref p) :=
  Rep.tup (SqT.of upd_same) (r.mono (Le.new cf hp).toLr)
theorem Rep.newLst (cf : Cfg K μ st H) {xs : List D} {vs : List V} {p : Addr} (hp : H p = none) (r : Reps K (Live μ) H xs vs) : Rep K (Live μ) (upd H p (.lst vs)) (.lst xs) (.ref p) :=
  Rep.lst upd_same (cf.fresh hp) (r.mono (Le.new cf hp).toLr)
theorem Reps.nil_iff {xs : List D} {vs : List V} (r : Reps K M H xs vs) : xs = [] ↔ vs = [] := by
  have := r.length
  constructor
  · rintro rfl; cases vs with | nil => rfl | cons _ _ => simp at this
  · rintro rfl; cases xs with | nil => rfl | cons _ _ => simp at this

/-- names, store and heap -/
structure Rel (K : PySem.W.Frag) (μ : Mu) (σ : Env) (st : Store) (σV : L2.St) (H : Hp) : Prop where
  cfg : Cfg K μ st H
  len : σ.length = σV.length
  env : ∀ (i : Nat) x, σ[i]? = some (some x) → ∃ v, σV[i]? = some (some v) ∧ RepV K μ H x v
theorem Rel.monoW {σ : Env} {σV : L2.St} (r : Rel K μ σ st σV H) (l : Lw μ H μ' H') (c : Cfg K μ' st' H') : Rel K μ' σ st' σV H' :=
  ⟨c, r.len, fun i x e => let ⟨v, e1, r1⟩ := r.env i x e; ⟨v, e1, r1.monoW l⟩⟩
theorem Rel.mono {σ : Env} {σV : L2.St} (r : Rel K μ σ st σV H) (l : Le μ H μ' H') (c : Cfg K μ' st' H') : Rel K μ' σ st' σV H' :=
  ⟨c, r.len, fun i x e => let ⟨v, e1, r1⟩ := r.env i x e; ⟨v, e1, r1.mono l⟩⟩
end

/-! ### readings by the plain functions -/
def tX (K : PySem.W.Frag) (f : Ex) : TE := fun σV H Q => ∃ μ σ st x st', Rel K μ σ st σV H ∧ f σ st = .ok x st' ∧ ∀ μ' H' v, Le μ H μ' H' → Cfg K μ' st' H' → RepV K μ' H' x v → Q v H'
def tT (K : PySem.W.Frag) (f : Tx) : TT := fun σV H Q => ∃ μ σ st b st', Rel K μ σ st σV H ∧ f σ st = .ok b st' ∧ ∀ μ' H', Le μ H μ' H' → Cfg K μ' st' H' → Q b H'
def tA (K : PySem.W.Frag) (fs : List Ex) : TA := fun σV H Q => ∃ μ σ st xs st', Rel K μ σ st σV H ∧ eArgs fs σ st = .ok xs st' ∧ ∀ μ' H' vs, Le μ H μ' H' → Cfg K μ' st' H' → RepVs K μ' H' xs vs → Q vs H'
def tP (K : PySem.W.Frag) (f : Px) : TO := fun σV H Q => ∃ μ σ st x st', Rel K μ σ st σV H ∧ f σ st = .ok x st' ∧ ∀ μ' H', Le μ H μ' H' → Cfg K μ' st' H' → Q x H'

theorem _root_.L2.PE.weak {X : Cx} {e : Expr} {t t' : TE} (h : PE X e t) (w : ∀ σ H Q, t' σ H Q → t σ H Q) : PE X e t' := ⟨fun pins s σ H Q I q => h.run pins s σ H Q I (w σ H Q q)⟩
theorem _root_.L2.PT.weak {X : Cx} {e : Expr} {t t' : TT} (h : PT X e t) (w : ∀ σ H Q, t' σ H Q → t σ H Q) : PT X e t' := ⟨fun pins s σ H Q I q => h.run pins s σ H Q I (w σ H Q q)⟩
theorem _root_.L2.PW.weak {X : Cx} {e : Expr} {t t' : TT} (h : PW X e t) (w : ∀ σ H Q, t' σ H Q → t σ H Q) : PW X e t' := ⟨fun wh pins s σ H Q I q => h.run wh pins s σ H Q I (w σ H Q q)⟩
theorem _root_.L2.PA.weak {X : Cx} {e : List Expr} {t t' : TA} (h : PA X e t) (w : ∀ σ H Q, t' σ H Q → t σ H Q) : PA X e t' := ⟨fun pos pins s σ H Q I q => h.run pos pins s σ H Q I (w σ H Q q)⟩
theorem bind_ok {α β : Type} {x : Out α} {f : α → Store → Out β} {r : β} {st' : Store} (h : x.bind f = .ok r st') : ∃ a st1, x = .ok a st1 ∧ f a st1 = .ok r st' := by
  cases x with
  | ok a st => exact ⟨a, st, rfl, h⟩
  | fail => cases h
theorem ofO_ok {o : Option D} {st st' : Store} {x : VV} (h : ofO o st = .ok x st') : ∃ z, o = some z ∧ x = .d z ∧ st' = st := by
  cases o with
  | none => cases h
  | some z => injection h with h1 h2; exact ⟨z, rfl, h1.symm, h2.symm⟩

/-- two values in, data out -/
def rD (K : PySem.W.Frag) (F : D → D → Option D) : R2 := fun x y H Q => ∃ μ st dx dy dz, Cfg K μ st H ∧ RepR K (Live μ) H dx x ∧ RepR K (Live μ) H dy y ∧ F dx dy = some dz ∧ ∀ H' v, Le μ H μ H' → Cfg K μ st H' → Rep K (Live μ) H' dz v → Q v H'
def rDU (K : PySem.W.Frag) (F : D → Option D) : V → Hp → VK → Prop := fun x H Q => ∃ μ st dx dz, Cfg K μ st H ∧ RepR K (Live μ) H dx x ∧ F dx = some dz ∧ ∀ H' v, Le μ H μ H' → Cfg K μ st H' → Rep K (Live μ) H' dz v → Q v H'
def RepRs (K : PySem.W.Frag) (M : Addr → Prop) (H : Hp) : List D → List V → Prop := Paired (RepR K M H)
def rDs (K : PySem.W.Frag) (F : List D → Option D) : List V → Hp → VK → Prop := fun xs H Q => ∃ μ st ds dz, Cfg K μ st H ∧ RepRs K (Live μ) H ds xs ∧ F ds = some dz ∧ ∀ H' v, Le μ H μ H' → Cfg K μ st H' → Rep K (Live μ) H' dz v → Q v H'
def rDM (K : PySem.W.Frag) (F : D → List D → Option D) : V → List V → Hp → VK → Prop := fun x xs H Q => ∃ μ st d ds dz, Cfg K μ st H ∧ RepR K (Live μ) H d x ∧ RepRs K (Live μ) H ds xs ∧ F d ds = some dz ∧ ∀ H' v, Le μ H μ H' → Cfg K μ st H' → Rep K (Live μ) H' dz v → Q v H'
theorem rdAll_rep {K : PySem.W.Frag} {μ : Mu} {st : Store} {H : Hp} (c : Cfg K μ st H) : ∀ {xs : List VV} {vs : List V} {ds : List D}, RepVs K μ H xs vs → rdAll st xs = some ds → RepRs K (Live μ) H ds vs
  | _, _, _, .nil, e => by cases e; exact .nil
  | x :: xs, v :: vs, ds, .cons r rs, e => by
    unfold rdAll at e
    cases e1 : rd st x with
    | none => simp [e1] at e
    | some d =>
      cases e2 : rdAll st xs with
      | none => simp [e1, e2] at e
      | some ds' =>
        simp [e1, e2] at e; subst e
        exact .cons (rd_rep c r e1) (rdAll_rep c rs e2)

section
variable {X : Cx} {a b c : Expr} {f g h : Ex} {F G : D → D → Option D} {pos : Pos}
theorem bin_tX {r : V → V → Hp → VK → Prop} (hr : ∀ x y H Q, rD X.K F x y H Q → r x y H Q) {σV : L2.St} {H : Hp} {Q : VK} (q : tX X.K (eBin F f g) σV H Q) : tOp r (tX X.K f) (tX X.K g) σV H Q := by
  obtain ⟨μ, σ, st, z, st', rel, e, q⟩ := q
  obtain ⟨x, st1, e1, e⟩ := bind_ok e
  obtain ⟨y, st2, e2, e⟩ := bind_ok e
  refine ⟨μ, σ, st, x, st1, rel, e1, fun μ1 H1 v l1 c1 r1 => ?_⟩
  refine ⟨μ1, σ, st1, y, st2, rel.mono l1 c1, e2, fun μ2 H2 w l2 c2 r2 => ?_⟩
  cases d1 : rd st2 x with
  | none => simp [d1] at e
  | some dx =>
    cases d2 : rd st2 y with
    | none => simp [d1, d2] at e
    | some dy =>
      simp only [d1, d2] at e
      obtain ⟨dz, e3, rfl, rfl⟩ := ofO_ok e
      exact hr _ _ _ _ ⟨μ2, st', dx, dy, dz, c2, rd_rep c2 (r1.mono l2) d1, rd_rep c2 r2 d2, e3, fun H' v' l c' r => q μ2 H' v' (l1.trans (l2.trans l)) c' r⟩
theorem x_bin {op : Operator} (ho : OpR X (binaryOp op) (rD X.K F)) (ha : PE X a (tX X.K f)) (hb : PE X b (tX X.K g)) : PE X (.BinOp a op b pos) (tX X.K (eBin F f g)) :=
  (pe_op ho ha hb).weak fun _ _ _ q => bin_tX (fun _ _ _ _ q => q) q
theorem x_cmp {op : CmpOp} (ho : OpR X (compareOp op) (rD X.K F)) (ha : PE X a (tX X.K f)) (hb : PE X b (tX X.K g)) (hm : behindInMarks op b = false) : PE X (.Compare a [op] [b] pos) (tX X.K (eBin F f g)) :=
  (pe_cmpR ho ha hb hm).weak fun _ _ _ q => bin_tX (fun _ _ _ _ q => q) q
/-- F gives truth values -/
def GivesB (F : D → D → Option D) : Prop := ∀ x y z, F x y = some z → ∃ b, z = .bl b
theorem tE_bl {σ : Env} {st st' : Store} {b : Bool} (h : tE f σ st = .ok b st') : ∃ x, f σ st = .ok x st' ∧ truV st' x = some b := by
  obtain ⟨x, st1, e1, e⟩ := bind_ok h
  cases e2 : truV st1 x with
  | none => simp [e2] at e
  | some k =>
    simp only [e2] at e
    injection e with h1 h2
    subst h1 h2
    exact ⟨x, e1, e2⟩
theorem test_tX {σV : L2.St} {H : Hp} {Q : Bool → Hp → Prop} (hB : GivesB F) (q : tT X.K (tE (eBin F f g)) σV H Q) : tTest (tOp (rD X.K F) (tX X.K f) (tX X.K g)) σV H Q := by
  obtain ⟨μ, σ, st, b, st', rel, e, q⟩ := q
  obtain ⟨x, e1, e2⟩ := tE_bl e
  refine bin_tX (fun _ _ _ _ q => q) ⟨μ, σ, st, x, st', rel, e1, fun μ' H' v l c' r => ?_⟩
  have : ∃ k, x = .d (.bl k) := by
    obtain ⟨x', st1, f1, f2⟩ := bind_ok e1
    obtain ⟨y', st2, g1, g2⟩ := bind_ok f2
    cases d1 : rd st2 x' with
    | none => simp [d1] at g2
    | some dx =>
      cases d2 : rd st2 y' with
      | none => simp [d1, d2] at g2
      | some dy =>
        simp only [d1, d2] at g2
        obtain ⟨dz, e3, rfl, rfl⟩ := ofO_ok g2
        obtain ⟨k, rfl⟩ := hB _ _ _ e3
        exact ⟨k, rfl⟩
  obtain ⟨k, rfl⟩ := this
  have e3 : k = b := by simpa [truV, rd, truth] using e2
  subst e3
  have r' : v = .bl k := by unfold RepV Rep at r; exact r
  exact ⟨k, r', q μ' H' l c'⟩
theorem y_cmp {op : CmpOp} (ho : OpR X (compareOp op) (rD X.K F)) (hB : GivesB F) (ha : PE X a (tX X.K f)) (hb : PE X b (tX X.K g)) (hm : behindInMarks op b = false) : PT X (.Compare a [op] [b] pos) (tT X.K (tE (eBin F f g))) :=
  (pt_cmpR ho ha hb hm).weak fun _ _ _ q => test_tX hB q
theorem x_un {op : UnaryOp} {F : D → Option D} (ho : UnR X (unaryOp op) (rDU X.K F)) (ha : PE X a (tX X.K f)) : PE X (.UnaryOp op a pos) (tX X.K (eUn F f)) :=
  (pe_un ho ha).weak fun σV H Q q => by
    obtain ⟨μ, σ, st, z, st', rel, e, q⟩ := q
    obtain ⟨x, st1, e1, e⟩ := bind_ok e
    refine ⟨μ, σ, st, x, st1, rel, e1, fun μ1 H1 v l1 c1 r1 => ?_⟩
    cases d1 : rd st1 x with
    | none => simp [d1] at e
    | some dx =>
      simp only [d1] at e
      obtain ⟨dz, e3, rfl, rfl⟩ := ofO_ok e
      exact ⟨μ1, st', dx, dz, c1, rd_rep c1 r1 d1, e3, fun H' v' l c' r => q μ1 H' v' (l1.trans l) c' r⟩

/-! ### names, constants -/
theorem x_var (i : Nat) {x : Str} {pos : Pos} (hN : X.N[i]? = some x) (hv : Vis X.env.scope x) (hd : (x == ("__debug__" : Str)) = false := by decide) (hcd : (x == ("__classdict__" : Str)) = false := by decide) : PE X (.Name x pos) (tX X.K (eVar i)) :=
  (pe_var hN hv hd hcd).weak fun σV H Q q => by
    obtain ⟨μ, σ, st, z, st', rel, e, q⟩ := q
    unfold eVar at e
    cases h1 : σ[i]? with
    | none => simp [h1] at e
    | some o =>
      cases o with
      | none => simp [h1] at e
      | some y =>
        simp only [h1] at e
        injection e with e1 e2
        subst e1 e2
        obtain ⟨v, e3, r⟩ := rel.env i y h1
        exact ⟨v, e3, q μ H v (Le.refl _ _) rel.cfg r⟩
theorem x_frz (i : Nat) {x : Str} {pos : Pos} (hN : X.N[i]? = some x) (hv : Vis X.env.scope x) (hd : (x == ("__debug__" : Str)) = false := by decide) (hcd : (x == ("__classdict__" : Str)) = false := by decide) : PE X (.Name x pos) (tX X.K (eFrz i)) :=
  (pe_var hN hv hd hcd).weak fun σV H Q q => by
    obtain ⟨μ, σ, st, z, st', rel, e, q⟩ := q
    unfold eFrz at e
    cases h1 : σ[i]? with
    | none => simp [h1] at e
    | some o =>
      cases o with
      | none => simp [h1] at e
      | some y =>
        cases y with
        | fn n => simp [h1] at e
        | d y =>
          simp only [h1] at e
          injection e with e1 e2
          subst e1 e2
          obtain ⟨v, e3, r⟩ := rel.env i _ h1
          exact ⟨v, e3, q μ H v (Le.refl _ _) rel.cfg r⟩
        | loc n =>
          obtain ⟨v, e3, oa, a', ev, e4, r⟩ := rel.env i _ h1
          simp only [h1] at e
          cases oa with
          | none => simp [rel.cfg.gone n e4] at e
          | some a =>
            have : a = a' := by rcases r with q | q; exact Option.some.inj q; cases q
            subst this
            obtain ⟨o, e5, m⟩ := rel.cfg.there n a e4
            obtain ⟨c1, l1, n1⟩ := rel.cfg.kill e4
            subst ev
            cases o with
            | lst xs =>
              simp only [e5] at e
              injection e with e6 e7
              subst e6 e7
              obtain ⟨vs, e8, r8⟩ := m
              exact ⟨_, e3, q _ H _ l1 c1 (Rep.lst e8 n1 (r8.mono l1.toLr))⟩
            | dct xs =>
              simp only [e5] at e
              injection e with e6 e7
              subst e6 e7
              obtain ⟨vs, e8, r8⟩ := m
              refine ⟨_, e3, q _ H _ l1 c1 ?_⟩
              show Rep _ _ _ _ _
              unfold Rep
              exact ⟨a, vs, rfl, .inl e8, n1, r8.mono l1.toLr⟩
            | dead => exact m.elim
theorem x_const {e : Expr} {v : V} {d : D} (h : PE X e (tC v)) (r : ∀ M H, Rep X.K M H d v) : PE X e (tX X.K (eC d)) :=
  h.weak fun σV H Q q => by
    obtain ⟨μ, σ, st, z, st', rel, e, q⟩ := q
    injection e with e1 e2
    subst e1 e2
    exact q μ H v (Le.refl _ _) rel.cfg (r _ _)
theorem x_int {i j pos} : PE X (.Constant (.int i) j pos) (tX X.K (eC (.int i))) := x_const pe_int fun _ _ => Rep.int
theorem x_bl {i j pos} : PE X (.Constant (.bool i) j pos) (tX X.K (eC (.bl i))) := x_const pe_bl fun _ _ => Rep.bl
theorem x_non {j pos} : PE X (.Constant .none j pos) (tX X.K (eC .non)) := x_const pe_non fun _ _ => Rep.non
theorem x_str {x : Str} {s : List Nat} {j pos} (h : x = ⟨s.toArray⟩) : PE X (.Constant (.str x) j pos) (tX X.K (eC (.str s))) := x_const pe_str fun _ _ => by unfold Rep; rw [h]
/-- a module's constant -/
structure GlobD (K : PySem.W.Frag) (mg : Str → Option Value) (x : Str) (d : D) : Prop where
  ex : ∃ u v, mg x = some u ∧ RelV v u ∧ ∀ M H, Rep K M H d v
theorem x_glob {x : Str} {d : D} {pos : Pos} (hg : Gl X x) (G : GlobD X.K X.mg x d) (hd : (x == ("__debug__" : Str)) = false := by decide) : PE X (.Name x pos) (tX X.K (eC d)) := by
  obtain ⟨u, v, hm, r, rp⟩ := G.ex
  exact x_const (pe_glob hg hm r hd) rp

/-! ### arithmetic -/
theorem leq {μ : Mu} {H : Hp} : Le μ H μ H := Le.refl μ H
theorem o_add : OpR X (binaryOp .Add) (rD X.K Fadd) := by
  intro pins s σ H x y v u Q I rx ry hq
  obtain ⟨μ, st, dx, dy, dz, cf, r1, r2, e, q⟩ := hq
  unfold Fadd at e
  split at e
  · injection e with e; subst e
    exact op_add pins s σ H x y v u Q I rx ry ⟨_, _, r1.int, r2.int, q _ _ leq cf Rep.int⟩
  · rename_i p p'
    split at e
    · rename_i hl
      injection e with e; subst e
      refine op_add_str pins s σ H x y v u Q I rx ry ⟨_, _, r1.str, r2.str, by rw [len_mk, len_mk]; exact line_le hl, ?_⟩
      rw [mk_append]
      exact q _ _ leq cf Rep.str
    · cases e
  · split at e
    · rename_i hl
      injection e with e; subst e
      obtain ⟨a, vs, rfl, s1, p1⟩ := r1.tup
      obtain ⟨b, ws, rfl, s2, p2⟩ := r2.tup
      refine op_catA pins s σ H _ _ v u Q I rx ry ⟨a, b, vs, ws, rfl, rfl, s1, s2, by rw [← p1.length, ← p2.length]; exact line_le hl, fun z => ?_, fun _ z => ?_, fun _ _ p hp => ?_⟩
      · have z2 := p1.nil_iff.mpr z; subst z2
        exact q _ _ leq cf (Rep.tup s2 (by simpa using p2))
      · have z2 := p2.nil_iff.mpr z; subst z2
        exact q _ _ leq cf (Rep.tup s1 (by simpa using p1))
      · exact q _ _ (Le.new cf hp) (cf.new hp) (Rep.newTup cf hp (p1.append p2))
    · cases e
  · split at e
    · rename_i hl
      injection e with e; subst e
      obtain ⟨a, vs, rfl, s1, p1⟩ := r1
      obtain ⟨b, ws, rfl, s2, p2⟩ := r2
      cases rx
      cases ry
      obtain ⟨hz1, its, n1, rv1, g1⟩ := I.hok _ _ s1
      obtain ⟨hz2, its2, n2, rv2, g2⟩ := I.hok _ _ s2
      have hl' := line_le hl
      have len1 := rv1.length
      have len2 := rv2.length
      have len3 := p1.length
      have len4 := p2.length
      refine PySem.P.add_list g1 g2 ?_ (by rw [List.size_toArray, List.size_toArray]; omega)
      have ea : its.toArray ++ its2.toArray = (its ++ its2).toArray := by simp
      rw [ea]
      have hp := I.fresh
      exact ⟨.ref _, _, I.lnew (t' := s.toks) (rv1.append rv2) (by rw [List.length_append]; omega), rfl, q _ _ (Le.new cf hp) (cf.new hp) (Rep.newLst cf hp (p1.append p2))⟩
    · cases e
  · cases e
theorem o_sub : OpR X (binaryOp .Sub) (rD X.K Fsub) := by
  intro pins s σ H x y v u Q I rx ry hq
  obtain ⟨μ, st, dx, dy, dz, cf, r1, r2, e, q⟩ := hq
  unfold Fsub at e
  split at e
  · injection e with e; subst e
    exact op_sub pins s σ H x y v u Q I rx ry ⟨_, _, r1.int, r2.int, q _ _ leq cf Rep.int⟩
  · cases e
theorem o_div : OpR X (binaryOp .FloorDiv) (rD X.K Fdiv) := by
  intro pins s σ H x y v u Q I rx ry hq
  obtain ⟨μ, st, dx, dy, dz, cf, r1, r2, e, q⟩ := hq
  unfold Fdiv at e
  split at e
  · split at e
    · rename_i hc
      injection e with e; subst e
      rw [Bool.and_eq_true] at hc
      exact op_fdiv pins s σ H x y v u Q I rx ry ⟨_, _, r1.int, r2.int, ⟨of_decide_eq_true hc.1, of_decide_eq_true hc.2⟩, q _ _ leq cf Rep.int⟩
    · cases e
  · cases e
theorem o_mod : OpR X (binaryOp .Mod) (rD X.K Fmod) := by
  intro pins s σ H x y v u Q I rx ry hq
  obtain ⟨μ, st, dx, dy, dz, cf, r1, r2, e, q⟩ := hq
  unfold Fmod at e
  split at e
  · split at e
    · rename_i hc
      injection e with e; subst e
      exact op_mod pins s σ H x y v u Q I rx ry ⟨_, _, r1.int, r2.int, of_decide_eq_true hc, q _ _ leq cf Rep.int⟩
    · cases e
  · cases e
theorem o_pow : OpR X (binaryOp .Pow) (rD X.K Fpow) := by
  intro pins s σ H x y v u Q I rx ry hq
  obtain ⟨μ, st, dx, dy, dz, cf, r1, r2, e, q⟩ := hq
  unfold Fpow at e
  split at e
  · split at e
    · rename_i hc
      injection e with e; subst e
      rw [Bool.and_eq_true, Bool.and_eq_true] at hc
      exact op_pow pins s σ H x y v u Q I rx ry ⟨_, _, r1.int, r2.int, ⟨of_decide_eq_true hc.1.1, of_decide_eq_true hc.1.2, of_decide_eq_true hc.2⟩, q _ _ leq cf Rep.int⟩
    · cases e
  · cases e
theorem u_neg : UnR X (unaryOp .USub) (rDU X.K Fneg) := by
  intro pins s σ H x v Q I rx hq
  obtain ⟨μ, st, dx, dz, cf, r1, e, q⟩ := hq
  unfold Fneg at e
  split at e
  · injection e with e; subst e
    exact un_neg pins s σ H x v Q I rx ⟨_, r1.int, q _ _ leq cf Rep.int⟩
  · cases e
end
end PX

/-! PX3: more readings of expressions. -/
namespace PX
open PySem PySem.Spec PyProof.Rows L2 TL

/-! ### equality -/
mutual
def toPy : D → PyData
  | .non => .none
  | .bl b => .bool b
  | .int i => .int i
  | .str s => .str ⟨s.toArray⟩
  | .tup xs => .tuple (toPys xs)
  | .lst xs => .list (toPys xs)
  | .dct _ => .dict []
  | .scr _ => .dict []
def toPys : List D → List PyData
  | [] => []
  | d :: ds => toPy d :: toPys ds
end
theorem toPys_map : ∀ ds : List D, toPys ds = ds.map toPy
  | [] => rfl
  | d :: ds => by unfold toPys; rw [toPys_map ds]; rfl
theorem okN_py : ∀ (n : Nat) (d : D), okN n d = true → (toPy d).canLay0 = true ∧ (toPy d).depth ≤ n := by
  intro n
  induction n with
  | zero =>
    intro d h
    cases d with
    | non => simp [toPy, PyData.canLay0, PyData.depth]
    | bl => simp [toPy, PyData.canLay0, PyData.depth]
    | int => simp [toPy, PyData.canLay0, PyData.depth]
    | str s =>
      simp only [toPy, PyData.canLay0, PyData.depth, PyData.strOk]
      refine ⟨?_, Nat.le_refl _⟩
      simpa [okN] using h
    | tup xs => simp [okN] at h
    | lst xs => simp [okN] at h
    | dct xs => simp [okN] at h
    | scr xs => simp [okN] at h
  | succ n ih =>
    have all : ∀ xs : List D, xs.all (okN n) = true → PyData.canLayAll0 (toPys xs) = true ∧ PyData.depthAll (toPys xs) ≤ n := by
      intro xs
      induction xs with
      | nil => intro _; simp [toPys, PyData.canLayAll0, PyData.depthAll]
      | cons d ds ihd =>
        intro h
        rw [List.all_cons, Bool.and_eq_true] at h
        obtain ⟨h1, h2⟩ := ih d h.1
        obtain ⟨h3, h4⟩ := ihd h.2
        simp only [toPys, PyData.canLayAll0, PyData.depthAll, h1, h3, Bool.and_self, true_and]
        omega
    intro d h
    cases d with
    | non => simp [toPy, PyData.canLay0, PyData.depth]
    | bl => simp [toPy, PyData.canLay0, PyData.depth]
    | int => simp [toPy, PyData.canLay0, PyData.depth]
    | str s =>
      simp only [toPy, PyData.canLay0, PyData.depth, PyData.strOk]
      refine ⟨?_, Nat.zero_le _⟩
      simpa [okN] using h
    | tup xs =>
      obtain ⟨h1, h2⟩ := all xs (by simpa [okN] using h)
      simp only [toPy, PyData.canLay0, PyData.depth, h1, true_and]
      omega
    | lst xs =>
      obtain ⟨h1, h2⟩ := all xs (by simpa [okN] using h)
      simp only [toPy, PyData.canLay0, PyData.depth, h1, true_and]
      omega
    | dct xs => simp [okN] at h
    | scr xs => simp [okN] at h
theorem okD_shaped {d : D} (h : okD d = true) : SeqAt.shaped (toPy d) = true := by
  obtain ⟨h1, h2⟩ := okN_py 64 d h
  unfold SeqAt.shaped
  rw [h1, decide_eq_true h2]; rfl
theorem beq_mk (a b : List Nat) : ((⟨a.toArray⟩ : Str) == ⟨b.toArray⟩) = (a == b) := by
  rw [Bool.eq_iff_iff, beq_iff_eq, beq_iff_eq]
  exact mk_inj
mutual
theorem eqD_py : ∀ a b : D, eqD a b = PyData.eqv (toPy a) (toPy b)
  | .non, b => by cases b <;> simp [toPy, eqD, PyData.eqv]
  | .bl _, b => by cases b <;> simp [toPy, eqD, PyData.eqv]
  | .int _, b => by cases b <;> simp [toPy, eqD, PyData.eqv]
  | .str _, b => by cases b <;> simp [toPy, eqD, PyData.eqv, beq_mk]
  | .tup xs, .tup ys => by simp only [toPy, eqD, PyData.eqv]; exact eqDs_py xs ys
  | .lst xs, .lst ys => by simp only [toPy, eqD, PyData.eqv]; exact eqDs_py xs ys
  | .tup _, .non | .tup _, .bl _ | .tup _, .int _ | .tup _, .str _ | .tup _, .lst _ | .tup _, .dct _ | .tup _, .scr _ => by simp [toPy, eqD, PyData.eqv]
  | .lst _, .non | .lst _, .bl _ | .lst _, .int _ | .lst _, .str _ | .lst _, .tup _ | .lst _, .dct _ | .lst _, .scr _ => by simp [toPy, eqD, PyData.eqv]
  | .dct _, b => by cases b <;> simp [toPy, eqD, PyData.eqv]
  | .scr _, b => by cases b <;> simp [toPy, eqD, PyData.eqv]
theorem eqDs_py : ∀ as bs : List D, eqDs as bs = PyData.eqvAll (toPys as) (toPys bs)
  | [], [] => by simp [toPys, eqDs, PyData.eqvAll]
  | [], _ :: _ => by simp [toPys, eqDs, PyData.eqvAll]
  | _ :: _, [] => by simp [toPys, eqDs, PyData.eqvAll]
  | a :: as, b :: bs => by simp only [toPys, eqDs, PyData.eqvAll]; rw [eqD_py a b, eqDs_py as bs]
end
theorem dp_of {K : PySem.W.Frag} {M : Addr → Prop} {H : Hp} : ∀ (n : Nat) (d : D) (v : V), okN n d = true → Rep K M H d v → Dp K H v (toPy d) := by
  intro n
  induction n with
  | zero =>
    intro d v h r
    cases d with
    | non => unfold Rep at r; subst r; exact .non
    | bl b => unfold Rep at r; subst r; exact .bl b
    | int => unfold Rep at r; subst r; exact .int _
    | str s => unfold Rep at r; subst r; exact .str _
    | tup xs => simp [okN] at h
    | lst xs => simp [okN] at h
    | dct xs => simp [okN] at h
    | scr xs => simp [okN] at h
  | succ n ih =>
    have all : ∀ (xs : List D) (vs : List V), xs.all (okN n) = true → Reps K M H xs vs → DpAll K H vs (toPys xs) := by
      intro xs
      induction xs with
      | nil => intro vs _ r; unfold Reps at r; subst r; exact .nil
      | cons d ds ihd =>
        intro vs h r
        rw [List.all_cons, Bool.and_eq_true] at h
        unfold Reps at r
        obtain ⟨v, w, rfl, r1, r2⟩ := r
        exact .cons (ih d v h.1 r1) (ihd w h.2 r2)
    intro d v h r
    cases d with
    | non => unfold Rep at r; subst r; exact .non
    | bl b => unfold Rep at r; subst r; exact .bl b
    | int => unfold Rep at r; subst r; exact .int _
    | str s => unfold Rep at r; subst r; exact .str _
    | tup xs =>
      unfold Rep at r
      obtain ⟨a, vs, rfl, s1, r⟩ := r
      exact .tup s1 (all xs vs (by simpa [okN] using h) r)
    | lst xs =>
      unfold Rep at r
      obtain ⟨a, vs, rfl, s1, _, r⟩ := r
      exact .lst (SqL.of s1) (all xs vs (by simpa [okN] using h) r)
    | dct xs => simp [okN] at h
    | scr xs => simp [okN] at h
theorem dpR_of {K : PySem.W.Frag} {M : Addr → Prop} {H : Hp} {d : D} {v : V} (h : okD d = true) (r : RepR K M H d v) : Dp K H v (toPy d) := by
  cases d with
  | lst xs =>
    obtain ⟨a, vs, rfl, s1, r⟩ := r
    have all : ∀ (xs : List D) (vs : List V), xs.all (okN 63) = true → Reps K M H xs vs → DpAll K H vs (toPys xs) := by
      intro xs
      induction xs with
      | nil => intro vs _ r; unfold Reps at r; subst r; exact .nil
      | cons d ds ihd =>
        intro vs h r
        rw [List.all_cons, Bool.and_eq_true] at h
        unfold Reps at r
        obtain ⟨v, w, rfl, r1, r2⟩ := r
        exact .cons (dp_of 63 d v h.1 r1) (ihd w h.2 r2)
    exact .lst (SqL.of s1) (all xs vs (by simpa [okD, okN] using h) r)
  | dct xs => simp [okD, okN] at h
  | scr xs => simp [okD, okN] at h
  | non => exact dp_of (M := M) 64 _ _ h r
  | bl => exact dp_of (M := M) 64 _ _ h r
  | int => exact dp_of (M := M) 64 _ _ h r
  | str => exact dp_of (M := M) 64 _ _ h r
  | tup => exact dp_of (M := M) 64 _ _ h r
section
variable {X : Cx} {a b c : Expr} {f g h : Ex} {F G : D → D → Option D} {pos : Pos}
theorem o_eq (hu : X.A.units + 64 < cLine) : OpR X (compareOp .Eq) (rD X.K Feq) := by
  intro pins s σ H x y v u Q I rx ry hq
  obtain ⟨μ, st, dx, dy, dz, cf, r1, r2, e, q⟩ := hq
  unfold Feq at e
  split at e
  · rename_i hk
    injection e with e; subst e
    rw [Bool.and_eq_true] at hk
    exact op_eqD hu pins s σ H x y v u Q I rx ry ⟨_, _, dpR_of hk.1 r1, dpR_of hk.2 r2, okD_shaped hk.1, okD_shaped hk.2, by rw [← eqD_py]; exact q _ _ leq cf Rep.bl⟩
  · cases e
theorem o_ne (hu : X.A.units + 64 < cLine) : OpR X (compareOp .NotEq) (rD X.K Fne) := by
  intro pins s σ H x y v u Q I rx ry hq
  obtain ⟨μ, st, dx, dy, dz, cf, r1, r2, e, q⟩ := hq
  unfold Fne at e
  split at e
  · rename_i hk
    injection e with e; subst e
    rw [Bool.and_eq_true] at hk
    exact op_neD hu pins s σ H x y v u Q I rx ry ⟨_, _, dpR_of hk.1 r1, dpR_of hk.2 r2, okD_shaped hk.1, okD_shaped hk.2, by rw [← eqD_py]; exact q _ _ leq cf Rep.bl⟩
  · cases e
theorem g_eq : GivesB Feq := fun x y z e => by
  unfold Feq at e
  split at e
  · injection e with e; exact ⟨_, e.symm⟩
  · cases e
theorem g_ne : GivesB Fne := fun x y z e => by
  unfold Fne at e
  split at e
  · injection e with e; exact ⟨_, e.symm⟩
  · cases e

/-! ### order -/
theorem o_lt : OpR X (compareOp .Lt) (rD X.K Flt) := by
  intro pins s σ H x y v u Q I rx ry hq
  obtain ⟨μ, st, dx, dy, dz, cf, r1, r2, e, q⟩ := hq
  unfold Flt at e
  split at e
  · injection e with e; subst e
    exact op_lt pins s σ H x y v u Q I rx ry ⟨_, _, r1.int, r2.int, q _ _ leq cf Rep.bl⟩
  · injection e with e; subst e
    exact op_lt_str pins s σ H x y v u Q I rx ry ⟨_, _, r1.str, r2.str, q _ _ leq cf Rep.bl⟩
  · cases e
theorem o_le : OpR X (compareOp .LtE) (rD X.K Fle) := by
  intro pins s σ H x y v u Q I rx ry hq
  obtain ⟨μ, st, dx, dy, dz, cf, r1, r2, e, q⟩ := hq
  unfold Fle at e
  split at e
  · injection e with e; subst e
    exact op_le pins s σ H x y v u Q I rx ry ⟨_, _, r1.int, r2.int, q _ _ leq cf Rep.bl⟩
  · injection e with e; subst e
    exact op_le_str pins s σ H x y v u Q I rx ry ⟨_, _, r1.str, r2.str, q _ _ leq cf Rep.bl⟩
  · cases e
theorem o_gt : OpR X (compareOp .Gt) (rD X.K Fgt) := by
  intro pins s σ H x y v u Q I rx ry hq
  obtain ⟨μ, st, dx, dy, dz, cf, r1, r2, e, q⟩ := hq
  unfold Fgt at e
  split at e
  · injection e with e; subst e
    exact op_gt pins s σ H x y v u Q I rx ry ⟨_, _, r1.int, r2.int, q _ _ leq cf Rep.bl⟩
  · injection e with e; subst e
    exact op_gt_str pins s σ H x y v u Q I rx ry ⟨_, _, r1.str, r2.str, q _ _ leq cf Rep.bl⟩
  · cases e
theorem o_ge : OpR X (compareOp .GtE) (rD X.K Fge) := by
  intro pins s σ H x y v u Q I rx ry hq
  obtain ⟨μ, st, dx, dy, dz, cf, r1, r2, e, q⟩ := hq
  unfold Fge at e
  split at e
  · injection e with e; subst e
    exact op_ge pins s σ H x y v u Q I rx ry ⟨_, _, r1.int, r2.int, q _ _ leq cf Rep.bl⟩
  · injection e with e; subst e
    exact op_ge_str pins s σ H x y v u Q I rx ry ⟨_, _, r1.str, r2.str, q _ _ leq cf Rep.bl⟩
  · cases e
theorem g_lt : GivesB Flt := fun x y z e => by
  unfold Flt at e
  split at e <;> first | (injection e with e; exact ⟨_, e.symm⟩) | cases e
theorem g_le : GivesB Fle := fun x y z e => by
  unfold Fle at e
  split at e <;> first | (injection e with e; exact ⟨_, e.symm⟩) | cases e
theorem g_gt : GivesB Fgt := fun x y z e => by
  unfold Fgt at e
  split at e <;> first | (injection e with e; exact ⟨_, e.symm⟩) | cases e
theorem g_ge : GivesB Fge := fun x y z e => by
  unfold Fge at e
  split at e <;> first | (injection e with e; exact ⟨_, e.symm⟩) | cases e

/-! ### times -/
theorem small64_of {i : Int} (h : PX.small64 i = true) : -(2 ^ 64) < i ∧ i < 2 ^ 64 := by
  unfold PX.small64 at h
  rw [Bool.and_eq_true] at h
  exact ⟨of_decide_eq_true h.1, of_decide_eq_true h.2⟩
theorem o_mul : OpR X (binaryOp .Mult) (rD X.K Fmul) := by
  intro pins s σ H x y v u Q I rx ry hq
  obtain ⟨μ, st, dx, dy, dz, cf, r1, r2, e, q⟩ := hq
  unfold Fmul at e
  split at e
  · split at e
    · rename_i hc
      injection e with e; subst e
      rw [Bool.or_eq_true] at hc
      exact op_mul pins s σ H x y v u Q I rx ry ⟨_, _, r1.int, r2.int, hc.imp small64_of small64_of, q _ _ leq cf Rep.int⟩
    · cases e
  · split at e
    · rename_i hc
      injection e with e; subst e
      rw [Bool.and_eq_true, Bool.and_eq_true] at hc
      obtain ⟨a, vs, rfl, s1, p1⟩ := r1
      have e2 := r2.int
      subst e2
      exact op_rep pins s σ H _ _ v u Q I rx ry ⟨a, _, vs, rfl, rfl, s1, of_decide_eq_true hc.1.1, of_decide_eq_true hc.1.2, by rw [← p1.length]; exact line_le hc.2, fun p hp => q _ _ (Le.new cf hp) (cf.new hp) (Rep.newLst cf hp (p1.rep _))⟩
    · cases e
  · cases e

/-! ### in -/
theorem any_py (d : D) : ∀ ys : List D, ((toPys ys).any fun z => PyData.eqv z (toPy d)) = ys.any fun y => eqD y d
  | [] => rfl
  | y :: ys => by unfold toPys; rw [List.any_cons, List.any_cons, any_py d ys, eqD_py]
theorem in_D (hu : X.A.units + 65 < cLine) {pins : List (Addr × Obj)} {s : Shared} {σ : L2.St} {H : Hp} {μ : Mu} {st : Store} {x y : V} {v u : Value} {dx dy : D} {b : Bool} (I : Inv X pins σ H s) (rx : RelV x v) (ry : RelV y u)
    (r1 : RepR X.K (Live μ) H dx x) (r2 : RepR X.K (Live μ) H dy y) (e : Fin' dx dy = some b) : ∀ (E : Value → Shared → Prop) (Q : Value → Shared → Prop),
    (Q (.bool b) s → wpAny (model X.prog X.w) X.A (compareOp .In v u) Q E s) ∧ (Q (.bool (!b)) s → wpAny (model X.prog X.w) X.A (compareOp .NotIn v u) Q E s) := by
  intro E Q
  unfold Fin' at e
  split at e
  · split at e
    · rename_i bb _ c
      injection e with e; subst e
      have e1 := r1.str
      have e2 := r2.str
      subst e1 e2
      obtain ⟨t, rfl⟩ := rx
      obtain ⟨t', rfl⟩ := ry
      have ee := (PySem.StrLaws.found_one (⟨bb.toArray⟩ : Str) c).symm
      refine ⟨fun h => PyProof.Rows.in_str ?_, fun h => PyProof.Rows.notIn_str ?_⟩
      · rw [← ee]; exact h
      · rw [← ee]; exact h
    · cases e
  · rename_i ys
    split at e
    · rename_i hk
      injection e with e; subst e
      rw [Bool.and_eq_true] at hk
      obtain ⟨as, q1⟩ := Dp.reads I (toPy dx) x v (dpR_of hk.1 r1) rx
      obtain ⟨bs, q2⟩ := Dp.reads I (.tuple (toPys ys)) y u (dpR_of hk.2 r2) ry
      have sd := okD_shaped hk.1
      have se := okD_shaped hk.2
      refine ⟨fun h => SeqAt.in_tuple_reads q2 q1 (SeqAt.canLay_of_shaped se) (SeqAt.canLay_of_shaped sd) (room_in_shaped sd hu) ?_, fun h => SeqAt.notIn_tuple_reads q2 q1 (SeqAt.canLay_of_shaped se) (SeqAt.canLay_of_shaped sd) (room_in_shaped sd hu) ?_⟩
      · rw [any_py]; exact h
      · rw [any_py]; exact h
    · cases e
  · rename_i ys
    split at e
    · rename_i hk
      injection e with e; subst e
      rw [Bool.and_eq_true] at hk
      obtain ⟨as, q1⟩ := Dp.reads I (toPy dx) x v (dpR_of hk.1 r1) rx
      obtain ⟨bs, q2⟩ := Dp.reads I (.list (toPys ys)) y u (dpR_of hk.2 r2) ry
      have sd := okD_shaped hk.1
      have se := okD_shaped hk.2
      refine ⟨fun h => SeqAt.in_list_reads q2 q1 (SeqAt.canLay_of_shaped se) (SeqAt.canLay_of_shaped sd) (room_in_shaped sd hu) ?_, fun h => SeqAt.notIn_list_reads q2 q1 (SeqAt.canLay_of_shaped se) (SeqAt.canLay_of_shaped sd) (room_in_shaped sd hu) ?_⟩
      · rw [any_py]; exact h
      · rw [any_py]; exact h
    · cases e
  · cases e
theorem o_in (hu : X.A.units + 65 < cLine) : OpR X (compareOp .In) (rD X.K Fin) := by
  intro pins s σ H x y v u Q I rx ry hq
  obtain ⟨μ, st, dx, dy, dz, cf, r1, r2, e, q⟩ := hq
  unfold Fin at e
  cases e1 : Fin' dx dy with
  | none => rw [e1] at e; cases e
  | some b =>
    rw [e1] at e
    injection e with e; subst e
    exact ((in_D (st := st) hu I rx ry r1 r2 e1) _ _).1 ⟨.bl b, H, I, rfl, q _ _ leq cf Rep.bl⟩
theorem o_nin (hu : X.A.units + 65 < cLine) : OpR X (compareOp .NotIn) (rD X.K Fnin) := by
  intro pins s σ H x y v u Q I rx ry hq
  obtain ⟨μ, st, dx, dy, dz, cf, r1, r2, e, q⟩ := hq
  unfold Fnin at e
  cases e1 : Fin' dx dy with
  | none => rw [e1] at e; cases e
  | some b =>
    rw [e1] at e
    injection e with e; subst e
    exact ((in_D (st := st) hu I rx ry r1 r2 e1) _ _).2 ⟨.bl (!b), H, I, rfl, q _ _ leq cf Rep.bl⟩
theorem g_in : GivesB Fin := fun x y z e => by
  unfold Fin at e
  cases e1 : Fin' x y with
  | none => rw [e1] at e; cases e
  | some b => rw [e1] at e; injection e with e; exact ⟨_, e.symm⟩
theorem g_nin : GivesB Fnin := fun x y z e => by
  unfold Fnin at e
  cases e1 : Fin' x y with
  | none => rw [e1] at e; cases e
  | some b => rw [e1] at e; injection e with e; exact ⟨_, e.symm⟩

/-! ### is None -/
theorem isN_of {K : PySem.W.Frag} {μ : Mu} {H : Hp} {x : VV} {v : V} (r : RepV K μ H x v) : (x = .d .non ∧ v = .non) ∨ (x ≠ .d .non ∧ v ≠ .non) := by
  cases x with
  | fn n => exact r.elim
  | loc n =>
    obtain ⟨oa, a, ea, e, q⟩ := r
    subst ea
    exact .inr ⟨(fun z => by cases z), (fun z => by cases z)⟩
  | d y =>
    cases y with
    | non => exact .inl ⟨rfl, by unfold RepV Rep at r; exact r⟩
    | bl b => unfold RepV Rep at r; subst r; exact .inr ⟨(fun z => by injection z with z; cases z), (fun z => by cases z)⟩
    | int b => unfold RepV Rep at r; subst r; exact .inr ⟨(fun z => by injection z with z; cases z), (fun z => by cases z)⟩
    | str b => unfold RepV Rep at r; subst r; exact .inr ⟨(fun z => by injection z with z; cases z), (fun z => by cases z)⟩
    | tup b => unfold RepV Rep at r; obtain ⟨a, vs, rfl, _⟩ := r; exact .inr ⟨(fun z => by injection z with z; cases z), (fun z => by cases z)⟩
    | lst b => unfold RepV Rep at r; obtain ⟨a, vs, rfl, _⟩ := r; exact .inr ⟨(fun z => by injection z with z; cases z), (fun z => by cases z)⟩
    | dct b => unfold RepV Rep at r; obtain ⟨a, vs, rfl, _⟩ := r; exact .inr ⟨(fun z => by injection z with z; cases z), (fun z => by cases z)⟩
    | scr b => unfold RepV Rep at r; obtain ⟨a, rfl, _⟩ := r; exact .inr ⟨(fun z => by injection z with z; cases z), (fun z => by cases z)⟩
theorem eIsN_ok {σ : Env} {st st' : Store} {x : VV} (h : eIsN f σ st = .ok x st') : ∃ y, f σ st = .ok y st' ∧ ((y = .d .non ∧ x = .d (.bl true)) ∨ (y ≠ .d .non ∧ x = .d (.bl false))) := by
  obtain ⟨y, st1, e1, e⟩ := bind_ok h
  refine ⟨y, ?_⟩
  split at e
  · injection e with h1 h2; subst h1 h2; exact ⟨e1, .inl ⟨rfl, rfl⟩⟩
  · cases e
  · rename_i hn _
    injection e with h1 h2; subst h1 h2; exact ⟨e1, .inr ⟨hn, rfl⟩⟩
theorem eNotN_ok {σ : Env} {st st' : Store} {x : VV} (h : eNotN f σ st = .ok x st') : ∃ y, f σ st = .ok y st' ∧ ((y = .d .non ∧ x = .d (.bl false)) ∨ (y ≠ .d .non ∧ x = .d (.bl true))) := by
  obtain ⟨y, st1, e1, e⟩ := bind_ok h
  refine ⟨y, ?_⟩
  split at e
  · injection e with h1 h2; subst h1 h2; exact ⟨e1, .inl ⟨rfl, rfl⟩⟩
  · cases e
  · rename_i hn _
    injection e with h1 h2; subst h1 h2; exact ⟨e1, .inr ⟨hn, rfl⟩⟩
theorem x_isN {j p} (ha : PE X a (tX X.K f)) : PE X (.Compare a [.Is] [.Constant .none j p] pos) (tX X.K (eIsN f)) :=
  (pe_cmp (pc_isN ha) (by rfl)).weak fun σV H Q q => by
    obtain ⟨μ, σ, st, z, st', rel, e, q⟩ := q
    obtain ⟨y, e1, e2⟩ := eIsN_ok e
    refine ⟨μ, σ, st, y, st', rel, e1, fun μ1 H1 v l1 c1 r1 => q μ1 H1 _ l1 c1 ?_⟩
    rcases isN_of r1 with ⟨h1, h2⟩ | ⟨h1, h2⟩
    · rcases e2 with ⟨_, rfl⟩ | ⟨h3, _⟩
      · subst h2; exact RepV.bl
      · exact absurd h1 h3
    · rcases e2 with ⟨h3, _⟩ | ⟨_, rfl⟩
      · exact absurd h3 h1
      · rw [decide_eq_false h2]; exact RepV.bl
theorem x_notN {j p} (ha : PE X a (tX X.K f)) : PE X (.Compare a [.IsNot] [.Constant .none j p] pos) (tX X.K (eNotN f)) :=
  (pe_cmp (pc_notN ha) (by rfl)).weak fun σV H Q q => by
    obtain ⟨μ, σ, st, z, st', rel, e, q⟩ := q
    obtain ⟨y, e1, e2⟩ := eNotN_ok e
    refine ⟨μ, σ, st, y, st', rel, e1, fun μ1 H1 v l1 c1 r1 => q μ1 H1 _ l1 c1 ?_⟩
    rcases isN_of r1 with ⟨h1, h2⟩ | ⟨h1, h2⟩
    · rcases e2 with ⟨_, rfl⟩ | ⟨h3, _⟩
      · subst h2; exact RepV.bl
      · exact absurd h1 h3
    · rcases e2 with ⟨h3, _⟩ | ⟨_, rfl⟩
      · exact absurd h3 h1
      · rw [decide_eq_false h2]; exact RepV.bl
theorem y_isN {j p} (ha : PE X a (tX X.K f)) : PT X (.Compare a [.Is] [.Constant .none j p] pos) (tT X.K (tE (eIsN f))) :=
  (pt_cmp (pc_isN ha) (by rfl)).weak fun σV H Q q => by
    obtain ⟨μ, σ, st, b, st', rel, e, q⟩ := q
    obtain ⟨x, e0, e3⟩ := tE_bl e
    obtain ⟨y, e1, e2⟩ := eIsN_ok e0
    refine ⟨μ, σ, st, y, st', rel, e1, fun μ1 H1 v l1 c1 r1 => ⟨_, rfl, ?_⟩⟩
    rcases isN_of r1 with ⟨h1, h2⟩ | ⟨h1, h2⟩
    · rcases e2 with ⟨_, rfl⟩ | ⟨h3, _⟩
      · subst h2; cases e3; exact q μ1 H1 l1 c1
      · exact absurd h1 h3
    · rcases e2 with ⟨h3, _⟩ | ⟨_, rfl⟩
      · exact absurd h3 h1
      · rw [decide_eq_false h2]; cases e3; exact q μ1 H1 l1 c1
theorem y_notN {j p} (ha : PE X a (tX X.K f)) : PT X (.Compare a [.IsNot] [.Constant .none j p] pos) (tT X.K (tE (eNotN f))) :=
  (pt_cmp (pc_notN ha) (by rfl)).weak fun σV H Q q => by
    obtain ⟨μ, σ, st, b, st', rel, e, q⟩ := q
    obtain ⟨x, e0, e3⟩ := tE_bl e
    obtain ⟨y, e1, e2⟩ := eNotN_ok e0
    refine ⟨μ, σ, st, y, st', rel, e1, fun μ1 H1 v l1 c1 r1 => ⟨_, rfl, ?_⟩⟩
    rcases isN_of r1 with ⟨h1, h2⟩ | ⟨h1, h2⟩
    · rcases e2 with ⟨_, rfl⟩ | ⟨h3, _⟩
      · subst h2; cases e3; exact q μ1 H1 l1 c1
      · exact absurd h1 h3
    · rcases e2 with ⟨h3, _⟩ | ⟨_, rfl⟩
      · exact absurd h3 h1
      · rw [decide_eq_false h2]; cases e3; exact q μ1 H1 l1 c1

/-! ### truth -/
theorem RepKs.length {K : PySem.W.Frag} {M : Addr → Prop} {H : Hp} : ∀ {ds : List (D × D)} {vs : List (Key × V)}, RepKs K M H ds vs → ds.length = vs.length
  | [], vs, h => by unfold RepKs at h; subst h; rfl
  | (k, d) :: ds, vs, h => by
    unfold RepKs at h
    obtain ⟨k', v, r, rfl, h1, h2, h3⟩ := h
    simp [RepKs.length h3]
theorem isEmpty_len {α β : Type} {xs : List α} {ys : List β} (h : xs.length = ys.length) : (!ys.isEmpty) = !xs.isEmpty := by
  cases xs <;> cases ys <;> simp_all
theorem truth_tru {K : PySem.W.Frag} {μ : Mu} {st : Store} {H : Hp} (c : Cfg K μ st H) {d : D} {v : V} {b : Bool} (r : RepR K (Live μ) H d v) (e : truth d = some b) : TruV K v H b := by
  cases d with
  | non => cases r.non; cases e; rfl
  | bl k => cases r.bl; cases e; rfl
  | int k => cases r.int; cases e; rfl
  | str s =>
    cases r.str
    unfold truth at e
    simp only at e
    split at e
    · rename_i hl
      injection e with e; subst e
      refine ⟨by rw [len_mk]; exact line_le hl, ?_⟩
      rw [len_mk]
      cases s with
      | nil => rfl
      | cons _ _ => simp; omega
    · cases e
  | tup xs =>
    obtain ⟨a, vs, rfl, s1, p1⟩ := r.tup
    cases e
    exact .inr (.inl ⟨vs, s1, (isEmpty_len p1.length).symm⟩)
  | lst xs =>
    obtain ⟨a, vs, rfl, s1, p1⟩ := r.lst
    cases e
    exact .inl ⟨vs, s1, (isEmpty_len p1.length).symm⟩
  | dct xs => cases e
  | scr ns =>
    obtain ⟨a, rfl, s1⟩ := r.scr
    cases e
    exact .inl ⟨_, s1, by cases ns <;> rfl⟩
theorem truV_tru {K : PySem.W.Frag} {μ : Mu} {st : Store} {H : Hp} (c : Cfg K μ st H) {x : VV} {v : V} {b : Bool} (r : RepV K μ H x v) (e : truV st x = some b) : TruV K v H b := by
  unfold truV at e
  cases e1 : rd st x with
  | none => rw [e1] at e; cases e
  | some d =>
    rw [e1] at e
    exact truth_tru c (rd_rep c r e1) e
theorem y_tru (ha : PE X a (tX X.K f)) (he : ∀ whole, isTrue a X.env whole = (do let v ← whole; standAt a.pos; holding [v] (truthy v))) : PT X a (tT X.K (tE f)) :=
  (pt_truth ha he).weak fun σV H Q q => by
    obtain ⟨μ, σ, st, b, st', rel, e, q⟩ := q
    obtain ⟨x, e1, e2⟩ := tE_bl e
    exact ⟨μ, σ, st, x, st', rel, e1, fun μ1 H1 v l1 c1 r1 => ⟨b, truV_tru c1 r1 e2, q μ1 H1 l1 c1⟩⟩
/-! and, or, not as tests -/
variable {ta tb : Tx} {rest : List Expr}
theorem w_and1 (ha : PT X a (tT X.K ta)) : PW X (.BoolOp .And [a] pos) (tT X.K ta) := pw_and1 ha
theorem w_or1 (ha : PT X a (tT X.K ta)) : PW X (.BoolOp .Or [a] pos) (tT X.K ta) := pw_or1 ha
theorem w_and (ha : PT X a (tT X.K ta)) (hb : PW X (.BoolOp .And (b :: rest) pos) (tT X.K tb)) : PW X (.BoolOp .And (a :: b :: rest) pos) (tT X.K (tAnd' ta tb)) :=
  (pw_and ha hb).weak fun σV H Q q => by
    obtain ⟨μ, σ, st, z, st', rel, e, q⟩ := q
    obtain ⟨x, st1, e1, e⟩ := bind_ok e
    refine ⟨μ, σ, st, x, st1, rel, e1, fun μ1 H1 l1 c1 => ?_⟩
    cases x with
    | true => exact iteT ⟨μ1, σ, st1, z, st', rel.mono l1 c1, by simpa using e, fun μ2 H2 l2 c2 => q μ2 H2 (l1.trans l2) c2⟩
    | false =>
      have e' : Out.ok false st1 = .ok z st' := by simpa using e
      injection e' with h1 h2; subst h1 h2
      exact iteF (q μ1 H1 l1 c1)
theorem w_or (ha : PT X a (tT X.K ta)) (hb : PW X (.BoolOp .Or (b :: rest) pos) (tT X.K tb)) : PW X (.BoolOp .Or (a :: b :: rest) pos) (tT X.K (tOr' ta tb)) :=
  (pw_or ha hb).weak fun σV H Q q => by
    obtain ⟨μ, σ, st, z, st', rel, e, q⟩ := q
    obtain ⟨x, st1, e1, e⟩ := bind_ok e
    refine ⟨μ, σ, st, x, st1, rel, e1, fun μ1 H1 l1 c1 => ?_⟩
    cases x with
    | false => exact iteF ⟨μ1, σ, st1, z, st', rel.mono l1 c1, by simpa using e, fun μ2 H2 l2 c2 => q μ2 H2 (l1.trans l2) c2⟩
    | true =>
      have e' : Out.ok true st1 = .ok z st' := by simpa using e
      injection e' with h1 h2; subst h1 h2
      exact iteT (q μ1 H1 l1 c1)
theorem y_bop {e : Expr} {t : Tx} (h : PW X e (tT X.K t)) : PT X e (tT X.K t) := h.pt
theorem y_not (ha : PT X a (tT X.K ta)) : PT X (.UnaryOp .Not a pos) (tT X.K (tNot' ta)) :=
  (pt_not ha).weak fun σV H Q q => by
    obtain ⟨μ, σ, st, z, st', rel, e, q⟩ := q
    obtain ⟨x, st1, e1, e⟩ := bind_ok e
    injection e with h1 h2; subst h1 h2
    exact ⟨μ, σ, st, x, st1, rel, e1, q⟩
/-- and, or, not as values -/
theorem x_one {op} (ha : PE X a (tX X.K f)) : PE X (.BoolOp op [a] pos) (tX X.K f) := pe_one ha
theorem x_and (ha : PE X a (tX X.K f)) (hb : PE X (.BoolOp .And (b :: rest) pos) (tX X.K g)) : PE X (.BoolOp .And (a :: b :: rest) pos) (tX X.K (eAnd f g)) :=
  (pe_andT ha hb).weak fun σV H Q q => by
    obtain ⟨μ, σ, st, z, st', rel, e, q⟩ := q
    obtain ⟨x, st1, e1, e⟩ := bind_ok e
    refine ⟨μ, σ, st, x, st1, rel, e1, fun μ1 H1 v l1 c1 r1 => ?_⟩
    split at e
    · rename_i et
      exact ⟨true, truV_tru c1 r1 et, iteT ⟨μ1, σ, st1, z, st', rel.mono l1 c1, e, fun μ2 H2 v2 l2 c2 r2 => q μ2 H2 v2 (l1.trans l2) c2 r2⟩⟩
    · rename_i et
      injection e with h1 h2; subst h1 h2
      exact ⟨false, truV_tru c1 r1 et, iteF (q μ1 H1 v l1 c1 r1)⟩
    · cases e
theorem x_or (ha : PE X a (tX X.K f)) (hb : PE X (.BoolOp .Or (b :: rest) pos) (tX X.K g)) : PE X (.BoolOp .Or (a :: b :: rest) pos) (tX X.K (eOr f g)) :=
  (pe_orT ha hb).weak fun σV H Q q => by
    obtain ⟨μ, σ, st, z, st', rel, e, q⟩ := q
    obtain ⟨x, st1, e1, e⟩ := bind_ok e
    refine ⟨μ, σ, st, x, st1, rel, e1, fun μ1 H1 v l1 c1 r1 => ?_⟩
    split at e
    · rename_i et
      injection e with h1 h2; subst h1 h2
      exact ⟨true, truV_tru c1 r1 et, iteT (q μ1 H1 v l1 c1 r1)⟩
    · rename_i et
      exact ⟨false, truV_tru c1 r1 et, iteF ⟨μ1, σ, st1, z, st', rel.mono l1 c1, e, fun μ2 H2 v2 l2 c2 r2 => q μ2 H2 v2 (l1.trans l2) c2 r2⟩⟩
    · cases e
theorem x_not (ha : PE X a (tX X.K f)) : PE X (.UnaryOp .Not a pos) (tX X.K (eNot f)) :=
  (pe_notT ha).weak fun σV H Q q => by
    obtain ⟨μ, σ, st, z, st', rel, e, q⟩ := q
    obtain ⟨x, st1, e1, e⟩ := bind_ok e
    refine ⟨μ, σ, st, x, st1, rel, e1, fun μ1 H1 v l1 c1 r1 => ?_⟩
    split at e
    · rename_i b et
      injection e with h1 h2; subst h1 h2
      exact ⟨b, truV_tru c1 r1 et, q μ1 H1 _ l1 c1 RepV.bl⟩
    · cases e
theorem x_if (hc : PT X c (tT X.K ta)) (ha : PE X a (tX X.K f)) (hb : PE X b (tX X.K g)) : PE X (.IfExp c a b pos) (tX X.K (eIf ta f g)) :=
  (pe_ifExp hc ha hb).weak fun σV H Q q => by
    obtain ⟨μ, σ, st, z, st', rel, e, q⟩ := q
    obtain ⟨x, st1, e1, e⟩ := bind_ok e
    refine ⟨μ, σ, st, x, st1, rel, e1, fun μ1 H1 l1 c1 => ?_⟩
    cases x with
    | true => exact iteT ⟨μ1, σ, st1, z, st', rel.mono l1 c1, by simpa using e, fun μ2 H2 v2 l2 c2 r2 => q μ2 H2 v2 (l1.trans l2) c2 r2⟩
    | false => exact iteF ⟨μ1, σ, st1, z, st', rel.mono l1 c1, by simpa using e, fun μ2 H2 v2 l2 c2 r2 => q μ2 H2 v2 (l1.trans l2) c2 r2⟩
/-- a < b < c -/
theorem chain_of {σV : L2.St} {H : Hp} {Q : VK} (q : tX X.K (eChain F G f g h) σV H Q) :
    tChain (rD X.K F) (rD X.K G) (tX X.K f) (tX X.K g) (tX X.K h) σV H Q := by
  obtain ⟨μ, σ, st, z, st', rel, e, q⟩ := q
  obtain ⟨x, st1, e1, e⟩ := bind_ok e
  obtain ⟨y, st2, e2, e⟩ := bind_ok e
  refine ⟨μ, σ, st, x, st1, rel, e1, fun μ1 H1 v l1 c1 r1 => ?_⟩
  refine ⟨μ1, σ, st1, y, st2, rel.mono l1 c1, e2, fun μ2 H2 w l2 c2 r2 => ?_⟩
  cases d1 : rd st2 x with
  | none => simp [d1] at e
  | some dx =>
    cases d2 : rd st2 y with
    | none => simp [d1, d2] at e
    | some dy =>
      simp only [d1, d2] at e
      cases eF : F dx dy with
      | none => simp [eF] at e
      | some k =>
        cases k with
        | bl t =>
          refine ⟨μ2, st2, dx, dy, .bl t, c2, rd_rep c2 (r1.mono l2) d1, rd_rep c2 r2 d2, eF, fun H3 v3 l3 c3 r3 => ?_⟩
          have e3 : v3 = .bl t := by unfold Rep at r3; exact r3
          refine ⟨t, e3, ?_⟩
          cases t with
          | false =>
            simp only [eF] at e
            injection e with h1 h2; subst h1 h2
            exact iteF (q μ2 H3 _ (l1.trans (l2.trans l3)) c3 RepV.bl)
          | true =>
            simp only [eF] at e
            obtain ⟨zz, st3, e4, e⟩ := bind_ok e
            refine iteT ⟨μ2, σ, st2, zz, st3, (rel.mono (l1.trans l2) c2).mono l3 c3, e4, fun μ4 H4 v4 l4 c4 r4 => ?_⟩
            cases d3 : rd st3 y with
            | none => simp [d3] at e
            | some dy' =>
              cases d4 : rd st3 zz with
              | none => simp [d3, d4] at e
              | some dz =>
                simp only [d3, d4] at e
                obtain ⟨zr, e5, rfl, rfl⟩ := ofO_ok e
                cases eG : G dy' dz with
                | none => simp [eG] at e5
                | some kk =>
                  cases kk with
                  | bl kb =>
                    simp only [eG] at e5
                    injection e5 with e5; subst e5
                    exact ⟨μ4, _, dy', dz, .bl kb, c4, rd_rep c4 ((r2.mono l3).mono l4) d3, rd_rep c4 r4 d4, eG, fun H5 v5 l5 c5 r5 => q μ4 H5 v5 (l1.trans (l2.trans (l3.trans (l4.trans l5)))) c5 r5⟩
                  | _ => simp [eG] at e5
        | _ => simp [eF] at e
theorem x_chain {op op' : CmpOp} (ho : OpR X (compareOp op) (rD X.K F)) (ho' : OpR X (compareOp op') (rD X.K G)) (ha : PE X a (tX X.K f)) (hb : PE X b (tX X.K g)) (hc : PE X c (tX X.K h))
    (hm : lastMarks [op, op'] [b, c] = false := by rfl) : PE X (.Compare a [op, op'] [b, c] pos) (tX X.K (eChain F G f g h)) :=
  (pe_chain ho ho' ha hb hc hm).weak fun _ _ _ q => chain_of q
theorem chain_bl {σ : Env} {st st' : Store} {x : VV} (e : eChain F G f g h σ st = .ok x st') : ∃ k, x = .d (.bl k) := by
  obtain ⟨x1, st1, e1, e⟩ := bind_ok e
  obtain ⟨y, st2, e2, e⟩ := bind_ok e
  cases d1 : rd st2 x1 with
  | none => simp [d1] at e
  | some dx =>
    cases d2 : rd st2 y with
    | none => simp [d1, d2] at e
    | some dy =>
      simp only [d1, d2] at e
      split at e
      · obtain ⟨zz, st3, e4, e⟩ := bind_ok e
        cases d3 : rd st3 y with
        | none => simp [d3] at e
        | some dy' =>
          cases d4 : rd st3 zz with
          | none => simp [d3, d4] at e
          | some dz =>
            simp only [d3, d4] at e
            obtain ⟨zr, e5, rfl, rfl⟩ := ofO_ok e
            split at e5
            · injection e5 with e5; exact ⟨_, by rw [← e5]⟩
            · cases e5
      · injection e with h1 h2; exact ⟨_, h1.symm⟩
      · cases e
theorem y_chain {op op' : CmpOp} (ho : OpR X (compareOp op) (rD X.K F)) (ho' : OpR X (compareOp op') (rD X.K G)) (ha : PE X a (tX X.K f)) (hb : PE X b (tX X.K g)) (hc : PE X c (tX X.K h))
    (hm : lastMarks [op, op'] [b, c] = false := by rfl) : PT X (.Compare a [op, op'] [b, c] pos) (tT X.K (tE (eChain F G f g h))) :=
  (pt_chain ho ho' ha hb hc hm).weak fun σV H Q q => by
    obtain ⟨μ, σ, st, b, st', rel, e, q⟩ := q
    obtain ⟨x, e1, e2⟩ := tE_bl e
    obtain ⟨k, rfl⟩ := chain_bl e1
    have e3 : k = b := by simpa [truV, rd, truth] using e2
    subst e3
    refine chain_of ⟨μ, σ, st, _, st', rel, e1, fun μ' H' v l c' r => ?_⟩
    have r' : v = .bl k := by unfold RepV Rep at r; exact r
    exact ⟨k, r', q μ' H' l c'⟩
end
end PX

/-! PX4: arguments, displays, places, slices, calls of what is built in, methods. -/
namespace PX
open PySem PySem.Spec PyProof.Rows L2 TL

section
variable {X : Cx} {a b c e : Expr} {es : List Expr} {f g h : Ex} {fs : List Ex} {pos : Pos}
/-! ### arguments -/
theorem a_nil : PA X [] (tA X.K []) := (pa_nil (X := X)).weak fun σV H Q q => by
  obtain ⟨μ, σ, st, xs, st', rel, e, q⟩ := q
  injection e with h1 h2; subst h1 h2
  exact q μ H [] (Le.refl _ _) rel.cfg .nil
theorem a_cons (ha : PE X e (tX X.K f)) (hr : PA X es (tA X.K fs)) (hs : starEach (e :: es) X.env = (false, eval e X.env) :: starEach es X.env := by rfl) : PA X (e :: es) (tA X.K (f :: fs)) :=
  (pa_cons ha hr hs).weak fun σV H Q q => by
    obtain ⟨μ, σ, st, xs, st', rel, e, q⟩ := q
    obtain ⟨x, st1, e1, e⟩ := bind_ok e
    obtain ⟨ys, st2, e2, e⟩ := bind_ok e
    injection e with h1 h2; subst h1 h2
    refine ⟨μ, σ, st, x, st1, rel, e1, fun μ1 H1 v l1 c1 r1 => ?_⟩
    exact ⟨μ1, σ, st1, ys, st2, rel.mono l1 c1, e2, fun μ2 H2 vs l2 c2 r2 => q μ2 H2 (v :: vs) (l1.trans l2) c2 (.cons (r1.mono l2) r2)⟩
theorem allD_rep {K : PySem.W.Frag} {μ : Mu} {H : Hp} : ∀ {xs : List VV} {vs : List V} {ds : List D}, RepVs K μ H xs vs → allD xs = some ds → Reps K (Live μ) H ds vs
  | _, _, _, .nil, e => by cases e; exact Reps.nil
  | .d x :: xs, v :: vs, ds, .cons r rs, e => by
    unfold allD at e
    cases e1 : allD xs with
    | none => rw [e1] at e; cases e
    | some ds' =>
      rw [e1] at e
      cases e
      exact Reps.cons r (allD_rep rs e1)
  | .loc _ :: _, _, _, .cons _ _, e => by cases e
  | .fn _ :: _, _, _, .cons _ _, e => by cases e
theorem x_tup {x1} (h : PA X es (tA X.K fs)) : PE X (.Tuple es x1 pos) (tX X.K (eTup fs)) :=
  (pe_tup h).weak fun σV H Q q => by
    obtain ⟨μ, σ, st, z, st', rel, e, q⟩ := q
    obtain ⟨xs, st1, e1, e⟩ := bind_ok e
    refine ⟨μ, σ, st, xs, st1, rel, e1, fun μ1 H1 vs l1 c1 r1 => ?_⟩
    cases e2 : allD xs with
    | none => simp [e2] at e
    | some ds =>
      simp only [e2] at e
      split at e
      · rename_i hl
        injection e with h1 h2; subst h1 h2
        have r2 := allD_rep r1 e2
        refine ⟨by rw [← r2.length]; exact line_le hl, fun p hp => q μ1 _ _ (l1.trans (Le.new c1 hp)) (c1.new hp) (RepV.d (Rep.newTup c1 hp r2))⟩
      · cases e
theorem x_lst (h : PA X es (tA X.K fs)) : PE X (.List es pos) (tX X.K (eLst fs)) :=
  (pe_lst h).weak fun σV H Q q => by
    obtain ⟨μ, σ, st, z, st', rel, e, q⟩ := q
    obtain ⟨xs, st1, e1, e⟩ := bind_ok e
    refine ⟨μ, σ, st, xs, st1, rel, e1, fun μ1 H1 vs l1 c1 r1 => ?_⟩
    cases e2 : allD xs with
    | none => simp [e2] at e
    | some ds =>
      simp only [e2] at e
      split at e
      · rename_i hl
        injection e with h1 h2; subst h1 h2
        have r2 := allD_rep r1 e2
        refine ⟨by rw [← r2.length]; exact line_le hl, fun p hp => q μ1 _ _ (l1.trans (Le.new c1 hp)) (c1.new hp) (RepV.d (Rep.newLst c1 hp r2))⟩
      · cases e
theorem newLoc_rep {K : PySem.W.Frag} {μ : Mu} {st : Store} {H : Hp} (c : Cfg K μ st H) {p : Addr} {ds : List D} {vs : List V} (hp : H p = none) (r : Reps K (Live μ) H ds vs) :
    Le μ H (μ.push p) (upd H p (.lst vs)) ∧ Cfg K (μ.push p) (st ++ [.lst ds]) (upd H p (.lst vs)) ∧ RepV K (μ.push p) (upd H p (.lst vs)) (.loc st.length) (.ref p) := by
  have l : Le μ H (μ.push p) (upd H p (.lst vs)) := Le.newLoc c hp
  refine ⟨l, c.newLoc hp ⟨vs, upd_same, r.mono l.toLr⟩, some p, p, rfl, ?_, .inl rfl⟩
  rw [← c.len]
  exact (get_app _ _ _ _).mpr (.inr ⟨rfl, rfl⟩)
theorem x_new (h : PA X es (tA X.K fs)) : PE X (.List es pos) (tX X.K (eNew fs)) :=
  (pe_lst h).weak fun σV H Q q => by
    obtain ⟨μ, σ, st, z, st', rel, e, q⟩ := q
    obtain ⟨xs, st1, e1, e⟩ := bind_ok e
    refine ⟨μ, σ, st, xs, st1, rel, e1, fun μ1 H1 vs l1 c1 r1 => ?_⟩
    cases e2 : allD xs with
    | none => simp [e2] at e
    | some ds =>
      simp only [e2] at e
      split at e
      · rename_i hl
        injection e with h1 h2; subst h1 h2
        have r2 := allD_rep r1 e2
        refine ⟨by rw [← r2.length]; exact line_le hl, fun p hp => ?_⟩
        obtain ⟨l2, c2, r3⟩ := newLoc_rep c1 hp r2
        exact q _ _ _ (l1.trans l2) c2 r3
      · cases e

/-! ### places -/
theorem i_ix : IxR X (rD X.K Fix) := by
  intro value slice pins s σ H x y v u Q I rx ry hq hsub
  obtain ⟨μ, st, dx, dy, dz, cf, r1, r2, e, q⟩ := hq
  unfold Fix at e
  split at e
  · rename_i xs i
    cases e1 : ixI xs.length i with
    | none => simp [e1] at e
    | some j =>
      simp only [e1, Option.bind_some] at e
      obtain ⟨a, vs, rfl, s1, p1⟩ := r1.lst
      obtain ⟨w, e2, r3⟩ := p1.get e
      refine ix_list value slice pins s σ H _ y v u Q I rx ry ⟨a, vs, i, w, rfl, r2.int, s1, ?_, q H w leq cf r3⟩ hsub
      unfold atI
      rw [← p1.length]
      unfold ixI at e1
      rw [e1]
      exact e2
  · rename_i ns i
    cases e1 : ixI ns.length i with
    | none => simp [e1] at e
    | some j =>
      simp only [e1, Option.bind_some] at e
      obtain ⟨a, rfl, s1⟩ := r1.scr
      cases e2 : ns[j]? with
      | none => rw [e2] at e; cases e
      | some m =>
        rw [e2] at e
        cases e
        refine ix_list value slice pins s σ H _ y v u Q I rx ry ⟨a, _, i, .int m, rfl, r2.int, s1, ?_, q H _ leq cf Rep.int⟩ hsub
        unfold atI
        rw [List.length_map]
        unfold ixI at e1
        rw [e1]
        show (ns.map V.int)[j]? = _
        rw [List.getElem?_map, e2]; rfl
  · rename_i xs i
    cases e1 : ixI xs.length i with
    | none => simp [e1] at e
    | some j =>
      simp only [e1, Option.bind_some] at e
      obtain ⟨a, vs, rfl, s1, p1⟩ := r1.tup
      obtain ⟨w, e2, r3⟩ := p1.get e
      refine ix_tup value slice pins s σ H _ y v u Q I rx ry ⟨a, vs, i, w, rfl, r2.int, s1, ?_, q H w leq cf r3⟩ hsub
      unfold atI
      rw [← p1.length]
      unfold ixI at e1
      rw [e1]
      exact e2
  · rename_i xs i
    split at e
    · rename_i hl
      cases e1 : ixI xs.length i with
      | none => simp [e1] at e
      | some j =>
        simp only [e1, Option.bind_some] at e
        cases e2 : xs[j]? with
        | none => simp [e2] at e
        | some c =>
          simp only [e2, Option.map_some] at e
          injection e with e; subst e
          refine ix_str value slice pins s σ H x y v u Q I rx ry ⟨_, i, c, r1.str, r2.int, by rw [len_mk]; exact line_le hl, ?_, q H _ leq cf Rep.str⟩ hsub
          unfold atI
          show (ixN xs.length i).bind _ = _
          unfold ixI at e1
          rw [e1]
          simpa using e2
    · cases e
  · cases e
theorem x_ix (ha : PE X a (tX X.K f)) (hb : PE X b (tX X.K g)) (hs : PlainIx b) : PE X (.Subscript a b pos) (tX X.K (eBin Fix f g)) :=
  (pe_ix i_ix ha hb hs).weak fun _ _ _ q => bin_tX (fun _ _ _ _ q => q) q

/-! ### slices -/
theorem p_none : PO X none (tP X.K pNone) := ⟨fun pins s σ H Q I q => (po_none (X := X)).run pins s σ H Q I (by
  obtain ⟨μ, σ, st, x, st', rel, e, q⟩ := q
  injection e with h1 h2; subst h1 h2
  exact q μ H (Le.refl _ _) rel.cfg)⟩
theorem p_some (ha : PE X a (tX X.K f)) : PO X (some a) (tP X.K (pSome f)) := ⟨fun pins s σ H Q I q => (po_some ha).run pins s σ H Q I (by
  obtain ⟨μ, σ, st, x, st', rel, e, q⟩ := q
  obtain ⟨y, st1, e1, e⟩ := bind_ok e
  refine ⟨μ, σ, st, y, st1, rel, e1, fun μ1 H1 v l1 c1 r1 => ?_⟩
  split at e
  · rename_i i
    injection e with h1 h2; subst h1 h2
    exact ⟨i, by unfold RepV Rep at r1; exact r1, q μ1 H1 l1 c1⟩
  · cases e)⟩
def rCut (K : PySem.W.Frag) : V → Option Int → Option Int → Hp → VK → Prop := fun x lo hi H Q => ∃ μ st dx dz, Cfg K μ st H ∧ RepR K (Live μ) H dx x ∧ Fcut dx lo hi = some dz ∧ ∀ H' v, Le μ H μ H' → Cfg K μ st H' → Rep K (Live μ) H' dz v → Q v H'
theorem Reps.cut {K : PySem.W.Frag} {M : Addr → Prop} {H : Hp} {xs : List D} {vs : List V} (r : Reps K M H xs vs) (lo hi : Option Int) : Reps K M H (PX.cut xs lo hi) (cutV vs lo hi) := by
  unfold PX.cut cutV
  rw [r.length]
  exact (r.drop _).take _
theorem sIx_le' (n : Nat) (d : Nat) (hd : d ≤ n) (o : Option Int) : HT.sIx n d o ≤ n := HT.sIx_le n d hd o
theorem cut_whole {α : Type} {xs : List α} {lo hi : Option Int} (h : HT.sIx xs.length 0 lo = 0 ∧ HT.sIx xs.length xs.length hi = xs.length) : PX.cut xs lo hi = xs := by
  unfold PX.cut
  rw [h.1, h.2]
  simp
theorem cutS_mk (s : List Nat) (lo hi : Option Int) : cutS (⟨s.toArray⟩ : Str) lo hi = ⟨(PX.cut s lo hi).toArray⟩ := by
  unfold cutS PX.cut
  simp [len_mk]
theorem l_cut : SlR X (rCut X.K) := by
  intro pins s σ H x v vl vu lo hi sl Q I rx hs pl pu hq
  obtain ⟨μ, st, dx, dz, cf, r1, e, q⟩ := hq
  unfold Fcut at e
  split at e
  · injection e with e; subst e
    obtain ⟨a, vs, rfl, s1, p1⟩ := r1.lst
    exact sl_list pins s σ H _ v vl vu lo hi sl Q I rx hs pl pu ⟨a, vs, rfl, s1, fun p hp => q _ _ (Le.new cf hp) (cf.new hp) (Rep.newLst cf hp (p1.cut lo hi))⟩
  · rename_i ns
    injection e with e; subst e
    obtain ⟨a, rfl, s1⟩ := r1.scr
    refine sl_list pins s σ H _ v vl vu lo hi sl Q I rx hs pl pu ⟨a, _, rfl, s1, fun p hp => q _ _ (Le.new cf hp) (cf.new hp) (Rep.newLst cf hp ?_)⟩
    have := (Reps.ints (K := X.K) (M := Live μ) (H := H) ns).cut lo hi
    have e2 : PX.cut (ns.map D.int) lo hi = (PX.cut ns lo hi).map D.int := by
      unfold PX.cut
      rw [List.length_map, List.map_take, List.map_drop]
    rw [e2] at this
    exact this
  · injection e with e; subst e
    obtain ⟨a, vs, rfl, s1, p1⟩ := r1.tup
    refine sl_tupA pins s σ H _ v vl vu lo hi sl Q I rx hs pl pu ⟨a, vs, rfl, s1, fun hw => ?_, fun _ p hp => q _ _ (Le.new cf hp) (cf.new hp) (Rep.newTup cf hp (p1.cut lo hi))⟩
    rw [← p1.length] at hw
    refine q _ _ leq cf ?_
    rw [cut_whole hw]
    exact Rep.tup s1 p1
  · split at e
    · rename_i hl
      injection e with e; subst e
      refine sl_str pins s σ H x v vl vu lo hi sl Q I rx hs pl pu ⟨_, r1.str, by rw [len_mk]; exact line_le hl, ?_⟩
      rw [cutS_mk]
      exact q _ _ leq cf Rep.str
    · cases e
  · cases e
theorem x_cut {lo hi : Option Expr} {l u : Px} {p2 : Pos} (ha : PE X a (tX X.K f)) (hl : PO X lo (tP X.K l)) (hu : PO X hi (tP X.K u)) : PE X (.Subscript a (.Slice lo hi none p2) pos) (tX X.K (eCut f l u)) :=
  (pe_slice l_cut ha hl hu).weak fun σV H Q q => by
    obtain ⟨μ, σ, st, z, st', rel, e, q⟩ := q
    obtain ⟨x, st1, e1, e⟩ := bind_ok e
    obtain ⟨i, st2, e2, e⟩ := bind_ok e
    obtain ⟨j, st3, e3, e⟩ := bind_ok e
    refine ⟨μ, σ, st, x, st1, rel, e1, fun μ1 H1 v l1 c1 r1 => ?_⟩
    refine ⟨μ1, σ, st1, i, st2, rel.mono l1 c1, e2, fun μ2 H2 l2 c2 => ?_⟩
    refine ⟨μ2, σ, st2, j, st3, (rel.mono l1 c1).mono l2 c2, e3, fun μ3 H3 l3 c3 => ?_⟩
    cases d1 : rd st3 x with
    | none => simp [d1] at e
    | some dx =>
      simp only [d1] at e
      obtain ⟨dz, e4, rfl, rfl⟩ := ofO_ok e
      exact ⟨μ3, _, dx, dz, c3, rd_rep c3 ((r1.mono l2).mono l3) d1, e4, fun H4 v4 l4 c4 r4 => q μ3 H4 v4 (l1.trans (l2.trans (l3.trans l4))) c4 r4⟩

/-! ### calls of what is built in -/
variable {F : List D → Option D} {x : Str} {p : Pos} {id T : String}
theorem call1_of {σV : L2.St} {H : Hp} {Q : VK} (q : tX X.K (eCall1 F fs) σV H Q) : tCB (rDs X.K F) (tA X.K fs) σV H Q := by
  obtain ⟨μ, σ, st, z, st', rel, e, q⟩ := q
  obtain ⟨xs, st1, e1, e⟩ := bind_ok e
  refine ⟨μ, σ, st, xs, st1, rel, e1, fun μ1 H1 vs l1 c1 r1 => ?_⟩
  cases d1 : rdAll st1 xs with
  | none => simp [d1] at e
  | some ds =>
    simp only [d1] at e
    obtain ⟨dz, e4, rfl, rfl⟩ := ofO_ok e
    exact ⟨μ1, _, ds, dz, c1, rdAll_rep c1 r1 d1, e4, fun H4 v4 l4 c4 r4 => q μ1 H4 v4 (l1.trans l4) c4 r4⟩
theorem x_callB (hc : CallR X (.builtin id) (rDs X.K F)) (hg : Gl X x) (hm : X.mg x = none) (hv : bootBuiltins x = some (.builtin id)) (ha : PA X (e :: es) (tA X.K fs)) (hn : x ≠ "__name__" := by decide) (hdb : (x == ("__debug__" : Str)) = false := by decide)
    (he : starEach (e :: es) X.env = (false, eval e X.env) :: starEach es X.env := by rfl) (hpl : (backTo pos (starEach es X.env)).any (·.1) = false := by rfl) : PE X (.Call (.Name x p) (e :: es) [] pos) (tX X.K (eCall1 F fs)) :=
  (pe_callB hc hg hm hv ha hn hdb he hpl).weak fun _ _ _ q => call1_of q
theorem x_callT (hc : CallR X (.type T) (rDs X.K F)) (hg : Gl X x) (hm : X.mg x = none) (hv : bootBuiltins x = some (.type T)) (ha : PA X (e :: es) (tA X.K fs)) (hn : x ≠ "__name__" := by decide) (hdb : (x == ("__debug__" : Str)) = false := by decide)
    (he : starEach (e :: es) X.env = (false, eval e X.env) :: starEach es X.env := by rfl) (hpl : (backTo pos (starEach es X.env)).any (·.1) = false := by rfl) : PE X (.Call (.Name x p) (e :: es) [] pos) (tX X.K (eCall1 F fs)) :=
  (pe_callTy hc hg hm hv ha hn hdb he hpl).weak fun _ _ _ q => call1_of q
theorem one_of {K : PySem.W.Frag} {M : Addr → Prop} {H : Hp} {d : D} {xs : List V} (r : RepRs K M H [d] xs) : ∃ v, xs = [v] ∧ RepR K M H d v := by
  cases r with
  | cons a b => cases b; exact ⟨_, rfl, a⟩
theorem two_of {K : PySem.W.Frag} {M : Addr → Prop} {H : Hp} {d d' : D} {xs : List V} (r : RepRs K M H [d, d'] xs) : ∃ v w, xs = [v, w] ∧ RepR K M H d v ∧ RepR K M H d' w := by
  cases r with
  | cons a b =>
    cases b with
    | cons b c => cases c; exact ⟨_, _, rfl, a, b⟩
theorem c_len : CallR X (.builtin "len") (rDs X.K Flen) := by
  intro pins s σ H xs us Q I r hq
  obtain ⟨μ, st, ds, dz, cf, r1, e, q⟩ := hq
  unfold Flen at e
  split at e
  · injection e with e; subst e
    obtain ⟨v, rfl, r2⟩ := one_of r1
    obtain ⟨a, vs, rfl, s1, p1⟩ := r2.lst
    refine call_len_seq pins s σ H _ us Q I r ⟨a, vs, rfl, .inl s1, ?_⟩
    rw [← p1.length]
    exact q _ _ leq cf Rep.int
  · rename_i ns
    injection e with e; subst e
    obtain ⟨v, rfl, r2⟩ := one_of r1
    obtain ⟨a, rfl, s1⟩ := r2.scr
    refine call_len_seq pins s σ H _ us Q I r ⟨a, _, rfl, .inl s1, ?_⟩
    rw [List.length_map]
    exact q _ _ leq cf Rep.int
  · injection e with e; subst e
    obtain ⟨v, rfl, r2⟩ := one_of r1
    obtain ⟨a, vs, rfl, s1, p1⟩ := r2.tup
    refine call_len_seq pins s σ H _ us Q I r ⟨a, vs, rfl, .inr s1, ?_⟩
    rw [← p1.length]
    exact q _ _ leq cf Rep.int
  · split at e
    · rename_i hl
      injection e with e; subst e
      obtain ⟨v, rfl, r2⟩ := one_of r1
      refine call_len_str pins s σ H _ us Q I r ⟨_, by rw [r2.str], by rw [len_mk]; exact line_le hl, ?_⟩
      rw [len_mk]
      exact q _ _ leq cf Rep.int
    · cases e
  · cases e
theorem allI_rep {K : PySem.W.Frag} {M : Addr → Prop} {H : Hp} : ∀ {xs : List D} {vs : List V} {ns : List Int}, Reps K M H xs vs → allI xs = some ns → vs = ns.map V.int
  | [], vs, ns, r, e => by unfold Reps at r; subst r; cases e; rfl
  | .int i :: xs, vs, ns, r, e => by
    unfold Reps at r
    obtain ⟨v, w, rfl, r1, r2⟩ := r
    unfold allI at e
    cases e1 : allI xs with
    | none => rw [e1] at e; cases e
    | some ns' =>
      rw [e1] at e; cases e
      unfold Rep at r1
      rw [r1, allI_rep r2 e1]; rfl
  | .non :: _, _, _, _, e | .bl _ :: _, _, _, _, e | .str _ :: _, _, _, _, e | .tup _ :: _, _, _, _, e | .lst _ :: _, _, _, _, e | .dct _ :: _, _, _, _, e | .scr _ :: _, _, _, _, e => by cases e
theorem allB_rep {K : PySem.W.Frag} {M : Addr → Prop} {H : Hp} : ∀ {xs : List D} {vs : List V} {ns : List Bool}, Reps K M H xs vs → allB xs = some ns → vs = ns.map V.bl
  | [], vs, ns, r, e => by unfold Reps at r; subst r; cases e; rfl
  | .bl i :: xs, vs, ns, r, e => by
    unfold Reps at r
    obtain ⟨v, w, rfl, r1, r2⟩ := r
    unfold allB at e
    cases e1 : allB xs with
    | none => rw [e1] at e; cases e
    | some ns' =>
      rw [e1] at e; cases e
      unfold Rep at r1
      rw [r1, allB_rep r2 e1]; rfl
  | .non :: _, _, _, _, e | .int _ :: _, _, _, _, e | .str _ :: _, _, _, _, e | .tup _ :: _, _, _, _, e | .lst _ :: _, _, _, _, e | .dct _ :: _, _, _, _, e | .scr _ :: _, _, _, _, e => by cases e
theorem allS_rep {K : PySem.W.Frag} {M : Addr → Prop} {H : Hp} : ∀ {xs : List D} {vs : List V} {ns : List (List Nat)}, Reps K M H xs vs → allS xs = some ns → vs = (ns.map fun s => (⟨s.toArray⟩ : Str)).map V.str
  | [], vs, ns, r, e => by unfold Reps at r; subst r; cases e; rfl
  | .str i :: xs, vs, ns, r, e => by
    unfold Reps at r
    obtain ⟨v, w, rfl, r1, r2⟩ := r
    unfold allS at e
    cases e1 : allS xs with
    | none => rw [e1] at e; cases e
    | some ns' =>
      rw [e1] at e; cases e
      unfold Rep at r1
      rw [r1, allS_rep r2 e1]; rfl
  | .non :: _, _, _, _, e | .int _ :: _, _, _, _, e | .bl _ :: _, _, _, _, e | .tup _ :: _, _, _, _, e | .lst _ :: _, _, _, _, e | .dct _ :: _, _, _, _, e | .scr _ :: _, _, _, _, e => by cases e
theorem c_sum (hc : X.calm = true) : CallR X (.builtin "sum") (rDs X.K Fsum) := by
  intro pins s σ H xs us Q I r hq
  obtain ⟨μ, st, ds, dz, cf, r1, e, q⟩ := hq
  unfold Fsum at e
  split at e
  · rename_i ys
    cases e1 : allI ys with
    | none => rw [e1] at e; cases e
    | some ns =>
      rw [e1] at e
      injection e with e; subst e
      obtain ⟨v, rfl, r2⟩ := one_of r1
      obtain ⟨a, vs, rfl, s1, p1⟩ := r2.lst
      have ev := allI_rep p1 e1
      subst ev
      exact cr_sum hc pins s σ H _ us Q I r ⟨a, ns, rfl, s1, q _ _ leq cf Rep.int⟩
  · cases e
theorem c_all (hc : X.calm = true) : CallR X (.builtin "all") (rDs X.K Fall) := by
  intro pins s σ H xs us Q I r hq
  obtain ⟨μ, st, ds, dz, cf, r1, e, q⟩ := hq
  unfold Fall at e
  split at e
  · rename_i ys
    cases e1 : allB ys with
    | none => rw [e1] at e; cases e
    | some ns =>
      rw [e1] at e
      injection e with e; subst e
      obtain ⟨v, rfl, r2⟩ := one_of r1
      obtain ⟨a, vs, rfl, s1, p1⟩ := r2.lst
      have ev := allB_rep p1 e1
      subst ev
      exact cr_all hc pins s σ H _ us Q I r ⟨a, ns, rfl, s1, q _ _ leq cf Rep.bl⟩
  · cases e
theorem c_any (hc : X.calm = true) : CallR X (.builtin "any") (rDs X.K Fany) := by
  intro pins s σ H xs us Q I r hq
  obtain ⟨μ, st, ds, dz, cf, r1, e, q⟩ := hq
  unfold Fany at e
  split at e
  · rename_i ys
    cases e1 : allB ys with
    | none => rw [e1] at e; cases e
    | some ns =>
      rw [e1] at e
      injection e with e; subst e
      obtain ⟨v, rfl, r2⟩ := one_of r1
      obtain ⟨a, vs, rfl, s1, p1⟩ := r2.lst
      have ev := allB_rep p1 e1
      subst ev
      exact cr_any hc pins s σ H _ us Q I r ⟨a, ns, rfl, s1, q _ _ leq cf Rep.bl⟩
  · cases e
theorem maxI_mem : ∀ (n : Int) (ns : List Int), maxI (n :: ns) ∈ n :: ns ∧ ∀ y ∈ n :: ns, y ≤ maxI (n :: ns)
  | n, [] => ⟨by simp [maxI], by simp [maxI]⟩
  | n, m :: ns => by
    obtain ⟨h1, h2⟩ := maxI_mem m ns
    unfold maxI
    refine ⟨?_, fun y hy => ?_⟩
    · rw [Int.max_def]
      split
      · exact List.mem_cons_of_mem _ h1
      · exact List.mem_cons_self
    · rcases List.mem_cons.mp hy with rfl | hy
      · omega
      · have := h2 y hy; omega
theorem minI_mem : ∀ (n : Int) (ns : List Int), minI (n :: ns) ∈ n :: ns ∧ ∀ y ∈ n :: ns, minI (n :: ns) ≤ y
  | n, [] => ⟨by simp [minI], by simp [minI]⟩
  | n, m :: ns => by
    obtain ⟨h1, h2⟩ := minI_mem m ns
    unfold minI
    refine ⟨?_, fun y hy => ?_⟩
    · rw [Int.min_def]
      split
      · exact List.mem_cons_self
      · exact List.mem_cons_of_mem _ h1
    · rcases List.mem_cons.mp hy with rfl | hy
      · omega
      · have := h2 y hy; omega
theorem c_max (hc : X.calm = true) : CallR X (.builtin "max") (rDs X.K Fmax) := by
  intro pins s σ H xs us Q I r hq
  obtain ⟨μ, st, ds, dz, cf, r1, e, q⟩ := hq
  unfold Fmax at e
  split at e
  · injection e with e; subst e
    obtain ⟨v, w, rfl, r2, r3⟩ := two_of r1
    exact call_max2 hc pins s σ H _ us Q I r ⟨_, _, by rw [r2.int, r3.int], q _ _ leq cf Rep.int⟩
  · rename_i ys
    split at e
    · rename_i n ns e1
      injection e with e; subst e
      obtain ⟨v, rfl, r2⟩ := one_of r1
      obtain ⟨a, vs, rfl, s1, p1⟩ := r2.lst
      have ev := allI_rep p1 e1
      subst ev
      refine cr_max hc pins s σ H _ us Q I r ⟨a, n :: ns, rfl, s1, Nat.succ_pos _, fun m h1 h2 => ?_⟩
      obtain ⟨k1, k2⟩ := maxI_mem n ns
      have em : m = maxI (n :: ns) := Int.le_antisymm (k2 m h1) (h2 _ k1)
      rw [em]
      exact q _ _ leq cf Rep.int
    · cases e
  · cases e
theorem c_min (hc : X.calm = true) : CallR X (.builtin "min") (rDs X.K Fmin) := by
  intro pins s σ H xs us Q I r hq
  obtain ⟨μ, st, ds, dz, cf, r1, e, q⟩ := hq
  unfold Fmin at e
  split at e
  · injection e with e; subst e
    obtain ⟨v, w, rfl, r2, r3⟩ := two_of r1
    exact call_min2 hc pins s σ H _ us Q I r ⟨_, _, by rw [r2.int, r3.int], q _ _ leq cf Rep.int⟩
  · rename_i ys
    split at e
    · rename_i n ns e1
      injection e with e; subst e
      obtain ⟨v, rfl, r2⟩ := one_of r1
      obtain ⟨a, vs, rfl, s1, p1⟩ := r2.lst
      have ev := allI_rep p1 e1
      subst ev
      refine cr_min hc pins s σ H _ us Q I r ⟨a, n :: ns, rfl, s1, Nat.succ_pos _, fun m h1 h2 => ?_⟩
      obtain ⟨k1, k2⟩ := minI_mem n ns
      have em : m = minI (n :: ns) := Int.le_antisymm (h2 _ k1) (k2 m h1)
      rw [em]
      exact q _ _ leq cf Rep.int
    · cases e
  · cases e
theorem c_abs : CallR X (.builtin "abs") (rDs X.K Fabs) := by
  intro pins s σ H xs us Q I r hq
  obtain ⟨μ, st, ds, dz, cf, r1, e, q⟩ := hq
  unfold Fabs at e
  split at e
  · injection e with e; subst e
    obtain ⟨v, rfl, r2⟩ := one_of r1
    exact call_abs pins s σ H _ us Q I r ⟨_, by rw [r2.int], q _ _ leq cf Rep.int⟩
  · cases e
theorem c_divmod : CallR X (.builtin "divmod") (rDs X.K Fdivmod) := by
  intro pins s σ H xs us Q I r hq
  obtain ⟨μ, st, ds, dz, cf, r1, e, q⟩ := hq
  unfold Fdivmod at e
  split at e
  · split at e
    · rename_i hc
      injection e with e; subst e
      rw [Bool.and_eq_true] at hc
      obtain ⟨v, w, rfl, r2, r3⟩ := two_of r1
      refine call_divmod pins s σ H _ us Q I r ⟨_, _, by rw [r2.int, r3.int], ⟨of_decide_eq_true hc.1, of_decide_eq_true hc.2⟩, fun p hp => q _ _ (Le.new cf hp) (cf.new hp) (Rep.newTup cf hp ?_)⟩
      exact Reps.cons Rep.int (Reps.cons Rep.int Reps.nil)
    · cases e
  · cases e
theorem c_tuple : CallR X (.type "tuple") (rDs X.K Ftuple) := by
  intro pins s σ H xs us Q I r hq
  obtain ⟨μ, st, ds, dz, cf, r1, e, q⟩ := hq
  unfold Ftuple at e
  split at e
  · injection e with e; subst e
    obtain ⟨v, rfl, r2⟩ := one_of r1
    obtain ⟨a, vs, rfl, s1, p1⟩ := r2.lst
    exact call_tuple_of pins s σ H _ us Q I r ⟨a, vs, rfl, .inl ⟨s1, fun p hp => q _ _ (Le.new cf hp) (cf.new hp) (Rep.newTup cf hp p1)⟩⟩
  · injection e with e; subst e
    obtain ⟨v, rfl, r2⟩ := one_of r1
    obtain ⟨a, vs, rfl, s1, p1⟩ := r2.tup
    exact call_tuple_of pins s σ H _ us Q I r ⟨a, vs, rfl, .inr ⟨s1, q _ _ leq cf (Rep.tup s1 p1)⟩⟩
  · cases e
theorem c_list : CallR X (.type "list") (rDs X.K Flist) := by
  intro pins s σ H xs us Q I r hq
  obtain ⟨μ, st, ds, dz, cf, r1, e, q⟩ := hq
  unfold Flist at e
  split at e
  · injection e with e; subst e
    obtain ⟨v, rfl, r2⟩ := one_of r1
    obtain ⟨a, vs, rfl, s1, p1⟩ := r2.lst
    exact call_list_of pins s σ H _ us Q I r ⟨a, vs, rfl, .inl s1, fun p hp => q _ _ (Le.new cf hp) (cf.new hp) (Rep.newLst cf hp p1)⟩
  · injection e with e; subst e
    obtain ⟨v, rfl, r2⟩ := one_of r1
    obtain ⟨a, vs, rfl, s1, p1⟩ := r2.tup
    exact call_list_of pins s σ H _ us Q I r ⟨a, vs, rfl, .inr s1, fun p hp => q _ _ (Le.new cf hp) (cf.new hp) (Rep.newLst cf hp p1)⟩
  · cases e
theorem toString_mk (i : Int) : (Str.ofString (toString i)) = ⟨(intT i).toArray⟩ := by
  refine ext_tl ?_
  show _ = intT i
  unfold intT numT
  cases i with
  | ofNat n =>
    rw [if_neg (by simp)]
    exact tl_num n
  | negSucc n =>
    rw [if_pos (Int.negSucc_lt_zero n), tl_ofString]
    show ("-" ++ toString (n + 1)).toList.map Char.toNat = _
    rw [String.toList_append, List.map_append]
    have := tl_num (n + 1)
    rw [tl_ofString] at this
    have e : (toString (((n + 1 : Nat) : Int))) = toString (n + 1) := rfl
    rw [e] at this
    rw [this]
    rfl
theorem c_str : CallR X (.type "str") (rDs X.K Fstr) := by
  intro pins s σ H xs us Q I r hq
  obtain ⟨μ, st, ds, dz, cf, r1, e, q⟩ := hq
  unfold Fstr at e
  split at e
  · rename_i i
    split at e
    · rename_i hl
      injection e with e; subst e
      obtain ⟨v, rfl, r2⟩ := one_of r1
      refine call_str_int pins s σ H _ us Q I r ⟨i, by rw [r2.int], of_decide_eq_true hl, ?_⟩
      have := toString_mk i
      refine q _ _ leq cf ?_
      show Rep _ _ _ _ (.str (Str.ofString (toString i)))
      rw [this]
      exact Rep.str
    · cases e
  · cases e
theorem c_int : CallR X (.type "int") (rDs X.K Fint) := by
  intro pins s σ H xs us Q I r hq
  obtain ⟨μ, st, ds, dz, cf, r1, e, q⟩ := hq
  unfold Fint at e
  split at e
  · injection e with e; subst e
    obtain ⟨v, rfl, r2⟩ := one_of r1
    exact call_int1 pins s σ H _ us Q I r (.inl ⟨_, by rw [r2.int], q _ _ leq cf Rep.int⟩)
  · injection e with e; subst e
    obtain ⟨v, rfl, r2⟩ := one_of r1
    exact call_int1 pins s σ H _ us Q I r (.inr ⟨_, by rw [r2.bl], q _ _ leq cf Rep.int⟩)
  · split at e
    · rename_i n e1
      split at e
      · rename_i hl
        injection e with e; subst e
        obtain ⟨v, rfl, r2⟩ := one_of r1
        exact call_int_str pins s σ H _ us Q I r ⟨_, n, by rw [r2.str], e1, by rw [len_mk]; exact of_decide_eq_true hl, q _ _ leq cf Rep.int⟩
      · cases e
    · cases e
  · cases e
end
end PX

/-! PX5: methods, isinstance. -/
namespace PX
open PySem PySem.Spec PyProof.Rows L2 TL

def tyN : Ty → String
  | .int => "int" | .bool => "bool" | .str => "str" | .tuple => "tuple" | .list => "list" | .dict => "dict"
section
variable {X : Cx} {a b c e o : Expr} {es : List Expr} {f g h : Ex} {fs : List Ex} {pos apos cpos : Pos} {id : String} {name : Str} {F : D → List D → Option D}
theorem tyV_of {K : PySem.W.Frag} {μ : Mu} {st : Store} {H : Hp} (cf : Cfg K μ st H) {x : VV} {v : V} {T : Ty} (r : RepV K μ H x v) (e : tyIs st x T = true) (hT : T = .str ∨ T = .list) : tyV K (tyN T) v H := by
  unfold tyIs at e
  cases e1 : rd st x with
  | none => rw [e1] at e; cases e
  | some d =>
    rw [e1] at e
    have e2 : tyOf d = some T := of_decide_eq_true e
    have r2 := rd_rep cf r e1
    cases d with
    | str s => cases e2; cases r2.str; rfl
    | lst xs =>
      cases e2
      obtain ⟨a, vs, rfl, s1, _⟩ := r2.lst
      exact .inl ⟨rfl, vs, s1⟩
    | non => cases e2
    | bl => cases e2; rcases hT with h | h <;> cases h
    | int => cases e2; rcases hT with h | h <;> cases h
    | tup => cases e2; rcases hT with h | h <;> cases h
    | dct => cases e2; rcases hT with h | h <;> cases h
    | scr ns => cases e2
theorem x_meth (T : Ty) (hT : T = .str ∨ T = .list) (pa : PlainAttrs (tyN T)) (slot : Slot (tyN T) name id) (hty : typeOf (.builtin id) = pure (.type "method_descriptor")) (hm : MtR X id (rDM X.K F)) (ho : PE X o (tX X.K f)) (ha : PA X (e :: es) (tA X.K fs))
    (hbase : attributeBase o name X.env (eval o X.env) = eval o X.env := by rfl)
    (hfew : ((backTo cpos (starEach (e :: es) X.env)).all (fun x => !x.1) && (backToKw cpos (keywordEach [] X.env)).all (fun x => x.1.isSome)
      && decide ((e :: es).length + ([] : List Keyword).length + (if ([] : List Keyword).isEmpty then 0 else 1) < 30)) = true := by rfl)
    (hline : (apos.endLine == cpos.line) = true := by rfl) (hs : starEach (e :: es) X.env = (false, eval e X.env) :: starEach es X.env := by rfl) (hplain : (backTo cpos (starEach es X.env)).any (·.1) = false := by rfl) :
    PE X (.Call (.Attribute o name apos) (e :: es) [] cpos) (tX X.K (eMeth T F f fs)) :=
  (pe_bm pa slot hty hm ho ha hbase hfew hline hs hplain).weak fun σV H Q q => by
    obtain ⟨μ, σ, st, z, st', rel, e, q⟩ := q
    obtain ⟨x, st1, e1, e⟩ := bind_ok e
    refine ⟨μ, σ, st, x, st1, rel, e1, fun μ1 H1 v l1 c1 r1 => ?_⟩
    split at e
    · rename_i hty
      obtain ⟨xs, st2, e2, e⟩ := bind_ok e
      refine ⟨tyV_of c1 r1 hty hT, μ1, σ, st1, xs, st2, rel.mono l1 c1, e2, fun μ2 H2 vs l2 c2 r2 => ?_⟩
      cases d1 : rd st2 x with
      | none => simp [d1] at e
      | some d =>
        cases d2 : rdAll st2 xs with
        | none => simp [d1, d2] at e
        | some ds =>
          simp only [d1, d2] at e
          obtain ⟨dz, e4, rfl, rfl⟩ := ofO_ok e
          exact ⟨μ2, _, d, ds, dz, c2, rd_rep c2 (r1.mono l2) d1, rdAll_rep c2 r2 d2, e4, fun H4 v4 l4 c4 r4 => q μ2 H4 v4 (l1.trans (l2.trans l4)) c4 r4⟩
    · cases e
theorem idx_first {s : List Nat} {c i : Nat} (h1 : s[i]? = some c) (h2 : ∀ k, k < i → s[k]? ≠ some c) : s.idxOf c = i := by
  induction s generalizing i with
  | nil => simp at h1
  | cons a r ih =>
    cases i with
    | zero => simp at h1; subst h1; simp
    | succ i =>
      have ne : a ≠ c := fun z => h2 0 (Nat.succ_pos i) (by simp [z])
      rw [List.idxOf_cons, show (a == c) = false from beq_eq_false_iff_ne.mpr ne]
      show r.idxOf c + 1 = i + 1
      congr 1
      exact ih (by simpa using h1) fun k hk => by
        have := h2 (k + 1) (Nat.succ_lt_succ hk)
        simpa using this
theorem occ_sign (s : List Nat) (c : Nat) (h : c ∈ s) : ∃ r, Builtin.Str.occurrences (⟨s.toArray⟩ : Str) ⟨#[c]⟩ 0 (⟨s.toArray⟩ : Str).length 1 = s.idxOf c :: r := by
  have at_ : ∀ i, PySem.StrLaws.At (⟨s.toArray⟩ : Str) ⟨#[c]⟩ (⟨s.toArray⟩ : Str).length i ↔ s[i]? = some c := fun i => by
    have := PySem.StrLaws.subAt_one (⟨s.toArray⟩ : Str) c i
    exact this
  rcases PySem.StrLaws.occ_head (⟨s.toArray⟩ : Str) ⟨#[c]⟩ 1 (Nat.le_refl _) with ⟨_, hn⟩ | ⟨i, r, e, hi, hn⟩
  · obtain ⟨i, hi⟩ := List.mem_iff_getElem?.mp h
    exact absurd ((at_ i).mpr hi) (hn i)
  · refine ⟨r, ?_⟩
    rw [e, idx_first ((at_ i).mp hi) fun k hk z => hn k hk ((at_ k).mpr z)]
theorem idxOf?_some {x : D} : ∀ {ys : List D} {j : Nat}, idxOf? x ys = some j → ∃ z, ys[j]? = some z ∧ eqD z x = true ∧ ∀ (m : Nat) z', m < j → ys[m]? = some z' → eqD z' x = false
  | [], j, h => by cases h
  | y :: r, j, h => by
    unfold idxOf? at h
    cases e : eqD y x with
    | true =>
      rw [e] at h
      cases h
      exact ⟨y, rfl, e, fun m z' hm => absurd hm (Nat.not_lt_zero m)⟩
    | false =>
      rw [e] at h
      cases e2 : idxOf? x r with
      | none => rw [e2] at h; cases h
      | some i =>
        rw [e2] at h
        cases h
        obtain ⟨z, h1, h2, h3⟩ := idxOf?_some e2
        refine ⟨z, by simpa using h1, h2, fun m z' hm hz => ?_⟩
        cases m with
        | zero => simp at hz; subst hz; exact e
        | succ m => exact h3 m z' (Nat.lt_of_succ_lt_succ hm) (by simpa using hz)
theorem m_idxS : MtR X "str.index" (rDM X.K MidxS) := by
  intro pins s σ H x xs v us Q I rx rxs hq
  obtain ⟨μ, st, d, ds, dz, cf, r1, r2, e, q⟩ := hq
  unfold MidxS at e
  split at e
  · rename_i ss c
    split at e
    · rename_i hc
      injection e with e; subst e
      obtain ⟨w, rfl, r3⟩ := one_of r2
      obtain ⟨r, ho⟩ := occ_sign ss c hc
      exact mt_sindex pins s σ H x _ v us Q I rx rxs ⟨_, _, ss.idxOf c, r, r1.str, by rw [r3.str], ho, q _ _ leq cf Rep.int⟩
    · cases e
  · cases e
theorem m_idxL (hu : X.A.units + 65 < cLine) : MtR X "list.index" (rDM X.K MidxL) := by
  intro pins s σ H x xs v us Q I rx rxs hq
  obtain ⟨μ, st, d, ds, dz, cf, r1, r2, e, q⟩ := hq
  unfold MidxL at e
  split at e
  · rename_i ys y
    split at e
    · rename_i hk
      rw [Bool.and_eq_true] at hk
      cases e1 : idxOf? y ys with
      | none => rw [e1] at e; cases e
      | some j =>
        rw [e1] at e
        injection e with e; subst e
        obtain ⟨w, rfl, r3⟩ := one_of r2
        have hl := dpR_of hk.2 r1
        have hy := dpR_of hk.1 r3
        obtain ⟨a, vs, rfl, s1, p1⟩ := r1.lst
        obtain ⟨z, h1, h2, h3⟩ := idxOf?_some e1
        refine mt_indexD hu pins s σ H _ _ v us Q I rx rxs ⟨a, w, toPy y, toPys ys, j, toPy z, rfl, rfl, hl, hy, okD_shaped hk.2, okD_shaped hk.1, ?_, ?_, fun m z' hm hz => ?_, q _ _ leq cf Rep.int⟩
        · rw [toPys_map, List.getElem?_map, h1]; rfl
        · rw [← eqD_py]; exact h2
        · rw [toPys_map, List.getElem?_map] at hz
          cases e2 : ys[m]? with
          | none => rw [e2] at hz; cases hz
          | some z2 =>
            rw [e2] at hz
            cases hz
            rw [← eqD_py]
            exact h3 m z2 hm e2
    · cases e
  · cases e
theorem joinT_eq (s : List Nat) : ∀ ts : List (List Nat), joinT s ts = joinL s ts
  | [] => rfl
  | [_] => rfl
  | a :: b :: r => by
    show a ++ (s ++ joinT s (b :: r)) = a ++ (s ++ joinL s (b :: r))
    rw [joinT_eq s (b :: r)]
theorem join_mk (s : List Nat) (ts : List (List Nat)) : Txt.join ⟨s.toArray⟩ (ts.map fun t => (⟨t.toArray⟩ : Str)) = ⟨(joinT s ts).toArray⟩ := by
  rw [join_eq]
  refine ext_tl ?_
  rw [tl_join, joinT_eq, tl_mk, tl_mk, List.map_map]
  congr 1
  exact List.map_id _
theorem join_len (ts : List (List Nat)) : ((ts.map fun t => (⟨t.toArray⟩ : Str)).map (·.length)).sum = (ts.map List.length).sum := by
  rw [List.map_map]
  congr 1
theorem m_join : MtR X "str.join" (rDM X.K Mjoin) := by
  intro pins s σ H x xs v us Q I rx rxs hq
  obtain ⟨μ, st, d, ds, dz, cf, r1, r2, e, q⟩ := hq
  unfold Mjoin at e
  split at e
  · rename_i ss ys
    split at e
    · rename_i ts e1
      split at e
      · rename_i hl
        injection e with e; subst e
        obtain ⟨w, rfl, r3⟩ := one_of r2
        obtain ⟨a, vs, rfl, s1, p1⟩ := r3.lst
        have ev := allS_rep p1 e1
        subst ev
        refine mt_join pins s σ H x _ v us Q I rx rxs ⟨_, a, _, r1.str, rfl, .inl s1, ?_, ?_⟩
        · rw [join_len, List.length_map, len_mk]; exact of_decide_eq_true hl
        · rw [join_mk]; exact q _ _ leq cf Rep.str
      · cases e
    · cases e
  · rename_i ss ys
    split at e
    · rename_i ts e1
      split at e
      · rename_i hl
        injection e with e; subst e
        obtain ⟨w, rfl, r3⟩ := one_of r2
        obtain ⟨a, vs, rfl, s1, p1⟩ := r3.tup
        have ev := allS_rep p1 e1
        subst ev
        refine mt_join pins s σ H x _ v us Q I rx rxs ⟨_, a, _, r1.str, rfl, .inr s1, ?_, ?_⟩
        · rw [join_len, List.length_map, len_mk]; exact of_decide_eq_true hl
        · rw [join_mk]; exact q _ _ leq cf Rep.str
      · cases e
    · cases e
  · cases e
theorem zfill_mk (s : List Nat) (n : Int) (h0 : 0 ≤ n) (h : ¬ (s.head? = some 43 ∨ s.head? = some 45)) : Txt.zfill (⟨s.toArray⟩ : Str) n = ⟨(List.replicate (n.toNat - s.length) 48 ++ s).toArray⟩ := by
  unfold Txt.zfill
  rw [len_mk]
  split
  · rename_i hn
    have e : n.toNat - s.length = 0 := by omega
    rw [e]; simp
  · rename_i hn
    have e : zfilled (⟨s.toArray⟩ : Str) (n.toNat - s.length) = Builtin.Str.padded ⟨s.toArray⟩ (n.toNat - s.length) 0 48 := by
      unfold zfilled
      have hd : (⟨s.toArray⟩ : Str).cps[0]? = s.head? := by simp [List.head?_eq_getElem?]
      rw [hd]
      split
      · rename_i q; exact absurd (.inl q) h
      · rename_i q; exact absurd (.inr q) h
      · rfl
    rw [e]
    refine ext_tl ?_
    simp [Builtin.Str.padded, tl]
theorem m_zfill : MtR X "str.zfill" (rDM X.K Mzfill) := by
  intro pins s σ H x xs v us Q I rx rxs hq
  obtain ⟨μ, st, d, ds, dz, cf, r1, r2, e, q⟩ := hq
  unfold Mzfill at e
  split at e
  · rename_i ss n
    split at e
    · rename_i hk
      injection e with e; subst e
      simp only [Bool.and_eq_true, decide_eq_true_eq, Bool.not_eq_true', Bool.or_eq_false_iff] at hk
      obtain ⟨⟨h0, h1⟩, h2, h3⟩ := hk
      obtain ⟨w, rfl, r3⟩ := one_of r2
      have hp : PadOk n = true := by
        unfold PadOk fitsSsize Builtin.Str.tooLong
        have hs : sizeLine = 16777216 := sizeLine_eq
        simp
        omega
      refine mt_zfill pins s σ H x _ v us Q I rx rxs ⟨_, n, r1.str, by rw [r3.int], hp, ?_⟩
      rw [zfill_mk ss n h0 (by
        rintro (h | h)
        · rw [h] at h2; simp at h2
        · rw [h] at h3; simp at h3)]
      exact q _ _ leq cf Rep.str
    · cases e
  · cases e
theorem starts_mk (s t : List Nat) : Txt.startswith (⟨s.toArray⟩ : Str) ⟨t.toArray⟩ = t.isPrefixOf s := by
  unfold Txt.startswith
  rw [PySem.StrLaws.subAt_eq, len_mk, len_mk]
  simp only [List.drop_zero]
  show (decide (0 + t.length ≤ s.length) && (s.take t.length == t)) = _
  rw [Bool.eq_iff_iff, Bool.and_eq_true, decide_eq_true_eq, beq_iff_eq, List.isPrefixOf_iff_prefix, List.prefix_iff_eq_take]
  constructor
  · rintro ⟨_, h⟩; exact h.symm
  · intro h
    have := congrArg List.length h
    rw [List.length_take] at this
    exact ⟨by omega, h.symm⟩
theorem m_starts : MtR X "str.startswith" (rDM X.K Mstarts) := by
  intro pins s σ H x xs v us Q I rx rxs hq
  obtain ⟨μ, st, d, ds, dz, cf, r1, r2, e, q⟩ := hq
  unfold Mstarts at e
  split at e
  · injection e with e; subst e
    obtain ⟨w, rfl, r3⟩ := one_of r2
    refine mt_startswith pins s σ H x _ v us Q I rx rxs ⟨_, _, r1.str, by rw [r3.str], ?_⟩
    rw [starts_mk]
    exact q _ _ leq cf Rep.bl
  · cases e
end
end PX

/-! PX6: isinstance; methods that change lists. -/
namespace PX
open PySem PySem.Spec PyProof.Rows L2 TL

def dN : D → String
  | .non => "NoneType" | .bl _ => "bool" | .int _ => "int" | .str _ => "str" | .tup _ => "tuple" | .lst _ => "list" | .dct _ => "dict" | .scr _ => "object"
theorem kit_d (K : PySem.W.Frag) (d : D) (t : Ty) : PySem.W.kitOne K (.type (dN d)) (.type (tyN t)) = some (isTy d t) := by
  refine kit_ty ?_
  cases d <;> cases t <;> first | rfl | decide +kernel
theorem tyX_of {K : PySem.W.Frag} {M : Addr → Prop} {H : Hp} {d : D} {v : V} (r : RepR K M H d v) (ns : tyOf d ≠ none ∨ d = .non) : TyX K H v (.type (dN d)) := by
  cases d with
  | non => cases r.non; exact .base .non
  | bl b => cases r.bl; exact .base (.bl b)
  | int i => cases r.int; exact .base (.int i)
  | str s => cases r.str; exact .base (.str _)
  | tup xs =>
    obtain ⟨a, vs, rfl, s1, _⟩ := r.tup
    rcases s1 with (s1 | ⟨o, s1⟩) | ⟨o, its, n, h1, h2, _⟩
    · exact .base (.tup s1)
    · exact .fTuple s1
    · exact .kTuple h1 h2
  | lst xs =>
    obtain ⟨a, vs, rfl, s1, _⟩ := r
    exact .base (.lst s1)
  | scr ns => exact absurd ns (by simp [tyOf])
  | dct xs =>
    obtain ⟨a, vs, rfl, s1, _⟩ := r
    rcases s1 with s1 | ⟨o, s1⟩
    · exact .base (.dK s1)
    · exact .fDict s1
section
variable {X : Cx} {a b c e o : Expr} {es : List Expr} {f g h : Ex} {fs : List Ex} {pos p p2 : Pos}
theorem x_is (T : Ty) {tn : Str} (htn : bootBuiltins tn = some (.type (tyN T))) (hg : Gl X "isinstance") (hm : X.mg "isinstance" = none) (hg2 : Gl X tn) (hm2 : X.mg tn = none) (ha : PE X a (tX X.K f)) (hn : tn ≠ "__name__") (hd : (tn == ("__debug__" : Str)) = false) (hs : ∀ r, starEach (a :: r) X.env = (false, eval a X.env) :: starEach r X.env := by intro _; rfl) :
    PE X (.Call (.Name "isinstance" p) [a, .Name tn p2] [] pos) (tX X.K (eIs f T)) :=
  (pe_callB call_isi hg hm (by decide +kernel) (pa_cons ha (pa_cons (pe_bltn (v := .ty (tyN T)) hg2 hm2 htn rfl hn hd) pa_nil) (hs _)) (by decide) (by decide) (hs _)).weak fun σV H Q q => by
    obtain ⟨μ, σ, st, z, st', rel, e, q⟩ := q
    obtain ⟨x, st1, e1, e⟩ := bind_ok e
    refine ⟨μ, σ, st, x, st1, rel, e1, fun μ1 H1 v l1 c1 r1 => ?_⟩
    cases d1 : rd st1 x with
    | none => simp [d1] at e
    | some d =>
      have ns : tyOf d ≠ none ∨ d = .non := by cases d <;> simp_all [tyOf]
      have e : Out.ok (VV.d (.bl (isTy d T))) st1 = Out.ok z st' := by cases d <;> simp_all [tyOf]
      injection e with h1 h2; subst h1 h2
      exact ⟨v, .ty (tyN T), .type (dN d), .type (tyN T), _, rfl, .ty _, tyX_of (rd_rep c1 r1 d1) ns, kit_d _ d T, q μ1 H1 _ l1 c1 RepV.bl⟩
theorem kitAny_d (K : PySem.W.Frag) (d : D) : ∀ ts : List Ty, PySem.W.kitAny K (.type (dN d)) (ts.map fun t => Value.type (tyN t)) = some (ts.any (isTy d))
  | [] => rfl
  | t :: ts => by
    refine kitAny_cons (kit_d K d t) (fun h => ?_) fun h => ?_
    · rw [List.any_cons, h, Bool.false_or]; exact kitAny_d K d ts
    · rw [List.any_cons, h, Bool.true_or]
/-- the names of classes, in a written tuple -/
structure Tys (X : Cx) (es : List Expr) (ts : List Ty) : Prop where
  pa : ∀ t, t = (fun (_ : L2.St) (H : Hp) (Q : List V → Hp → Prop) => Q (ts.map fun t => V.ty (tyN t)) H) → PA X es t
theorem tys_nil : Tys X [] [] := ⟨fun t h => by subst h; exact pa_nil⟩
theorem tys_cons {T : Ty} {tn : Str} {ts : List Ty} (htn : bootBuiltins tn = some (.type (tyN T))) (hg2 : Gl X tn) (hm2 : X.mg tn = none) (hn : tn ≠ "__name__") (hd : (tn == ("__debug__" : Str)) = false) (h : Tys X es ts)
    (hs : starEach (.Name tn p2 :: es) X.env = (false, eval (.Name tn p2) X.env) :: starEach es X.env := by rfl) : Tys X (.Name tn p2 :: es) (T :: ts) :=
  ⟨fun t ht => by
    subst ht
    exact (pa_cons (pe_bltn (v := .ty (tyN T)) hg2 hm2 htn rfl hn hd) (h.pa _ rfl) hs).weak fun _ _ _ q => q⟩
theorem cls_all : ∀ ts : List Ty, Paired ClsV (ts.map fun t => V.ty (tyN t)) (ts.map fun t => Value.type (tyN t))
  | [] => .nil
  | _ :: ts => .cons (.ty _) (cls_all ts)
theorem x_isAny {k : Nat} {ts : List Ty} (hg : Gl X "isinstance") (hm : X.mg "isinstance" = none) (ha : PE X a (tX X.K f)) (ht : Tys X es ts) (hl : ts.length ≤ sizeLine := by decide) (hs : ∀ r, starEach (a :: r) X.env = (false, eval a X.env) :: starEach r X.env := by intro _; rfl) :
    PE X (.Call (.Name "isinstance" p) [a, .Tuple es k p2] [] pos) (tX X.K (eIsAny f ts)) :=
  (pe_callB call_isiT hg hm (by decide +kernel) (pa_cons ha (pa_cons (pe_tup (ht.pa _ rfl)) pa_nil) (hs _)) (by decide) (by decide) (hs _)).weak fun σV H Q q => by
    obtain ⟨μ, σ, st, z, st', rel, e, q⟩ := q
    obtain ⟨x, st1, e1, e⟩ := bind_ok e
    refine ⟨μ, σ, st, x, st1, rel, e1, fun μ1 H1 v l1 c1 r1 => ?_⟩
    refine ⟨by rw [List.length_map]; exact hl, fun pp hp => ?_⟩
    have l2 : Le μ1 H1 μ1 (upd H1 pp (.tup (ts.map fun t => V.ty (tyN t)))) := Le.new c1 hp
    cases d1 : rd st1 x with
    | none => simp [d1] at e
    | some d =>
      have ns : tyOf d ≠ none ∨ d = .non := by cases d <;> simp_all [tyOf]
      have e : Out.ok (VV.d (.bl (ts.any (isTy d)))) st1 = Out.ok z st' := by cases d <;> simp_all [tyOf]
      injection e with h1 h2; subst h1 h2
      exact ⟨v, pp, ts.map fun t => V.ty (tyN t), .type (dN d), ts.map fun t => Value.type (tyN t), _, rfl, upd_same, cls_all ts, tyX_of (rd_rep (c1.new hp) (r1.mono l2) d1) ns, kitAny_d _ d ts, q μ1 _ _ (l1.trans l2) (c1.new hp) RepV.bl⟩

/-! ### methods that change -/
variable {name : Str} {apos cpos : Pos}
theorem RepV.live {K : PySem.W.Frag} {μ : Mu} {st : Store} {H : Hp} (cf : Cfg K μ st H) {n : Nat} {v : V} {xs : List D} (r : RepV K μ H (.loc n) v) (e : st[n]? = some (.lst xs)) : ∃ a vs, v = .ref a ∧ μ.l[n]? = some (some a) ∧ H a = some (.lst vs) ∧ Reps K (Live μ) H xs vs := by
  obtain ⟨oa, a, ev, e1, q⟩ := r
  rcases q with q | q
  · subst q
    obtain ⟨o, e2, m⟩ := cf.there n a e1
    rw [e] at e2; cases e2
    obtain ⟨vs, e3, r3⟩ := m
    exact ⟨a, vs, ev, e1, e3, r3⟩
  · subst q
    have := cf.gone n e1
    rw [e] at this; cases this
/-- a list that changes has a new content -/
theorem write_lst {K : PySem.W.Frag} {μ : Mu} {st : Store} {H : Hp} (cf : Cfg K μ st H) {n : Nat} {a : Addr} {ys : List D} {ws : List V} (hn : μ.l[n]? = some (some a)) (r : Reps K (Live μ) H ys ws) :
    Le μ H μ (upd H a (.lst ws)) ∧ Cfg K μ (st.set n (.lst ys)) (upd H a (.lst ws)) := by
  have l : Le μ H μ (upd H a (.lst ws)) := Le.write cf hn
  exact ⟨l, cf.write hn ⟨ws, upd_same, r.mono l.toLr⟩⟩
theorem x_app (ho : PE X o (tX X.K f)) (ha : PE X a (tX X.K g))
    (hbase : attributeBase o "append" X.env (eval o X.env) = eval o X.env := by rfl) (hs1 : starEach [a] X.env = [(false, eval a X.env)] := by rfl)
    (hfew : ((backTo cpos (starEach [a] X.env)).all (fun x => !x.1) && (backToKw cpos (keywordEach [] X.env)).all (fun x => x.1.isSome)
      && decide ([a].length + ([] : List Keyword).length + (if ([] : List Keyword).isEmpty then 0 else 1) < 30)) = true := by rfl)
    (hline : (apos.endLine == cpos.line) = true := by rfl) :
    PE X (.Call (.Attribute o "append" apos) [a] [] cpos) (tX X.K (eApp f g)) :=
  (pe_bm PySem.F.plainAttrs_list PySem.F.slot_list_append PySem.F.type_list_append mt_append ho (pa_cons ha pa_nil (by rw [hs1]; rfl)) hbase hfew hline (by rw [hs1]; rfl) (by rfl)).weak fun σV H Q q => by
    obtain ⟨μ, σ, st, z, st', rel, e, q⟩ := q
    obtain ⟨x, st1, e1, e⟩ := bind_ok e
    split at e
    rotate_left
    · cases e
    rename_i hty
    obtain ⟨y, st2, e2, e⟩ := bind_ok e
    cases x with
    | d x => cases e
    | fn x => cases e
    | loc n =>
      cases y with
      | loc y => cases e
      | fn y => cases e
      | d dy =>
        simp only at e
        split at e
        · rename_i xs e3
          split at e
          · rename_i hl
            injection e with h1 h2; subst h1 h2
            refine ⟨μ, σ, st, _, st1, rel, e1, fun μ1 H1 v l1 c1 r1 => ?_⟩
            refine ⟨tyV_of c1 r1 hty (.inr rfl), μ1, σ, st1, _, st2, rel.mono l1 c1, e2, fun μ2 H2 w l2 c2 r2 => ?_⟩
            obtain ⟨aa, vs, rfl, hn, hH, rr⟩ := RepV.live c2 (r1.mono l2) e3
            obtain ⟨l3, c3⟩ := write_lst c2 hn (rr.append (Reps.cons r2 Reps.nil))
            exact ⟨aa, vs, w, rfl, rfl, hH, by rw [← rr.length]; exact of_decide_eq_true hl, q _ _ _ (l1.trans (l2.trans l3)) c3 RepV.non⟩
          · cases e
        · cases e
theorem x_ext (ho : PE X o (tX X.K f)) (ha : PE X a (tX X.K g))
    (hbase : attributeBase o "extend" X.env (eval o X.env) = eval o X.env := by rfl) (hs1 : starEach [a] X.env = [(false, eval a X.env)] := by rfl)
    (hfew : ((backTo cpos (starEach [a] X.env)).all (fun x => !x.1) && (backToKw cpos (keywordEach [] X.env)).all (fun x => x.1.isSome)
      && decide ([a].length + ([] : List Keyword).length + (if ([] : List Keyword).isEmpty then 0 else 1) < 30)) = true := by rfl)
    (hline : (apos.endLine == cpos.line) = true := by rfl) :
    PE X (.Call (.Attribute o "extend" apos) [a] [] cpos) (tX X.K (eExt f g)) :=
  (pe_bm PySem.F.plainAttrs_list PySem.F.slot_list_extend PySem.F.type_list_extend mt_extend ho (pa_cons ha pa_nil (by rw [hs1]; rfl)) hbase hfew hline (by rw [hs1]; rfl) (by rfl)).weak fun σV H Q q => by
    obtain ⟨μ, σ, st, z, st', rel, e, q⟩ := q
    obtain ⟨x, st1, e1, e⟩ := bind_ok e
    split at e
    rotate_left
    · cases e
    rename_i hty
    obtain ⟨y, st2, e2, e⟩ := bind_ok e
    split at e
    rotate_left
    · cases e
    rename_i n ys
    split at e
    · rename_i xs e3
      split at e
      · rename_i hl
        injection e with h1 h2; subst h1 h2
        refine ⟨μ, σ, st, _, st1, rel, e1, fun μ1 H1 v l1 c1 r1 => ?_⟩
        refine ⟨tyV_of c1 r1 hty (.inr rfl), μ1, σ, st1, _, st2, rel.mono l1 c1, e2, fun μ2 H2 w l2 c2 r2 => ?_⟩
        obtain ⟨aa, vs, rfl, hn, hH, rr⟩ := RepV.live c2 (r1.mono l2) e3
        unfold RepV Rep at r2
        obtain ⟨bb, ws, rfl, hb, _, rb⟩ := r2
        obtain ⟨l3, c3⟩ := write_lst c2 hn (rr.append rb)
        exact ⟨aa, bb, vs, ws, rfl, rfl, hH, hb, by rw [← rr.length, ← rb.length]; exact line_le hl, q _ _ _ (l1.trans (l2.trans l3)) c3 RepV.non⟩
      · cases e
    · cases e
theorem x_pop (ho : PE X o (tX X.K f))
    (hbase : attributeBase o "pop" X.env (eval o X.env) = eval o X.env := by rfl)
    (hline : (apos.endLine == cpos.line) = true := by rfl) :
    PE X (.Call (.Attribute o "pop" apos) [] [] cpos) (tX X.K (ePop f)) :=
  (pe_bm0 PySem.F.plainAttrs_list PySem.F.slot_list_pop PySem.F.type_list_pop mt_pop ho hbase hline).weak fun σV H Q q => by
    obtain ⟨μ, σ, st, z, st', rel, e, q⟩ := q
    obtain ⟨x, st1, e1, e⟩ := bind_ok e
    split at e
    rotate_left
    · cases e
    rename_i n
    split at e
    · rename_i xs e3
      split at e
      · rename_i y e4
        injection e with h1 h2; subst h1 h2
        refine ⟨μ, σ, st, _, st1, rel, e1, fun μ1 H1 v l1 c1 r1 => ?_⟩
        obtain ⟨aa, vs, rfl, hn, hH, rr⟩ := RepV.live c1 r1 e3
        refine ⟨.inl ⟨rfl, vs, SqL.of hH⟩, ?_⟩
        obtain ⟨w, e5, r5⟩ := rr.get e4
        have rd : Reps X.K (Live μ1) H1 xs.dropLast vs.dropLast := by
          rw [List.dropLast_eq_take, List.dropLast_eq_take, rr.length]
          exact rr.take _
        obtain ⟨l3, c3⟩ := write_lst c1 hn rd
        exact ⟨aa, vs, w, rfl, rfl, hH, by rw [← rr.length]; exact e5, q _ _ _ (l1.trans l3) c3 (RepV.d (r5.mono l3.toLr))⟩
      · cases e
    · cases e
end
end PX

/-! PX7: what is walked. -/
namespace PX
open PySem PySem.Spec PyProof.Rows L2 TL

/-- where the items of a walk lie -/
inductive Src where
  | l (a : Addr) | t (a : Addr) | s (z : Str)
def signV (z : Str) : List V := z.cps.toList.map fun c => .str ⟨#[c]⟩
def Src.at (K : PySem.W.Frag) (H : Hp) : Src → List V → Prop
  | .l a, vs => SqL K H a vs
  | .t a, vs => SqT K H a vs
  | .s z, vs => vs = signV z
def Src.val : Src → V
  | .l a => .ref a
  | .t a => .ref a
  | .s z => .str z
def Src.St (it : Addr) (i : Nat) (h : Heap) : Src → Prop
  | .l a => h.IsListIter it a i
  | .t a => h.IsTupleIter it a i
  | .s z => ∃ t, h.IsStrIter it (strIterType z) z t i
def Src.off (b : Addr) : Src → Prop
  | .l a => a ≠ b
  | .t a => a ≠ b
  | .s _ => True
section
variable {X : Cx} {pins : List (Addr × Obj)} {σ : L2.St} {H : Hp} {s : Shared}
theorem Src.there (I : Inv X pins σ H s) {c : Src} {vs : List V} (h : c.at X.K H vs) : ∀ b, s.heap.objs.size ≤ b → c.off b := fun b hb => by
  cases c with
  | l a =>
    obtain ⟨its, _, ⟨o, n, e, _⟩, _⟩ := I.list h
    exact Nat.ne_of_lt (Nat.lt_of_lt_of_le (Heap.lt_size e) hb)
  | t a =>
    obtain ⟨its, _, ⟨o, e, _⟩, _⟩ := I.tuple h
    exact Nat.ne_of_lt (Nat.lt_of_lt_of_le (Heap.lt_size e) hb)
  | s z => trivial
theorem Src.inj (I : Inv X pins σ H s) {c : Src} {vs ws : List V} (h : c.at X.K H vs) (h' : c.at X.K H ws) : vs = ws := by
  cases c with
  | l a => exact I.list_inj h h'
  | t a => exact I.tuple_inj h h'
  | s z => exact Eq.trans (show vs = signV z from h) (show ws = signV z from h').symm
/-- what its iterator draws now -/
theorem Src.draws (I : Inv X pins σ H s) (hh : X.A.handled = none) {c : Src} {vs : List V} (h : c.at X.K H vs) (it : Addr) (hne : c.off it) :
    ∃ (n : Nat) (P : Nat → Value → Prop) (fp : List Addr) (St : Nat → Heap → Prop), n = vs.length ∧ it ∈ fp ∧ (∀ e, c.off e → e ≠ it → e ∉ fp) ∧ (∀ i u, P i u → ∃ x, vs[i]? = some x ∧ RelV x u) ∧ (∀ i h', St i h' → c.St it i h') ∧ (∀ i, c.St it i s.heap → ∃ St', (∀ j h', St' j h' → c.St it j h') ∧ St' i s.heap ∧ Draws X.prog X.w X.A.in1 it fp n P St') := by
  cases c with
  | l a =>
    obtain ⟨its, rv, p, _⟩ := I.list h
    refine ⟨_, _, _, fun i h => h.IsListIter it a i ∧ h.IsList a its.toArray, ?_, ?_, ?_, ?_, fun i h' z => z.1, fun i st => ⟨_, fun j h' z => z.1, ⟨st, p.isList⟩, Draws.list (A := X.A.in1) hh it a hne its.toArray⟩⟩
    · rw [List.size_toArray]; exact rv.length.symm
    · simp
    · intro e he hi; simp; exact ⟨hi, fun z => he z.symm⟩
    · intro i u hu
      obtain ⟨h1, h2⟩ := List.getElem?_eq_some_iff.mp (show its[i]? = some u by simpa using hu)
      have hi : i < vs.length := by rw [rv.length]; exact h1
      obtain ⟨u', e1, r⟩ := rv.get (List.getElem?_eq_getElem hi)
      rw [List.getElem?_eq_getElem h1] at e1
      refine ⟨vs[i], List.getElem?_eq_getElem hi, ?_⟩
      rw [← h2, Option.some.inj e1]; exact r
  | t a =>
    obtain ⟨its, rv, p, _⟩ := I.tuple h
    refine ⟨_, _, _, fun i h => h.IsTupleIter it a i ∧ h.IsTuple a its.toArray, ?_, ?_, ?_, ?_, fun i h' z => z.1, fun i st => ⟨_, fun j h' z => z.1, ⟨st, p⟩, Draws.tuple (A := X.A.in1) hh it a hne its.toArray⟩⟩
    · rw [List.size_toArray]; exact rv.length.symm
    · simp
    · intro e he hi; simp; exact ⟨hi, fun z => he z.symm⟩
    · intro i u hu
      obtain ⟨h1, h2⟩ := List.getElem?_eq_some_iff.mp (show its[i]? = some u by simpa using hu)
      have hi : i < vs.length := by rw [rv.length]; exact h1
      obtain ⟨u', e1, r⟩ := rv.get (List.getElem?_eq_getElem hi)
      rw [List.getElem?_eq_getElem h1] at e1
      refine ⟨vs[i], List.getElem?_eq_getElem hi, ?_⟩
      rw [← h2, Option.some.inj e1]; exact r
  | s z =>
    have e : vs = signV z := h
    subst e
    refine ⟨z.cps.size, fun i v => ∃ c u, z.cps[i]? = some c ∧ v = .str ⟨#[c]⟩ u, [it], fun i h => ∃ t, h.IsStrIter it (strIterType z) z t i, ?_, ?_, ?_, ?_, fun i h' z => z, fun i st => ?_⟩
    · unfold signV; simp
    · simp
    · intro e he hi; simpa using hi
    · rintro i u ⟨c, t, hc, rfl⟩
      refine ⟨.str ⟨#[c]⟩, ?_, t, rfl⟩
      unfold signV
      rw [List.getElem?_map, Array.getElem?_toList, hc]; rfl
    · obtain ⟨t, st⟩ := st
      exact ⟨_, fun j h' q => ⟨t, q⟩, st, Draws.text (A := X.A.in1) hh it z t⟩
end

/-! ### enumerate(v, k) -/
def IteS (K : PySem.W.Frag) (c : Src) (k : Int) : It :=
  ⟨fun i H => ∃ (vs : List V) (x : V), c.at K H vs ∧ vs[i]? = some x, fun i H v H' => ∃ T x, v = .ref T ∧ H T = none ∧ H' = upd H T (.tup [.int (k + (i : Nat)), x]) ∧ ∀ vs, c.at K H vs → vs[i]? = some x, fun i H => ∃ vs : List V, c.at K H vs ∧ vs.length = i⟩
theorem turn_enumS {P : Program} {w : World} {K : PySem.W.Frag} {elts : List Expr} {kk : Nat} {tpos : Pos} (c : Src) (k : Int) (e it : Addr) :
    Turn P w K (.Tuple elts kk tpos) (IteS K c k) [e, it] e (fun i h => (∃ old, IsEnum h e it (k + (i : Int)) old) ∧ c.St it i h ∧ e ≠ it ∧ c.off e ∧ c.off it) where
  mem := by simp
  obj := fun i h st b hb => by
    obtain ⟨⟨old, he⟩, hs, _⟩ := st
    have e' : b = e ∨ b = it := by simpa using hb
    rcases e' with z | z
    · rw [z]; exact ⟨_, he, fun v q => nomatch q⟩
    · rw [z]
      cases c with
      | l a => obtain ⟨o, ho, hc, hd⟩ := hs; exact ⟨o, ho, fun v q => by rw [hd] at q; cases q⟩
      | t a => obtain ⟨o, ho, hc, hd⟩ := hs; exact ⟨o, ho, fun v q => by rw [hd] at q; cases q⟩
      | s x => obtain ⟨t, o, ho, hc, hd⟩ := hs; exact ⟨o, ho, fun v q => by rw [hd] at q; cases q⟩
  keep := fun i h h' st k' => by
    obtain ⟨⟨old, he⟩, hs, r⟩ := st
    refine ⟨⟨old, k' e (by simp) _ he⟩, ?_, r⟩
    cases c with
    | l a => exact Heap.IsListIter.at hs fun o q => k' it (by simp) o q
    | t a => exact Heap.IsTupleIter.at hs fun o q => k' it (by simp) o q
    | s x => obtain ⟨t, o, ho, r⟩ := hs; exact ⟨t, o, k' it (by simp) o ho, r⟩
  item := by
    intro X hP hw hK hc i pins s σ H E I hf st hg
    subst hP hw hK
    obtain ⟨he, hs, hne, o1, o2⟩ := st
    obtain ⟨vs, x, hq, hx⟩ := hg
    obtain ⟨n, Pp, fp, _, hn, hit, hfp, hP, _, hD⟩ := Src.draws I (I.ok.hd hc) hq it o2
    obtain ⟨St', hS, hst, D⟩ := hD i hs
    have hi : i < n := by rw [hn]; exact (List.getElem?_eq_some_iff.mp hx).1
    have G := GoesN.enumFrom (elts := elts) (x1 := kk) (pos := tpos) (A := X.A) k D e hne (hfp e o1 hne) hit
    have hel : e < s.heap.objs.size := by obtain ⟨old, he⟩ := he; exact Heap.lt_size he
    have hil : it < s.heap.objs.size := by
      cases c with
      | l a => obtain ⟨o, ho, _⟩ := hs; exact Heap.lt_size ho
      | t a => obtain ⟨o, ho, _⟩ := hs; exact Heap.lt_size ho
      | s x => obtain ⟨t, o, ho, _⟩ := hs; exact Heap.lt_size ho
    refine G.goes i s _ E hi ⟨he, hst⟩ fun v h' tk hY st' hk _ => ?_
    obtain ⟨T, t, u, rfl, hT, hu, hTup⟩ := hY
    obtain ⟨x', hx', ru⟩ := hP i u hu
    rw [hx] at hx'; cases hx'
    have new : ObjOk X.prog X.w (upd H T (.tup [.int (k + (i : Nat)), x])) h' T (.tup [.int (k + (i : Nat)), x]) :=
      ⟨by show 2 ≤ sizeLine; decide, [.int (k + (i : Nat)) t, u], .cons ⟨_, rfl⟩ (.cons ru .nil), hTup⟩
    have I1 := I.turnedNew (t' := tk) (ch := [e, it]) (fun b ob hb q => hk b ob hb q) hf hT new
    refine ⟨.ref T, _, I1, rfl, ⟨T, x, rfl, I.hok.fresh hT, rfl, fun ws hw => by rw [Src.inj I hw hq]; exact hx⟩, ⟨?_, hS _ _ st'.2, hne, o1, o2⟩, fun b hb => ?_⟩
    · exact st'.1
    · have hb' : b < s.heap.objs.size := by
        have e' : b = e ∨ b = it := by simpa using hb
        rcases e' with z | z
        · rw [z]; exact hel
        · rw [z]; exact hil
      rw [upd_ne (Nat.ne_of_lt (Nat.lt_of_lt_of_le hb' hT))]
      exact (hf b hb).1
  done := by
    intro X hP hw hK hc i pins s σ H E I hf st hg
    subst hP hw hK
    obtain ⟨he, hs, hne, o1, o2⟩ := st
    obtain ⟨vs, hq, hx⟩ := hg
    obtain ⟨n, Pp, fp, _, hn, hit, hfp, hP, _, hD⟩ := Src.draws I (I.ok.hd hc) hq it o2
    obtain ⟨St', hS, hst, D⟩ := hD i hs
    have G := GoesN.enumFrom (elts := elts) (x1 := kk) (pos := tpos) (A := X.A) k D e hne (hfp e o1 hne) hit
    have hni : n = i := hn.trans hx
    refine G.stops s (fun s1 => Inv X pins σ H s1) E (by rw [hni]; exact ⟨he, hst⟩) fun h' tk hk _ => ?_
    exact I.turnedL (t' := tk) (ch := [e, it]) (fun b o hb q => hk b o hb q) hf
  self := fun A i s Q E st h => let ⟨⟨_, he⟩, _⟩ := st; wpAny_pyIter_enum he h
theorem Src.begins {X : Cx} {pins : List (Addr × Obj)} {σ : L2.St} {H : Hp} {s : Shared} (I : Inv X pins σ H s) {c : Src} {vs : List V} (h : c.at X.K H vs) {u : Value} (r : RelV c.val u) :
    ∃ (o : Obj) (Hh : Heap → Prop), Begins u o Hh ∧ Hh s.heap ∧ ∀ (h' : Heap) (it : Addr), h'.get? it = some o → c.St it 0 h' := by
  cases c with
  | l a =>
    cases r
    obtain ⟨its, rv, p, _⟩ := I.list h
    exact ⟨_, _, begins_list a its.toArray, p.isList, fun h' it e => ⟨_, e, rfl, rfl⟩⟩
  | t a =>
    cases r
    obtain ⟨its, rv, p, _⟩ := I.tuple h
    exact ⟨_, _, begins_tuple a its.toArray, p, fun h' it e => ⟨_, e, rfl, rfl⟩⟩
  | s z =>
    obtain ⟨t, rfl⟩ := r
    exact ⟨_, _, begins_text z t, trivial, fun h' it e => ⟨t, _, e, rfl, rfl⟩⟩
/-- enumerate(v, k) -/
def iEnumS (K : PySem.W.Frag) (ta : TA) : TI := fun σ H R => ta σ H fun vs H1 => ∃ (c : Src) (ws : List V) (k : Int), vs = [c.val, .int k] ∧ -(2 ^ 63) ≤ k ∧ k < 2 ^ 63 ∧ c.at K H1 ws ∧ R (IteS K c k) H1
theorem pi_enum2 {X : Cx} {e e2 : Expr} {ta : TA} {p pos tpos : Pos} {elts : List Expr} {kk : Nat} (hg : Gl X "enumerate") (hm : X.mg "enumerate" = none) (ha : PA X [e, e2] ta)
    (hs : starEach [e, e2] X.env = (false, eval e X.env) :: starEach [e2] X.env := by rfl) (hpl : (backTo pos (starEach [e2] X.env)).any (·.1) = false := by rfl) :
    PI X (.Tuple elts kk tpos) (.Call (.Name "enumerate" p) [e, e2] [] pos) (iEnumS X.K ta) := by
  refine ⟨fun pins s σ H R I h => ?_⟩
  refine Call_ (ld_blt I hg hm boot_enumerate (PyProof.Rows.callWith_type1 (thn (ha.run pos pins s σ H _ I h) fun us s1 ⟨vs, H1, I1, r1, q1⟩ => ?_) hs hpl))
  obtain ⟨c, ws, k, ex, hk0, hk1, hq, q⟩ := q1
  subst ex
  obtain ⟨u, u2, rfl, ru, ru2⟩ := vals2 r1
  obtain ⟨t, rfl⟩ := ru2
  obtain ⟨o, Hh, B, hB, hst⟩ := Src.begins I1 hq ru
  refine enum_begins B hB hk0 hk1 fun h' hen ho hsz hkp => wpAny_pyIter_enum hen ?_
  have I2 : Inv X pins σ H1 { s1 with heap := h' } := I1.kept (t' := s1.toks) hkp
  refine ⟨s1.heap.objs.size + 1, [s1.heap.objs.size + 1, s1.heap.objs.size], _, _, H1, rfl, I2, turn_enumS c k (s1.heap.objs.size + 1) s1.heap.objs.size,
    ⟨⟨.none, by simpa using hen⟩, hst h' _ ho, Nat.succ_ne_self _, Src.there I1 hq _ (Nat.le_succ _), Src.there I1 hq _ (Nat.le_refl _)⟩, fun b hb => ?_, q⟩
  have e' : b = s1.heap.objs.size + 1 ∨ b = s1.heap.objs.size := by simpa using hb
  have hle : s1.heap.objs.size ≤ b := by
    rcases e' with z | z
    · rw [z]; exact Nat.le_add_right _ _
    · rw [z]; exact Nat.le_refl _
  exact I1.fpOk hle (I1.hok.fresh hle)

/-! ### zip(v1, v2) -/
def ItzS (K : PySem.W.Frag) (c d : Src) : It :=
  ⟨fun i H => ∃ (vs ws : List V) (x y : V), c.at K H vs ∧ d.at K H ws ∧ vs[i]? = some x ∧ ws[i]? = some y,
    fun i H v H' => ∃ T x y, v = .ref T ∧ H T = none ∧ H' = upd H T (.tup [x, y]) ∧ (∀ vs, c.at K H vs → vs[i]? = some x) ∧ ∀ ws, d.at K H ws → ws[i]? = some y,
    fun i H => ∃ vs ws : List V, c.at K H vs ∧ d.at K H ws ∧ min vs.length ws.length = i⟩
theorem stObj {c : Src} {it : Addr} {i : Nat} {h : Heap} (hs : c.St it i h) : ∃ o, h.get? it = some o ∧ (∀ v, o.data ≠ .cell v) ∧ ∀ h' : Heap, h'.get? it = some o → c.St it i h' := by
  cases c with
  | l a => obtain ⟨o, ho, hc, hd⟩ := hs; exact ⟨o, ho, fun v q => by (rw [hd] at q; cases q), fun h' e => ⟨o, e, hc, hd⟩⟩
  | t a => obtain ⟨o, ho, hc, hd⟩ := hs; exact ⟨o, ho, fun v q => by (rw [hd] at q; cases q), fun h' e => ⟨o, e, hc, hd⟩⟩
  | s x => obtain ⟨t, o, ho, hc, hd⟩ := hs; exact ⟨o, ho, fun v q => by (rw [hd] at q; cases q), fun h' e => ⟨t, o, e, hc, hd⟩⟩
structure Apart (z TI TO i1 i2 : Addr) (c d : Src) : Prop where
  tz : TI ≠ z
  oz : TO ≠ z
  to : TI ≠ TO
  t1 : TI ≠ i1
  t2 : TI ≠ i2
  z1 : z ≠ i1
  z2 : z ≠ i2
  o1 : TO ≠ i1
  o2 : TO ≠ i2
  i12 : i1 ≠ i2
  c1 : c.off i1
  c2 : c.off i2
  cz : c.off z
  ct : c.off TI
  co : c.off TO
  d1 : d.off i1
  d2 : d.off i2
  dz : d.off z
  dt : d.off TI
  do' : d.off TO
theorem turn_zipS {P : Program} {w : World} {K : PySem.W.Frag} {elts : List Expr} {kk : Nat} {tpos : Pos} {c d : Src} {z TI TO i1 i2 : Addr} (D : Apart z TI TO i1 i2 c d) :
    Turn P w K (.Tuple elts kk tpos) (ItzS K c d) [z, TI, TO, i1, i2] z (fun i h => IsZip h z TI TO .none ∧ IsTupOf2 h TI (.ref i1) (.ref i2) ∧ (∃ a1 a2, IsTupOf2 h TO a1 a2) ∧ c.St i1 i h ∧ d.St i2 i h) where
  mem := by simp
  obj := fun i h st b hb => by
    obtain ⟨hz, hT, ⟨a1, a2, hO⟩, h1, h2⟩ := st
    have e' : b = z ∨ b = TI ∨ b = TO ∨ b = i1 ∨ b = i2 := by simpa using hb
    rcases e' with q | q | q | q | q
    · rw [q]; exact ⟨_, hz, fun v q => nomatch q⟩
    · rw [q]; exact ⟨_, hT, fun v q => nomatch q⟩
    · rw [q]; exact ⟨_, hO, fun v q => nomatch q⟩
    · rw [q]; obtain ⟨o, e, n, _⟩ := stObj h1; exact ⟨o, e, n⟩
    · rw [q]; obtain ⟨o, e, n, _⟩ := stObj h2; exact ⟨o, e, n⟩
  keep := fun i h h' st k' => by
    obtain ⟨hz, hT, ⟨a1, a2, hO⟩, h1, h2⟩ := st
    obtain ⟨o1, e1, _, f1⟩ := stObj h1
    obtain ⟨o2, e2, _, f2⟩ := stObj h2
    exact ⟨k' z (by simp) _ hz, k' TI (by simp) _ hT, ⟨a1, a2, k' TO (by simp) _ hO⟩, f1 h' (k' i1 (by simp) _ e1), f2 h' (k' i2 (by simp) _ e2)⟩
  item := by
    intro X hP hw hK hc i pins s σ H E I hf st hg
    subst hP hw hK
    obtain ⟨hz, hT, hO, h1, h2⟩ := st
    obtain ⟨vs, ws, x, y, hq, hq2, hx, hy⟩ := hg
    obtain ⟨n, Pp, fp, _, hn, hit, hfp, hPp, _, hD⟩ := Src.draws I (I.ok.hd hc) hq i1 D.c1
    obtain ⟨n2, Pp2, fp2, _, hn2, hit2, hfp2, hPp2, _, hD2⟩ := Src.draws I (I.ok.hd hc) hq2 i2 D.d2
    obtain ⟨St', hS, hst, D1⟩ := hD i h1
    obtain ⟨St2', hS2, hst2, D2⟩ := hD2 i h2
    have hi : i < min n n2 := by
      have a1 := (List.getElem?_eq_some_iff.mp hx).1
      have a2 := (List.getElem?_eq_some_iff.mp hy).1
      omega
    have S : ZipSep2 z TI TO i1 i2 fp fp2 :=
      { TIz := D.tz, TOz := D.oz, TITO := D.to, TIi1 := D.t1, mem1 := hit, zf1 := hfp z D.cz D.z1, Tf1 := hfp TO D.co D.o1,
        TIi2 := D.t2, mem2 := hit2, zf2 := hfp2 z D.dz D.z2, Tf2 := hfp2 TO D.do' D.o2, sep1_2 := hfp2 i1 D.d1 D.i12, sep2_1 := hfp i2 D.c2 (Ne.symm D.i12) }
    have G := GoesN.zip2 (elts := elts) (x1 := kk) (pos := tpos) (A := X.A) S D1 D2
    have lt : ∀ b ∈ [z, TI, TO, i1, i2], b < s.heap.objs.size := fun b hb => by
      have e' : b = z ∨ b = TI ∨ b = TO ∨ b = i1 ∨ b = i2 := by simpa using hb
      rcases e' with q | q | q | q | q
      · rw [q]; exact Heap.lt_size hz
      · rw [q]; exact Heap.lt_size hT
      · rw [q]; obtain ⟨_, _, hO⟩ := hO; exact Heap.lt_size hO
      · rw [q]; obtain ⟨o, e, _⟩ := stObj h1; exact Heap.lt_size e
      · rw [q]; obtain ⟨o, e, _⟩ := stObj h2; exact Heap.lt_size e
    refine G.goes i s _ E hi ⟨hz, hT, hO, hst, hst2⟩ fun v h' tk hY st' hk _ => ?_
    obtain ⟨T, u, u2, rfl, hTn, hu, hu2, hTup⟩ := hY
    obtain ⟨x', hx', ru⟩ := hPp i u hu
    obtain ⟨y', hy', ru2⟩ := hPp2 i u2 hu2
    rw [hx] at hx'; cases hx'
    rw [hy] at hy'; cases hy'
    have new : ObjOk X.prog X.w (upd H T (.tup [x, y])) h' T (.tup [x, y]) :=
      ⟨by show 2 ≤ sizeLine; decide, [u, u2], .cons ru (.cons ru2 .nil), hTup⟩
    have I1 := I.turnedNew (t' := tk) (ch := [z, TI, TO, i1, i2]) (fun b ob hb q => hk b ob (fun z' => hb (by
      have e' : b = z ∨ b = TO ∨ b = i1 ∨ b = i2 := by simpa using z'
      rcases e' with q | q | q | q <;> simp [q])) q) hf hTn new
    obtain ⟨g1, g2, g3, g4, g5⟩ := st'
    refine ⟨.ref T, _, I1, rfl, ⟨T, x, y, rfl, I.hok.fresh hTn, rfl, (fun vs' hw => by rw [Src.inj I hw hq]; exact hx), (fun vs' hw => by rw [Src.inj I hw hq2]; exact hy)⟩, ⟨g1, g2, g3, hS _ _ g4, hS2 _ _ g5⟩, fun b hb => ?_⟩
    rw [upd_ne (Nat.ne_of_lt (Nat.lt_of_lt_of_le (lt b hb) hTn))]
    exact (hf b hb).1
  done := by
    intro X hP hw hK hc i pins s σ H E I hf st hg
    subst hP hw hK
    obtain ⟨hz, hT, hO, h1, h2⟩ := st
    obtain ⟨vs, ws, hq, hq2, hx⟩ := hg
    obtain ⟨n, Pp, fp, _, hn, hit, hfp, hPp, _, hD⟩ := Src.draws I (I.ok.hd hc) hq i1 D.c1
    obtain ⟨n2, Pp2, fp2, _, hn2, hit2, hfp2, hPp2, _, hD2⟩ := Src.draws I (I.ok.hd hc) hq2 i2 D.d2
    obtain ⟨St', hS, hst, D1⟩ := hD i h1
    obtain ⟨St2', hS2, hst2, D2⟩ := hD2 i h2
    have S : ZipSep2 z TI TO i1 i2 fp fp2 :=
      { TIz := D.tz, TOz := D.oz, TITO := D.to, TIi1 := D.t1, mem1 := hit, zf1 := hfp z D.cz D.z1, Tf1 := hfp TO D.co D.o1,
        TIi2 := D.t2, mem2 := hit2, zf2 := hfp2 z D.dz D.z2, Tf2 := hfp2 TO D.do' D.o2, sep1_2 := hfp2 i1 D.d1 D.i12, sep2_1 := hfp i2 D.c2 (Ne.symm D.i12) }
    have G := GoesN.zip2 (elts := elts) (x1 := kk) (pos := tpos) (A := X.A) S D1 D2
    have hni : min n n2 = i := by rw [hn, hn2]; exact hx
    refine G.stops s (fun s1 => Inv X pins σ H s1) E (by rw [hni]; exact ⟨hz, hT, hO, hst, hst2⟩) fun h' tk hk _ => ?_
    exact I.turnedL (t' := tk) (ch := [z, TI, TO, i1, i2]) (fun b o hb q => hk b o (fun z' => hb (by
      have e' : b = z ∨ b = TO ∨ b = i1 ∨ b = i2 := by simpa using z'
      rcases e' with q | q | q | q <;> simp [q])) q) hf
  self := fun A i s Q E st h => wpAny_pyIter_zip st.1 h
def iZipS (K : PySem.W.Frag) (ta : TA) : TI := fun σ H R => ta σ H fun vs H1 => ∃ (c d : Src) (xs ys : List V), vs = [c.val, d.val] ∧ c.at K H1 xs ∧ d.at K H1 ys ∧ R (ItzS K c d) H1
theorem pi_zip2 {X : Cx} {e e2 : Expr} {ta : TA} {p pos tpos : Pos} {elts : List Expr} {kk : Nat} (hg : Gl X "zip") (hm : X.mg "zip" = none) (ha : PA X [e, e2] ta)
    (hs : starEach [e, e2] X.env = (false, eval e X.env) :: starEach [e2] X.env := by rfl) (hpl : (backTo pos (starEach [e2] X.env)).any (·.1) = false := by rfl) :
    PI X (.Tuple elts kk tpos) (.Call (.Name "zip" p) [e, e2] [] pos) (iZipS X.K ta) := by
  refine ⟨fun pins s σ H R I h => ?_⟩
  refine Call_ (ld_blt I hg hm PyProof.Rows.boot_zip (PyProof.Rows.callWith_type1 (thn (ha.run pos pins s σ H _ I h) fun us s1 ⟨vs, H1, I1, r1, q1⟩ => ?_) hs hpl))
  obtain ⟨c, d, xs, ys, ex, hq, hq2, q⟩ := q1
  subst ex
  obtain ⟨u, u2, rfl, ru, ru2⟩ := vals2 r1
  obtain ⟨o, Hh, B, hB, hst⟩ := Src.begins I1 hq ru
  obtain ⟨o2, Hh2, B2, hB2, hst2⟩ := Src.begins I1 hq2 ru2
  have N : Nat := s1.heap.objs.size
  have hle : ∀ k : Nat, s1.heap.objs.size ≤ s1.heap.objs.size + k := fun k => Nat.le_add_right _ _
  refine zip_begins2 B B2 hB hB2 fun h' hz hTI hTO h1 h2 hsz hk => wpAny_pyIter_zip hz ?_
  have I2 : Inv X pins σ H1 { s1 with heap := h' } := I1.kept (t' := s1.toks) hk
  have off1 := Src.there I1 hq
  have off2 := Src.there I1 hq2
  have D : Apart (s1.heap.objs.size + 4) (s1.heap.objs.size + 2) (s1.heap.objs.size + 3) s1.heap.objs.size (s1.heap.objs.size + 1) c d := by
    have ne : ∀ a b : Nat, a ≠ b → (s1.heap.objs.size + a : Nat) ≠ s1.heap.objs.size + b := fun a b h => by omega
    exact { tz := ne 2 4 (by decide), oz := ne 3 4 (by decide), to := ne 2 3 (by decide), t1 := ne 2 0 (by decide), t2 := ne 2 1 (by decide), z1 := ne 4 0 (by decide), z2 := ne 4 1 (by decide), o1 := ne 3 0 (by decide), o2 := ne 3 1 (by decide), i12 := ne 0 1 (by decide),
            c1 := off1 _ (Nat.le_refl _), c2 := off1 _ (hle 1), cz := off1 _ (hle 4), ct := off1 _ (hle 2), co := off1 _ (hle 3), d1 := off2 _ (Nat.le_refl _), d2 := off2 _ (hle 1), dz := off2 _ (hle 4), dt := off2 _ (hle 2), do' := off2 _ (hle 3) }
  refine ⟨s1.heap.objs.size + 4, [s1.heap.objs.size + 4, s1.heap.objs.size + 2, s1.heap.objs.size + 3, s1.heap.objs.size, s1.heap.objs.size + 1], _, _, H1, rfl, I2, turn_zipS D, ⟨hz, hTI, ⟨_, _, hTO⟩, hst h' _ h1, hst2 h' _ h2⟩, fun b hb => ?_, q⟩
  have e' : b = s1.heap.objs.size + 4 ∨ b = s1.heap.objs.size + 2 ∨ b = s1.heap.objs.size + 3 ∨ b = s1.heap.objs.size ∨ b = s1.heap.objs.size + 1 := by simpa using hb
  have hle : s1.heap.objs.size ≤ b := by
    rcases e' with z | z | z | z | z <;> rw [z]
    · exact hle 4
    · exact hle 2
    · exact hle 3
    · exact Nat.le_refl _
    · exact hle 1
  exact I1.fpOk hle (I1.hok.fresh hle)
end PX

/-! PX8: walks, targets, statements, loops. -/
namespace PX
open PySem PySem.Spec PyProof.Rows L2 TL

/-- J yields ds, as long as what it walks is not changed -/
structure Yields (K : PySem.W.Frag) (ds : List D) (w : Option (Nat × MO)) (μ0 : Mu) (H0 : Hp) (J : It) : Prop where
  go : ∀ μ st H (i : Nat) d, Lw μ0 H0 μ H → Cfg K μ st H → kept w st = true → ds[i]? = some d → J.go i H ∧ ∀ x H', J.yld i H x H' → Le μ H μ H' ∧ Cfg K μ st H' ∧ Rep K (Live μ) H' d x
  stop : ∀ μ st H, Lw μ0 H0 μ H → Cfg K μ st H → kept w st = true → J.stop ds.length H
def tI (K : PySem.W.Frag) (it : Ix) : TI := fun σV H R => ∃ μ σ st p st', Rel K μ σ st σV H ∧ it σ st = .ok p st' ∧ ∀ μ' H' J, Le μ H μ' H' → Cfg K μ' st' H' → kept p.2 st' = true → Yields K p.1 p.2 μ' H' J → R J H'

section
variable {X : Cx} {a b c e : Expr} {es : List Expr} {f g h : Ex} {fs : List Ex} {pos p tpos : Pos} {tg : Expr}
/-- what is walked by its own items -/
inductive SrcOk (K : PySem.W.Frag) (μ : Mu) (H : Hp) : Src → List D → Option (Nat × MO) → Prop
  | l {a : Addr} {vs : List V} {ds : List D} (h : H a = some (.lst vs)) (n : ¬ Live μ a) (r : Reps K (Live μ) H ds vs) : SrcOk K μ H (.l a) ds none
  | sc {a : Addr} {ns : List Int} (h : Rep K (Live μ) H (.scr ns) (.ref a)) : SrcOk K μ H (.l a) (ns.map D.int) none
  | loc {a : Addr} {ds : List D} {n : Nat} (hn : μ.l[n]? = some (some a)) : SrcOk K μ H (.l a) ds (some (n, .lst ds))
  | t {a : Addr} {vs : List V} {ds : List D} (h : SqT K H a vs) (r : Reps K (Live μ) H ds vs) : SrcOk K μ H (.t a) ds none
  | s {z : List Nat} : SrcOk K μ H (.s ⟨z.toArray⟩) (signs z) none
theorem reps_signs {K : PySem.W.Frag} {M : Addr → Prop} {H : Hp} : ∀ z : List Nat, Reps K M H (signs z) (signV ⟨z.toArray⟩)
  | [] => Reps.nil
  | c :: z => Reps.cons (by unfold Rep; rfl) (reps_signs z)
theorem kept_some {n : Nat} {o : MO} {st : Store} (h : kept (some (n, o)) st = true) : st[n]? = some o := by
  simpa [kept] using h
/-- it is so at each later time -/
theorem SrcOk.later {K : PySem.W.Frag} {μ0 μ : Mu} {H0 H : Hp} {st : Store} {cs : Src} {ds : List D} {w : Option (Nat × MO)} (s : SrcOk K μ0 H0 cs ds w) (l : Lw μ0 H0 μ H) (c : Cfg K μ st H) (k : kept w st = true) :
    ∃ vs, cs.at K H vs ∧ Reps K (Live μ) H ds vs := by
  cases s with
  | l h n r => exact ⟨_, SqL.of (l.eq _ _ n h), r.mono l.toLr⟩
  | @sc a ns h =>
    have h1 := Rep.mono l.toLr h
    unfold Rep at h1
    obtain ⟨a', e, q, _⟩ := h1
    cases e
    exact ⟨_, q, Reps.ints _⟩
  | @loc a ds n hn =>
    have e := kept_some k
    obtain ⟨oa, e1, d⟩ := l.at' n _ hn
    rcases d with d | d
    · subst d
      obtain ⟨o, e2, m⟩ := c.there n a e1
      rw [e] at e2; cases e2
      obtain ⟨vs, e3, r⟩ := m
      exact ⟨vs, SqL.of e3, r⟩
    · subst d
      have := c.gone n e1
      rw [e] at this; cases this
  | t h r => exact ⟨_, l.sqT h, r.mono l.toLr⟩
  | s => exact ⟨_, rfl, reps_signs _⟩
theorem SrcOk.mono {K : PySem.W.Frag} {μ0 μ : Mu} {H0 H : Hp} {st : Store} {cs : Src} {ds : List D} {w : Option (Nat × MO)} (s : SrcOk K μ0 H0 cs ds w) (l : Lw μ0 H0 μ H) (c : Cfg K μ st H) (k : kept w st = true) : SrcOk K μ H cs ds w := by
  cases s with
  | l h n r => exact .l (l.eq _ _ n h) (l.rd _ _ n (.inl h)).2 (r.mono l.toLr)
  | sc h => exact .sc (Rep.mono l.toLr h)
  | @loc a ds n hn =>
    obtain ⟨oa, e1, d⟩ := l.at' n _ hn
    rcases d with d | d
    · subst d; exact .loc e1
    · subst d
      have e := kept_some k
      have := c.gone n e1
      rw [e] at this; cases this
  | t h r => exact .t (l.sqT h) (r.mono l.toLr)
  | s => exact .s
theorem yields_list {K : PySem.W.Frag} {μ0 : Mu} {H0 : Hp} {ds : List D} {w : Option (Nat × MO)} {a : Addr} (s : SrcOk K μ0 H0 (.l a) ds w) : Yields K ds w μ0 H0 (Itl K a) where
  go := fun μ st H i d l c k hd => by
    obtain ⟨vs, hq, r⟩ := s.later l c k
    obtain ⟨v, e, rv⟩ := r.get hd
    refine ⟨⟨vs, v, hq, e⟩, fun x H' y => ?_⟩
    obtain ⟨rfl, y⟩ := y
    have := y vs hq
    rw [e] at this; cases this
    exact ⟨Le.refl _ _, c, rv⟩
  stop := fun μ st H l c k => by
    obtain ⟨vs, hq, r⟩ := s.later l c k
    exact ⟨vs, hq, by rw [r.length]; exact Nat.le_refl _⟩
theorem yields_tup {K : PySem.W.Frag} {μ0 : Mu} {H0 : Hp} {ds : List D} {w : Option (Nat × MO)} {a : Addr} (s : SrcOk K μ0 H0 (.t a) ds w) : Yields K ds w μ0 H0 (Itt K a) where
  go := fun μ st H i d l c k hd => by
    obtain ⟨vs, hq, r⟩ := s.later l c k
    obtain ⟨v, e, rv⟩ := r.get hd
    refine ⟨⟨vs, v, hq, e⟩, fun x H' y => ?_⟩
    obtain ⟨rfl, y⟩ := y
    have := y vs hq
    rw [e] at this; cases this
    exact ⟨Le.refl _ _, c, rv⟩
  stop := fun μ st H l c k => by
    obtain ⟨vs, hq, r⟩ := s.later l c k
    exact ⟨vs, hq, by rw [r.length]; exact Nat.le_refl _⟩
theorem yields_str {K : PySem.W.Frag} {μ0 : Mu} {H0 : Hp} {z : List Nat} : Yields K (signs z) none μ0 H0 (Its ⟨z.toArray⟩) where
  go := fun μ st H i d l c k hd => by
    unfold signs at hd
    rw [List.getElem?_map] at hd
    cases e : z[i]? with
    | none => rw [e] at hd; cases hd
    | some ch =>
      rw [e] at hd
      cases hd
      have hi := (List.getElem?_eq_some_iff.mp e).1
      refine ⟨by simpa [Its] using hi, fun x H' y => ?_⟩
      obtain ⟨rfl, ch', e2, rfl⟩ := y
      have : ch' = ch := by
        have e3 : z[i]? = some ch' := by simpa using e2
        rw [e] at e3; exact (Option.some.inj e3).symm
      subst this
      exact ⟨Le.refl _ _, c, by unfold Rep; rfl⟩
  stop := fun μ st H l c k => by simp [Its, signs]
theorem new_pair {K : PySem.W.Frag} {μ : Mu} {st : Store} {H : Hp} (c : Cfg K μ st H) {T : Addr} (hT : H T = none) {x y : V} {dx dy : D} (r1 : Rep K (Live μ) H dx x) (r2 : Rep K (Live μ) H dy y) :
    Le μ H μ (upd H T (.tup [x, y])) ∧ Cfg K μ st (upd H T (.tup [x, y])) ∧ Rep K (Live μ) (upd H T (.tup [x, y])) (.tup [dx, dy]) (.ref T) :=
  ⟨Le.new c hT, c.new hT, Rep.newTup c hT (Reps.cons r1 (Reps.cons r2 Reps.nil))⟩
theorem pairs_get : ∀ (ds : List D) (k : Int) (i : Nat) (d : D), (pairs k ds)[i]? = some d → ∃ d0, ds[i]? = some d0 ∧ d = .tup [.int (k + (i : Int)), d0]
  | [], _, _, _, h => by simp [pairs] at h
  | x :: ds, k, 0, d, h => by
    simp [pairs] at h
    exact ⟨x, rfl, by simp [← h]⟩
  | x :: ds, k, i + 1, d, h => by
    obtain ⟨d0, e1, e2⟩ := pairs_get ds (k + 1) i d (by simpa [pairs] using h)
    refine ⟨d0, by simpa using e1, ?_⟩
    rw [e2]
    congr 3
    omega
theorem pairs_len : ∀ (ds : List D) (k : Int), (pairs k ds).length = ds.length
  | [], _ => rfl
  | x :: ds, k => by simp [pairs, pairs_len ds]
theorem zips_get : ∀ (ds es : List D) (i : Nat) (d : D), (zips ds es)[i]? = some d → ∃ d0 d1, ds[i]? = some d0 ∧ es[i]? = some d1 ∧ d = .tup [d0, d1]
  | [], _, _, _, h => by simp [zips] at h
  | _ :: _, [], _, _, h => by simp [zips] at h
  | x :: ds, y :: es, 0, d, h => by
    simp [zips] at h
    exact ⟨x, y, rfl, rfl, h.symm⟩
  | x :: ds, y :: es, i + 1, d, h => by
    obtain ⟨d0, d1, e1, e2, e3⟩ := zips_get ds es i d (by simpa [zips] using h)
    exact ⟨d0, d1, by simpa using e1, by simpa using e2, e3⟩
theorem zips_len : ∀ (ds es : List D), (zips ds es).length = min ds.length es.length
  | [], _ => by simp [zips]
  | _ :: _, [] => by simp [zips]
  | x :: ds, y :: es => by simp [zips, zips_len ds es]
theorem yields_enum {K : PySem.W.Frag} {μ0 : Mu} {H0 : Hp} {ds : List D} {w : Option (Nat × MO)} {cs : Src} {k : Int} (s : SrcOk K μ0 H0 cs ds w) : Yields K (pairs k ds) w μ0 H0 (IteS K cs k) where
  go := fun μ st H i d l c kk hd => by
    obtain ⟨d0, e0, rfl⟩ := pairs_get ds k i d hd
    obtain ⟨vs, hq, r⟩ := s.later l c kk
    obtain ⟨v, e, rv⟩ := r.get e0
    refine ⟨⟨vs, v, hq, e⟩, fun x H' y => ?_⟩
    obtain ⟨T, x', rfl, hT, rfl, y⟩ := y
    have := y vs hq
    rw [e] at this; cases this
    exact new_pair c hT Rep.int rv
  stop := fun μ st H l c kk => by
    obtain ⟨vs, hq, r⟩ := s.later l c kk
    exact ⟨vs, hq, by rw [← r.length, pairs_len]⟩
theorem yields_zip {K : PySem.W.Frag} {μ0 : Mu} {H0 : Hp} {ds es : List D} {c1 c2 : Src} (s1 : SrcOk K μ0 H0 c1 ds none) (s2 : SrcOk K μ0 H0 c2 es none) : Yields K (zips ds es) none μ0 H0 (ItzS K c1 c2) where
  go := fun μ st H i d l c kk hd => by
    obtain ⟨d0, d1, e0, e1, rfl⟩ := zips_get ds es i d hd
    obtain ⟨vs, hq, r⟩ := s1.later l c kk
    obtain ⟨ws, hq2, r2⟩ := s2.later l c kk
    obtain ⟨v, e, rv⟩ := r.get e0
    obtain ⟨v2, e2, rv2⟩ := r2.get e1
    refine ⟨⟨vs, ws, v, v2, hq, hq2, e, e2⟩, fun x H' y => ?_⟩
    obtain ⟨T, x', y', rfl, hT, rfl, y1, y2⟩ := y
    have q1 := y1 vs hq
    have q2 := y2 ws hq2
    rw [e] at q1; cases q1
    rw [e2] at q2; cases q2
    exact new_pair c hT rv rv2
  stop := fun μ st H l c kk => by
    obtain ⟨vs, hq, r⟩ := s1.later l c kk
    obtain ⟨ws, hq2, r2⟩ := s2.later l c kk
    exact ⟨vs, ws, hq, hq2, by rw [← r.length, ← r2.length, zips_len]⟩
/-- a value that can be walked: its source -/
def srcOf (st : Store) : VV → Option (List D × Option (Nat × MO))
  | .d d => (itemsOf d).map fun ds => (ds, none)
  | .loc n => match st[n]? with
    | some (.lst xs) => some (xs, some (n, .lst xs))
    | _ => none
  | .fn _ => none
theorem src_of {K : PySem.W.Frag} {μ : Mu} {st : Store} {H : Hp} (c : Cfg K μ st H) {x : VV} {v : V} {ds : List D} {w : Option (Nat × MO)} (r : RepV K μ H x v) (e : srcOf st x = some (ds, w)) :
    ∃ cs : Src, v = cs.val ∧ SrcOk K μ H cs ds w ∧ kept w st = true := by
  cases x with
  | fn n => cases e
  | loc n =>
    simp only [srcOf] at e
    split at e
    · rename_i xs e1
      cases e
      obtain ⟨a, vs, rfl, hn, _, _⟩ := RepV.live c r e1
      exact ⟨.l a, rfl, .loc hn, by simpa [kept] using e1⟩
    · cases e
  | d y =>
    simp only [srcOf] at e
    cases y with
    | lst xs =>
      cases e
      unfold RepV Rep at r
      obtain ⟨a, vs, rfl, h1, h2, h3⟩ := r
      exact ⟨.l a, rfl, .l h1 h2 h3, rfl⟩
    | scr ns =>
      cases e
      have r0 := r
      unfold RepV Rep at r
      obtain ⟨a, rfl, h1, h2⟩ := r
      exact ⟨.l a, rfl, .sc r0, rfl⟩
    | tup xs =>
      cases e
      unfold RepV Rep at r
      obtain ⟨a, vs, rfl, h1, h3⟩ := r
      exact ⟨.t a, rfl, .t h1 h3, rfl⟩
    | str z =>
      cases e
      unfold RepV Rep at r
      subst r
      exact ⟨.s ⟨z.toArray⟩, rfl, .s, rfl⟩
    | _ => cases e
theorem iE_src {σ : Env} {st st' : Store} {p : List D × Option (Nat × MO)} (e : iE f σ st = .ok p st') : ∃ x, f σ st = .ok x st' ∧ srcOf st' x = some p := by
  obtain ⟨x, st1, e1, e⟩ := bind_ok e
  refine ⟨x, ?_⟩
  cases x with
  | fn n => cases e
  | d d =>
    simp only at e
    split at e
    · rename_i ds e2
      injection e with h1 h2; subst h1 h2
      exact ⟨e1, by simp only [srcOf, e2]; rfl⟩
    · cases e
  | loc n =>
    simp only at e
    split at e
    · rename_i xs e2
      injection e with h1 h2; subst h1 h2
      exact ⟨e1, by simp only [srcOf, e2]⟩
    · cases e
theorem i_E (he : PE X e (tX X.K f)) : PI X tg e (tI X.K (iE f)) := by
  refine ⟨fun pins s σV H R I q => ?_⟩
  obtain ⟨μ, σ, st, p, st', rel, e1, q⟩ := q
  obtain ⟨x, e2, e3⟩ := iE_src e1
  obtain ⟨ds, w⟩ := p
  -- which kind of a thing
  have key : ∀ μ1 H1 v, Le μ H μ1 H1 → Cfg X.K μ1 st' H1 → RepV X.K μ1 H1 x v → ∃ cs : Src, v = cs.val ∧ SrcOk X.K μ1 H1 cs ds w ∧ kept w st' = true := fun μ1 H1 v l1 c1 r1 => src_of c1 r1 e3
  have byL : (∀ μ1 H1 v, Le μ H μ1 H1 → Cfg X.K μ1 st' H1 → RepV X.K μ1 H1 x v → ∃ a, v = .ref a ∧ SrcOk X.K μ1 H1 (.l a) ds w ∧ kept w st' = true) → wpAny (model X.prog X.w) X.A (eval e X.env) (fun v s1 => wpAny (model X.prog X.w) X.A (pyIter v) (PIE X pins σV tg R) X.xe s1) X.xe s := fun k => by
    refine (pi_list he).run pins s σV H R I ⟨μ, σ, st, x, st', rel, e2, fun μ1 H1 v l1 c1 r1 => ?_⟩
    obtain ⟨a, ev, so, kp⟩ := k μ1 H1 v l1 c1 r1
    obtain ⟨vs, hq, _⟩ := so.later (Le.refl _ _).toLw c1 kp
    exact ⟨a, ev, ⟨vs, hq⟩, q μ1 H1 _ l1 c1 kp (yields_list so)⟩
  have byT : (∀ μ1 H1 v, Le μ H μ1 H1 → Cfg X.K μ1 st' H1 → RepV X.K μ1 H1 x v → ∃ a, v = .ref a ∧ SrcOk X.K μ1 H1 (.t a) ds w ∧ kept w st' = true) → wpAny (model X.prog X.w) X.A (eval e X.env) (fun v s1 => wpAny (model X.prog X.w) X.A (pyIter v) (PIE X pins σV tg R) X.xe s1) X.xe s := fun k => by
    refine (pi_tup he).run pins s σV H R I ⟨μ, σ, st, x, st', rel, e2, fun μ1 H1 v l1 c1 r1 => ?_⟩
    obtain ⟨a, ev, so, kp⟩ := k μ1 H1 v l1 c1 r1
    obtain ⟨vs, hq, _⟩ := so.later (Le.refl _ _).toLw c1 kp
    exact ⟨a, ev, ⟨vs, hq⟩, q μ1 H1 _ l1 c1 kp (yields_tup so)⟩
  cases x with
  | fn n => cases e3
  | loc n =>
    refine byL fun μ1 H1 v l1 c1 r1 => ?_
    simp only [srcOf] at e3
    split at e3
    · rename_i xs e9
      cases e3
      obtain ⟨a, vs, rfl, hn, _, _⟩ := RepV.live c1 r1 e9
      exact ⟨a, rfl, .loc hn, by simpa [kept] using e9⟩
    · cases e3
  | d y =>
    simp only [srcOf] at e3
    cases y with
    | lst xs =>
      refine byL fun μ1 H1 v l1 c1 r1 => ?_
      cases e3
      unfold RepV Rep at r1
      obtain ⟨a, vs, rfl, h1, h2, h3⟩ := r1
      exact ⟨a, rfl, .l h1 h2 h3, rfl⟩
    | scr ns =>
      refine byL fun μ1 H1 v l1 c1 r1 => ?_
      cases e3
      have r0 := r1
      unfold RepV Rep at r1
      obtain ⟨a, rfl, h1, h2⟩ := r1
      exact ⟨a, rfl, .sc r0, rfl⟩
    | tup xs =>
      refine byT fun μ1 H1 v l1 c1 r1 => ?_
      cases e3
      unfold RepV Rep at r1
      obtain ⟨a, vs, rfl, h1, h3⟩ := r1
      exact ⟨a, rfl, .t h1 h3, rfl⟩
    | str z =>
      cases e3
      refine (pi_str he).run pins s σV H R I ⟨μ, σ, st, _, st', rel, e2, fun μ1 H1 v l1 c1 r1 => ?_⟩
      unfold RepV Rep at r1
      subst r1
      exact ⟨_, rfl, q μ1 H1 _ l1 c1 rfl yields_str⟩
    | _ => cases e3
theorem i_enum2 {elts : List Expr} {kk j : Nat} {p2 : Pos} {k : Int} (hg : Gl X "enumerate") (hm : X.mg "enumerate" = none) (he : PE X e (tX X.K f)) (hk : (decide (-(2 ^ 63) ≤ k) && decide (k < 2 ^ 63)) = true)
    (hs : ∀ r, starEach (e :: r) X.env = (false, eval e X.env) :: starEach r X.env := by intro _; rfl) :
    PI X (.Tuple elts kk tpos) (.Call (.Name "enumerate" p) [e, .Constant (.int k) j p2] [] pos) (tI X.K (iEnum k f)) := by
  refine ⟨fun pins s σV H R I q => ?_⟩
  obtain ⟨μ, σ, st, p, st', rel, e1, q⟩ := q
  rw [Bool.and_eq_true] at hk
  have e4 : ∃ x ds w, f σ st = .ok x st' ∧ srcOf st' x = some (ds, w) ∧ p = (pairs k ds, w) := by
    obtain ⟨x, st1, e2, e1⟩ := bind_ok e1
    refine ⟨x, ?_⟩
    cases x with
    | fn n => cases e1
    | d d =>
      simp only at e1
      split at e1
      · rename_i ds e3
        injection e1 with h1 h2; subst h1 h2
        exact ⟨ds, none, e2, by simp only [srcOf, e3]; rfl, rfl⟩
      · cases e1
    | loc n =>
      simp only at e1
      split at e1
      · rename_i xs e3
        injection e1 with h1 h2; subst h1 h2
        exact ⟨xs, _, e2, by simp only [srcOf, e3], rfl⟩
      · cases e1
  obtain ⟨x, ds, w, e2, e3, rfl⟩ := e4
  refine (pi_enum2 hg hm (pa_cons he (pa_cons pe_int pa_nil) (hs _)) (hs _)).run pins s σV H R I ⟨μ, σ, st, x, st', rel, e2, fun μ1 H1 v l1 c1 r1 => ?_⟩
  obtain ⟨cs, rfl, so, kp⟩ := src_of c1 r1 e3
  obtain ⟨vs, hq, _⟩ := so.later (Le.refl _ _).toLw c1 kp
  exact ⟨cs, vs, k, rfl, of_decide_eq_true hk.1, of_decide_eq_true hk.2, hq, q μ1 H1 _ l1 c1 kp (yields_enum so)⟩
theorem irange_get {lo c : Int} {n i : Nat} {d : D} (h : (irange lo n c)[i]? = some d) : i < n ∧ d = .int (lo + (i : Int) * c) := by
  unfold irange at h
  rw [List.getElem?_map] at h
  cases e : (List.range n)[i]? with
  | none => rw [e] at h; cases h
  | some k =>
    rw [e] at h
    obtain ⟨h1, h2⟩ := List.getElem?_eq_some_iff.mp e
    simp at h1 h2
    subst h2
    cases h
    exact ⟨h1, rfl⟩
theorem irange_len (lo : Int) (n : Nat) (c : Int) : (irange lo n c).length = n := by unfold irange; simp
theorem yields_range {K : PySem.W.Frag} {μ0 : Mu} {H0 : Hp} {lo : Int} {n : Nat} : Yields K (irange lo n 1) none μ0 H0 (Itr lo n) where
  go := fun μ st H i d l c kk hd => by
    obtain ⟨hi, rfl⟩ := irange_get hd
    refine ⟨hi, fun x H' y => ?_⟩
    obtain ⟨rfl, rfl⟩ := y
    exact ⟨Le.refl _ _, c, by rw [Int.mul_one]; exact Rep.int⟩
  stop := fun μ st H l c kk => by
    show n ≤ _
    rw [irange_len]
    exact Nat.le_refl _
theorem yields_rangeC {K : PySem.W.Frag} {μ0 : Mu} {H0 : Hp} {lo cc : Int} {n : Nat} : Yields K (irange lo n cc) none μ0 H0 (Itc lo cc n) where
  go := fun μ st H i d l c kk hd => by
    obtain ⟨hi, rfl⟩ := irange_get hd
    refine ⟨hi, fun x H' y => ?_⟩
    obtain ⟨rfl, rfl⟩ := y
    exact ⟨Le.refl _ _, c, Rep.int⟩
  stop := fun μ st H l c kk => by
    show n ≤ _
    rw [irange_len]
    exact Nat.le_refl _
theorem b62_of {i : Int} (h : b62 i = true) : -(2 ^ 62) ≤ i ∧ i < 2 ^ 62 := by
  unfold b62 at h
  rw [Bool.and_eq_true] at h
  exact ⟨of_decide_eq_true h.1, of_decide_eq_true h.2⟩
theorem repVs_d {K : PySem.W.Frag} {μ : Mu} {H : Hp} {i : Int} {v : V} (r : RepV K μ H (.d (.int i)) v) : v = .int i := by unfold RepV Rep at r; exact r
theorem i_range1 (hg : Gl X "range") (hm : X.mg "range" = none) (ha : PA X [a] (tA X.K [f])) (hs : starEach [a] X.env = [(false, eval a X.env)] := by rfl) : PI X tg (.Call (.Name "range" p) [a] [] pos) (tI X.K (iRange [f])) := by
  refine ⟨fun pins s σV H R I q => ?_⟩
  obtain ⟨μ, σ, st, p, st', rel, e1, q⟩ := q
  obtain ⟨xs, st1, e2, e1⟩ := bind_ok e1
  refine (pi_range1 hg hm ha hs).run pins s σV H R I ⟨μ, σ, st, xs, st1, rel, e2, fun μ1 H1 vs l1 c1 r1 => ?_⟩
  split at e1
  · rename_i j
    split at e1
    · rename_i hb
      injection e1 with h1 h2; subst h1 h2
      cases r1 with
      | cons r rr =>
        cases rr
        obtain ⟨b1, b2⟩ := b62_of hb
        exact ⟨j, by rw [repVs_d r], b1, b2, q μ1 H1 _ l1 c1 rfl yields_range⟩
    · cases e1
  · cases r1 with | cons _ rr => cases rr with | cons _ rr => cases rr; exact absurd e2 (by
      intro e2
      obtain ⟨_, _, _, e2⟩ := bind_ok e2
      obtain ⟨_, _, e3, e2⟩ := bind_ok e2
      injection e3 with h1 h2; subst h1
      injection e2 with h1 h2; cases h1)
  · cases r1 with | cons _ rr => cases rr with | cons _ rr => exact absurd e2 (by
      intro e2
      obtain ⟨_, _, _, e2⟩ := bind_ok e2
      obtain ⟨_, _, e3, e2⟩ := bind_ok e2
      injection e3 with h1 h2; subst h1
      injection e2 with h1 h2; cases h1)
  · cases e1
theorem args2 {σ : Env} {st st' : Store} {xs : List VV} (e : eArgs [f, g] σ st = .ok xs st') : ∃ x y, xs = [x, y] := by
  obtain ⟨x, _, _, e⟩ := bind_ok e
  obtain ⟨ys, _, e3, e⟩ := bind_ok e
  obtain ⟨y, _, _, e4⟩ := bind_ok e3
  obtain ⟨zs, _, e5, e4⟩ := bind_ok e4
  injection e5 with h1 h2; subst h1
  injection e4 with h1 h2; subst h1
  injection e with h1 h2; subst h1
  exact ⟨x, y, rfl⟩
theorem args3 {σ : Env} {st st' : Store} {xs : List VV} (e : eArgs [f, g, h] σ st = .ok xs st') : ∃ x y z, xs = [x, y, z] := by
  obtain ⟨x, _, _, e⟩ := bind_ok e
  obtain ⟨ys, _, e3, e⟩ := bind_ok e
  obtain ⟨y, z, rfl⟩ := args2 e3
  injection e with h1 h2; subst h1
  exact ⟨x, y, z, rfl⟩
theorem i_range2 (hg : Gl X "range") (hm : X.mg "range" = none) (ha : PA X [a, b] (tA X.K [f, g])) (hs : starEach [a, b] X.env = [(false, eval a X.env), (false, eval b X.env)] := by rfl) (hs2 : starEach [b] X.env = [(false, eval b X.env)] := by rfl) : PI X tg (.Call (.Name "range" p) [a, b] [] pos) (tI X.K (iRange [f, g])) := by
  refine ⟨fun pins s σV H R I q => ?_⟩
  obtain ⟨μ, σ, st, p, st', rel, e1, q⟩ := q
  obtain ⟨xs, st1, e2, e1⟩ := bind_ok e1
  refine (pi_range2 hg hm ha hs hs2).run pins s σV H R I ⟨μ, σ, st, xs, st1, rel, e2, fun μ1 H1 vs l1 c1 r1 => ?_⟩
  obtain ⟨x, y, rfl⟩ := args2 e2
  split at e1
  · rename_i hx; cases hx
  · rename_i i j hx
    cases hx
    split at e1
    · rename_i hb
      injection e1 with h1 h2; subst h1 h2
      cases r1 with
      | cons r rr =>
        cases rr with
        | cons r' rr =>
          cases rr
          rw [Bool.and_eq_true] at hb
          obtain ⟨b1, b2⟩ := b62_of hb.1
          obtain ⟨b3, b4⟩ := b62_of hb.2
          exact ⟨i, j, by rw [repVs_d r, repVs_d r'], ⟨b1, b2, b3, b4⟩, q μ1 H1 _ l1 c1 rfl yields_range⟩
    · cases e1
  · rename_i hx; cases hx
  · cases e1
theorem b61_of {i : Int} (h : b61 i = true) : -(2 ^ 61) ≤ i ∧ i < 2 ^ 61 := by
  unfold b61 at h
  rw [Bool.and_eq_true] at h
  exact ⟨of_decide_eq_true h.1, of_decide_eq_true h.2⟩
theorem rgc {i j c : Int} (hi : b61 i = true) (hj : b61 j = true) (h1 : 0 < c) (h2 : c < 1073741824) : RgC i j c ((j - i + c - 1) / c).toNat := by
  obtain ⟨a1, a2⟩ := b61_of hi
  obtain ⟨a3, a4⟩ := b61_of hj
  have hsz : Builtin.Range.rangeSize i j c = (((j - i + c - 1) / c).toNat : Int) := by
    unfold Builtin.Range.rangeSize
    rw [if_pos h1]
    split
    · have e : j - i + c - 1 = (j - i - 1) + 1 * c := by omega
      rw [e, Int.add_mul_ediv_right _ _ (by omega)]
      have : 0 ≤ (j - i - 1) / c := Int.ediv_nonneg (by omega) (by omega)
      omega
    · rename_i hn
      have : (j - i + c - 1) / c < 1 := Int.ediv_lt_of_lt_mul h1 (by omega)
      omega
  have hb : (((j - i + c - 1) / c).toNat : Int) ≤ 2 ^ 63 - 1 := by
    have : (j - i + c - 1) / c ≤ j - i + c - 1 ∨ j - i + c - 1 < 0 := by
      by_cases hn : j - i + c - 1 < 0
      · exact .inr hn
      · exact .inl (Int.ediv_le_self _ (by omega))
    rcases this with h | h
    · omega
    · have : (j - i + c - 1) / c < 0 := Int.ediv_neg_of_neg_of_pos h h1
      omega
  refine ⟨by omega, by omega, ?_, hsz⟩
  unfold Builtin.Range.small Builtin.Range.rangeFitsLong
  rw [hsz, if_pos h1]
  simp only [Bool.and_eq_true, Bool.or_eq_true, decide_eq_true_eq]
  have h0 : (0 : Int) ≤ (((j - i + c - 1) / c).toNat : Int) := Int.natCast_nonneg _
  refine ⟨⟨⟨⟨⟨?_, ?_⟩, ?_, ?_⟩, ?_, ?_⟩, ?_, ?_⟩, .inr ⟨?_, ?_⟩⟩ <;> omega
theorem i_range3 (hg : Gl X "range") (hm : X.mg "range" = none) (ha : PA X [a, b, c] (tA X.K [f, g, h])) (hs : starEach [a, b, c] X.env = [(false, eval a X.env), (false, eval b X.env), (false, eval c X.env)] := by rfl) (hs2 : starEach [b, c] X.env = [(false, eval b X.env), (false, eval c X.env)] := by rfl) : PI X tg (.Call (.Name "range" p) [a, b, c] [] pos) (tI X.K (iRange [f, g, h])) := by
  refine ⟨fun pins s σV H R I q => ?_⟩
  obtain ⟨μ, σ, st, p, st', rel, e1, q⟩ := q
  obtain ⟨xs, st1, e2, e1⟩ := bind_ok e1
  refine (pi_range3 hg hm ha (by rw [hs, hs2]) (by rw [hs2]; rfl)).run pins s σV H R I ⟨μ, σ, st, xs, st1, rel, e2, fun μ1 H1 vs l1 c1 r1 => ?_⟩
  obtain ⟨x, y, z, rfl⟩ := args3 e2
  split at e1
  · rename_i hx; cases hx
  · rename_i hx; cases hx
  · rename_i i j cc hx
    cases hx
    split at e1
    · rename_i hb
      injection e1 with h1 h2; subst h1 h2
      cases r1 with
      | cons r rr =>
        cases rr with
        | cons r' rr =>
          cases rr with
          | cons r'' rr =>
            cases rr
            simp only [Bool.and_eq_true, decide_eq_true_eq] at hb
            exact ⟨i, j, cc, _, by rw [repVs_d r, repVs_d r', repVs_d r''], rgc hb.1.1.1 hb.1.1.2 hb.1.2 hb.2, q μ1 H1 _ l1 c1 rfl yields_rangeC⟩
    · cases e1
  · cases e1

/-! ### targets -/
/-- the slots S apart, the same -/
def Agree (S : List Nat) (σ1 σ2 : L2.St) : Prop := σ1.length = σ2.length ∧ ∀ i, i ∉ S → σ1[i]? = σ2[i]?
theorem Agree.refl (S : List Nat) (σ : L2.St) : Agree S σ σ := ⟨rfl, fun _ _ => rfl⟩
theorem Agree.trans {S T : List Nat} {a b c : L2.St} (h : Agree S a b) (h' : Agree T b c) : Agree (S ++ T) a c :=
  ⟨h.1.trans h'.1, fun i hi => (h.2 i fun z => hi (List.mem_append_left _ z)).trans (h'.2 i fun z => hi (List.mem_append_right _ z))⟩
theorem Agree.set (i : Nat) (x : Option V) (σ : L2.St) : Agree [i] (σ.set i x) σ :=
  ⟨by simp, fun j hj => by rw [List.getElem?_set_ne (by intro z; exact hj (by simp [z]))]⟩
def tG (K : PySem.W.Frag) (g : Gx) (S : List Nat) : TG := fun v σV H Q => ∃ μ σ st x σ' st', Rel K μ σ st σV H ∧ RepV K μ H x v ∧ g x σ st = .ok σ' st' ∧ ∀ μ' H' σV', Le μ H μ' H' → Rel K μ' σ' st' σV' H' → Agree S σV' σV → Q σV' H'
theorem Rel.set {K : PySem.W.Frag} {μ : Mu} {σ : Env} {st : Store} {σV : L2.St} {H : Hp} (r : Rel K μ σ st σV H) {i : Nat} {x : VV} {v : V} (hx : RepV K μ H x v) : Rel K μ (σ.set i (some x)) st (σV.set i (some v)) H := by
  refine ⟨r.cfg, by simp [r.len], fun j y e => ?_⟩
  by_cases hj : i = j
  · subst hj
    by_cases hi : i < σ.length
    · rw [List.getElem?_set_self hi] at e
      cases e
      exact ⟨v, List.getElem?_set_self (by rw [← r.len]; exact hi), hx⟩
    · rw [List.getElem?_eq_none (by simp; omega)] at e; cases e
  · rw [List.getElem?_set_ne hj] at e
    obtain ⟨w, e1, r1⟩ := r.env j y e
    exact ⟨w, by rw [List.getElem?_set_ne hj]; exact e1, r1⟩
theorem _root_.L2.PG.weak {e : Expr} {t t' : TG} (h : PG X e t) (w : ∀ v σ H Q, t' v σ H Q → t v σ H Q) : PG X e t' := ⟨fun pins s σ H v u Q I r q => h.run pins s σ H v u Q I r (w v σ H Q q)⟩
theorem g_name {i : Nat} {x : Str} (hN : X.N.Nodup) (hi : X.N[i]? = some x) (hx : Loc X.env.scope x) (hf : X.fn x = true ∨ X.env.scope.names.lookup x = some .local := by first | exact .inl rfl | exact .inr rfl | assumption) : PG X (.Name x pos) (tG X.K (gN i) [i]) :=
  (pg_name hN hi hx hf).weak fun v σV H Q q => by
    obtain ⟨μ, σ, st, x, σ', st', rel, rx, e, q⟩ := q
    unfold gN at e
    split at e
    · injection e with h1 h2; subst h1 h2
      exact q μ H _ (Le.refl _ _) (rel.set rx) (Agree.set ..)
    · cases e
def tGs (K : PySem.W.Frag) (gs : List Gx) (S : List Nat) : TGs := fun vs σV H Q => ∃ μ σ st ds σ' st', Rel K μ σ st σV H ∧ Reps K (Live μ) H ds vs ∧ gAll gs ds σ st = .ok σ' st' ∧ ∀ μ' H' σV', Le μ H μ' H' → Rel K μ' σ' st' σV' H' → Agree S σV' σV → Q σV' H'
theorem gs_nil : PGs X [] (tGs X.K [] []) := ⟨fun pins s σV H vs us Q I r q => pgs_nil.run pins s σV H vs us Q I r (by
  obtain ⟨μ, σ, st, ds, σ', st', rel, rx, e, q⟩ := q
  cases ds with
  | nil =>
    injection e with h1 h2; subst h1 h2
    unfold Reps at rx
    exact ⟨rx, q μ H _ (Le.refl _ _) rel (Agree.refl ..)⟩
  | cons _ _ => cases e)⟩
theorem gs_cons {e : Expr} {es : List Expr} {g : Gx} {gs : List Gx} {S1 S2 : List Nat} (h1 : PG X e (tG X.K g S1)) (h2 : PGs X es (tGs X.K gs S2))
    (hs : (assignEach (e :: es) X.env).map (·.2) = assign e X.env :: (assignEach es X.env).map (·.2) := by rfl) : PGs X (e :: es) (tGs X.K (g :: gs) (S2 ++ S1)) := ⟨fun pins s σV H vs us Q I r q => (pgs_cons h1 h2 hs).run pins s σV H vs us Q I r (by
  obtain ⟨μ, σ, st, ds, σ', st', rel, rx, e, q⟩ := q
  cases ds with
  | nil => cases e
  | cons d ds =>
    unfold Reps at rx
    obtain ⟨v, vs', rfl, r1, r2⟩ := rx
    obtain ⟨σ1, st1, e1, e2⟩ := bind_ok e
    refine ⟨v, vs', rfl, μ, σ, st, .d d, σ1, st1, rel, r1, e1, fun μ1 H1 σV1 l1 rel1 a1 => ?_⟩
    exact ⟨μ1, σ1, st1, ds, σ', st', rel1, r2.mono l1.toLr, e2, fun μ2 H2 σV2 l2 rel2 a2 => q μ2 H2 σV2 (l1.trans l2) rel2 (a2.trans a1)⟩)⟩
theorem gAll_len : ∀ {gs : List Gx} {ds : List D} {σ σ' : Env} {st st' : Store}, gAll gs ds σ st = .ok σ' st' → ds.length = gs.length
  | [], [], _, _, _, _, _ => rfl
  | [], _ :: _, _, _, _, _, e => by cases e
  | _ :: _, [], _, _, _, _, e => by cases e
  | g :: gs, d :: ds, _, _, _, _, e => by
    obtain ⟨σ1, st1, e1, e2⟩ := bind_ok e
    simp [gAll_len e2]
theorem g_tup {es : List Expr} {k : Nat} {gs : List Gx} {S : List Nat} (hc : X.calm = true) (h : PGs X es (tGs X.K gs S))
    (hn : (assignEach es X.env).length = gs.length := by rfl) (hst : (assignEach es X.env).findIdx? (·.1) = none := by rfl) : PG X (.Tuple es k pos) (tG X.K (gT gs) S) :=
  (pg_tup hc h hn hst).weak fun v σV H Q q => by
    obtain ⟨μ, σ, st, x, σ', st', rel, rx, e, q⟩ := q
    unfold gT at e
    split at e
    · rename_i ds
      unfold RepV Rep at rx
      obtain ⟨a, vs, rfl, s1, r1⟩ := rx
      exact ⟨a, vs, rfl, s1, by rw [← r1.length]; exact gAll_len e, μ, σ, st, ds, σ', st', rel, r1, e, q⟩
    · cases e
theorem g_sub {o i : Expr} (ho : PE X o (tX X.K f)) (hi : PE X i (tX X.K g))
    (ha : ∀ v, assign (.Subscript o i pos) X.env v = (do
      let ov ← holding [v] (eval o X.env)
      let iv ← holding [v, ov] (eval i X.env)
      standAt pos
      holding [v, ov, iv] (setItem ov iv v)
      release [v, ov, iv] []) := by intro _; rfl) : PG X (.Subscript o i pos) (tG X.K (gS f g) []) :=
  (pg_sub ho hi set_list ha).weak fun v σV H Q q => by
    obtain ⟨μ, σ, st, x, σ', st', rel, rx, e, q⟩ := q
    obtain ⟨y, st1, e1, e⟩ := bind_ok e
    obtain ⟨z, st2, e2, e⟩ := bind_ok e
    refine ⟨μ, σ, st, y, st1, rel, e1, fun μ1 H1 w l1 c1 r1 => ?_⟩
    refine ⟨μ1, σ, st1, z, st2, rel.mono l1 c1, e2, fun μ2 H2 w2 l2 c2 r2 => ?_⟩
    split at e
    · rename_i n k dv _ _
      split at e
      · rename_i xs e3
        split at e
        · rename_i j e4
          injection e with h1 h2; subst h1 h2
          obtain ⟨aa, vs, rfl, hn, hH, rr⟩ := RepV.live c2 (r1.mono l2) e3
          have rv : Rep X.K (Live μ2) H2 dv v := (rx.mono (l1.trans l2) : RepV X.K μ2 H2 (.d dv) v)
          obtain ⟨l3, c3⟩ := write_lst c2 hn (rr.set j rv)
          refine ⟨aa, vs, k, j, rfl, repVs_d r2, hH, by rw [← rr.length]; exact e4, q μ2 _ _ (l1.trans (l2.trans l3)) ?_ (Agree.refl ..)⟩
          exact rel.mono (l1.trans (l2.trans l3)) c3
        · cases e
      · cases e
    · cases e

/-! ### statements -/
def EndOk (K : PySem.W.Frag) (D : Ends) (μ : Mu) (H : Hp) (r : Fl) (st' : Store) : Prop := match r with
  | .nx σ' => ∀ μ' H' σV', Le μ H μ' H' → Rel K μ' σ' st' σV' H' → D.nx σV' H'
  | .bk σ' => ∀ μ' H' σV', Le μ H μ' H' → Rel K μ' σ' st' σV' H' → D.bk σV' H'
  | .ct σ' => ∀ μ' H' σV', Le μ H μ' H' → Rel K μ' σ' st' σV' H' → D.ct σV' H'
  | .rt x => ∀ μ' H' v, Le μ H μ' H' → Cfg K μ' st' H' → RepV K μ' H' x v → D.rt v H'
def tSt (K : PySem.W.Frag) (f : Sx) : TS := fun D σV H => ∃ μ σ st r st', Rel K μ σ st σV H ∧ f σ st = .ok r st' ∧ EndOk K D μ H r st'
theorem EndOk.later {K : PySem.W.Frag} {D : Ends} {μ μ1 : Mu} {H H1 : Hp} {r : Fl} {st' : Store} (h : EndOk K D μ H r st') (l : Le μ H μ1 H1) : EndOk K D μ1 H1 r st' := by
  cases r with
  | nx σ => exact fun μ' H' σV' l2 rel => h μ' H' σV' (l.trans l2) rel
  | bk σ => exact fun μ' H' σV' l2 rel => h μ' H' σV' (l.trans l2) rel
  | ct σ => exact fun μ' H' σV' l2 rel => h μ' H' σV' (l.trans l2) rel
  | rt x => exact fun μ' H' v l2 c2 r2 => h μ' H' v (l.trans l2) c2 r2
theorem _root_.L2.PS.weak {e : Stmt} {t t' : TS} (h : PS X e t) (w : ∀ D σ H, t' D σ H → t D σ H) : PS X e t' := ⟨fun pins s σ H D I q => h.run pins s σ H D I (w D σ H q)⟩
theorem _root_.L2.PSs.weak {e : List Stmt} {t t' : TS} (h : PSs X e t) (w : ∀ D σ H, t' D σ H → t D σ H) : PSs X e t' := ⟨fun pins s σ H D I q => h.run pins s σ H D I (w D σ H q)⟩
theorem ss_nil : PSs X [] (tSt X.K sNil) := (pss_nil (X := X)).weak fun D σV H q => by
  obtain ⟨μ, σ, st, r, st', rel, e, q⟩ := q
  injection e with h1 h2; subst h1 h2
  exact q μ H σV (Le.refl _ _) rel
variable {st1 : Stmt} {rest : List Stmt} {sf sg : Sx}
theorem seq_of {D : Ends} {σV : L2.St} {H : Hp} (q : tSt X.K (sSeq sf sg) D σV H) : tSt X.K sf { D with nx := tSt X.K sg D } σV H := by
  obtain ⟨μ, σ, st, r, st', rel, e, q⟩ := q
  obtain ⟨r1, st1, e1, e⟩ := bind_ok e
  refine ⟨μ, σ, st, r1, st1, rel, e1, ?_⟩
  cases r1 with
  | nx σ1 => exact fun μ' H' σV' l rel' => ⟨μ', σ1, st1, r, st', rel', e, q.later l⟩
  | bk σ1 => injection e with h1 h2; subst h1 h2; exact q
  | ct σ1 => injection e with h1 h2; subst h1 h2; exact q
  | rt x => injection e with h1 h2; subst h1 h2; exact q
theorem ss_cons (h1 : PS X st1 (tSt X.K sf)) (h2 : PSs X rest (tSt X.K sg)) : PSs X (st1 :: rest) (tSt X.K (sSeq sf sg)) :=
  (pss_cons h1 h2).weak fun _ _ _ q => seq_of q
theorem ss_one (h1 : PS X st1 (tSt X.K sf)) : PSs X [st1] (tSt X.K sf) := pss_one h1
theorem s_never : PS X st1 (tSt X.K sFail) := (ps_never (X := X)).weak fun D σV H q => by
  obtain ⟨μ, σ, st, r, st', rel, e, q⟩ := q
  cases e
theorem s_pass : PS X (.Pass pos) (tSt X.K sPass) := (ps_pass (X := X)).weak fun D σV H q => by
  obtain ⟨μ, σ, st, r, st', rel, e, q⟩ := q
  injection e with h1 h2; subst h1 h2
  exact q μ H σV (Le.refl _ _) rel
theorem s_brk : PS X (.Break pos) (tSt X.K sBrk) := (ps_break (X := X)).weak fun D σV H q => by
  obtain ⟨μ, σ, st, r, st', rel, e, q⟩ := q
  injection e with h1 h2; subst h1 h2
  exact q μ H σV (Le.refl _ _) rel
theorem s_cont : PS X (.Continue pos) (tSt X.K sCont) := (ps_continue (X := X)).weak fun D σV H q => by
  obtain ⟨μ, σ, st, r, st', rel, e, q⟩ := q
  injection e with h1 h2; subst h1 h2
  exact q μ H σV (Le.refl _ _) rel
theorem s_expr (he : PE X e (tX X.K f)) (hs : swapsWith e none pos.line X.env = pure false := by rfl) : PS X (.Expr e pos) (tSt X.K (sExpr f)) :=
  (ps_expr he hs).weak fun D σV H q => by
    obtain ⟨μ, σ, st, r, st', rel, e, q⟩ := q
    obtain ⟨x, st1, e1, e⟩ := bind_ok e
    injection e with h1 h2; subst h1 h2
    exact ⟨μ, σ, st, x, st1, rel, e1, fun μ1 H1 v l1 c1 r1 => q μ1 H1 σV l1 (rel.mono l1 c1)⟩
theorem s_ret (he : PE X e (tX X.K f)) : PS X (.Return (some e) pos) (tSt X.K (sRet f)) :=
  (ps_ret he).weak fun D σV H q => by
    obtain ⟨μ, σ, st, r, st', rel, e, q⟩ := q
    obtain ⟨x, st1, e1, e⟩ := bind_ok e
    injection e with h1 h2; subst h1 h2
    exact ⟨μ, σ, st, x, st1, rel, e1, q⟩
theorem s_retN : PS X (.Return none pos) (tSt X.K sRetN) :=
  (ps_retN (X := X)).weak fun D σV H q => by
    obtain ⟨μ, σ, st, r, st', rel, e, q⟩ := q
    injection e with h1 h2; subst h1 h2
    exact q μ H .non (Le.refl _ _) rel.cfg RepV.non
theorem s_if {c : Expr} {aa bb : List Stmt} {tc : Tx} (hc : PT X c (tT X.K tc)) (ha : PSs X aa (tSt X.K sf)) (hb : PSs X bb (tSt X.K sg)) : PS X (.If c aa bb pos) (tSt X.K (sIf tc sf sg)) :=
  (ps_if hc ha hb).weak fun D σV H q => by
    obtain ⟨μ, σ, st, r, st', rel, e, q⟩ := q
    obtain ⟨b, st1, e1, e⟩ := bind_ok e
    refine ⟨μ, σ, st, b, st1, rel, e1, fun μ1 H1 l1 c1 => ?_⟩
    cases b with
    | true => exact iteT ⟨μ1, σ, st1, r, st', rel.mono l1 c1, by simpa using e, q.later l1⟩
    | false => exact iteF ⟨μ1, σ, st1, r, st', rel.mono l1 c1, by simpa using e, q.later l1⟩
theorem asg_of {g : Gx} {S : List Nat} {D : Ends} {σV : L2.St} {H : Hp} (q : tSt X.K (sAsg f g) D σV H) : tAsg (tX X.K f) (tG X.K g S) D σV H := by
  obtain ⟨μ, σ, st, r, st', rel, e, q⟩ := q
  obtain ⟨x, st1, e1, e⟩ := bind_ok e
  obtain ⟨σ1, st2, e2, e⟩ := bind_ok e
  injection e with h1 h2; subst h1 h2
  exact ⟨μ, σ, st, x, st1, rel, e1, fun μ1 H1 v l1 c1 r1 => ⟨μ1, σ, st1, x, σ1, st2, rel.mono l1 c1, r1, e2, fun μ2 H2 σV2 l2 rel2 _ => q μ2 H2 σV2 (l1.trans l2) rel2⟩⟩
theorem s_asg {tg e : Expr} {g : Gx} {S : List Nat} (he : PE X e (tX X.K f)) (hg : PG X tg (tG X.K g S)) (hs : swapsWithSole [tg] e pos.line X.env = pure false := by rfl) (hw : swappedStores [tg] e X.env = pure none := by rfl)
    (h1 : (assignEach [tg] X.env).map (·.2) = [assign tg X.env] := by rfl) : PS X (.Assign [tg] e pos) (tSt X.K (sAsg f g)) :=
  (ps_asg he hg hs hw h1).weak fun _ _ _ q => asg_of q
theorem s_set {i : Nat} {x : Str} {e : Expr} {pos' : Pos} (hN : X.N.Nodup) (hi : X.N[i]? = some x) (hx : Loc X.env.scope x) (he : PE X e (tX X.K f)) (hs : swapsWith e (some (.Name x pos')) pos.line X.env = pure false := by rfl) (hf : X.fn x = true ∨ X.env.scope.names.lookup x = some .local := by first | exact .inl rfl | exact .inr rfl | assumption) :
    PS X (.Assign [.Name x pos'] e pos) (tSt X.K (sAsg f (gN i))) :=
  (ps_set hN hi hx he hs hf).weak fun D σV H q => by
    obtain ⟨μ, σ, st, r, st', rel, e, q⟩ := q
    obtain ⟨x, st1, e1, e⟩ := bind_ok e
    obtain ⟨σ1, st2, e2, e⟩ := bind_ok e
    injection e with h1 h2; subst h1 h2
    refine ⟨μ, σ, st, x, st1, rel, e1, fun μ1 H1 v l1 c1 r1 => ?_⟩
    unfold gN at e2
    split at e2
    · injection e2 with h1 h2; subst h1 h2
      exact q μ1 H1 _ l1 ((rel.mono l1 c1).set r1)
    · cases e2
end
end PX

/-! PX9: loops, comprehensions, several names at once, defs. -/
namespace PX
open PySem PySem.Spec PyProof.Rows L2 TL

section
variable {X : Cx} {a b c e : Expr} {es : List Expr} {f g h : Ex} {fs : List Ex} {pos p tpos : Pos} {tg : Expr} {sf sg : Sx}
/-! ### for -/
theorem for_of {it : Ix} {gx : Gx} {S : List Nat} {D : Ends} {σV : L2.St} {H : Hp} (q : tSt X.K (sFor it gx sf) D σV H) : tFor (tI X.K it) (tG X.K gx S) (tSt X.K sf) D σV H := by
  obtain ⟨μ, σ, st, r, st', rel, e, q⟩ := q
  obtain ⟨⟨ds, w⟩, st1, e1, e⟩ := bind_ok e
  refine ⟨μ, σ, st, (ds, w), st1, rel, e1, fun μ1 H1 J l1 c1 kp Y => ?_⟩
  simp only at e kp Y
  have q1 := q.later l1
  refine ⟨fun i m σV2 H2 => m = ds.length - i ∧ i ≤ ds.length ∧ ∃ μ2 σ2 st2, Le μ1 H1 μ2 H2 ∧ Rel X.K μ2 σ2 st2 σV2 H2 ∧ kept w st2 = true ∧ fLoop w gx sf (ds.drop i) σ2 st2 = .ok r st',
    ⟨ds.length, by simp, Nat.zero_le _, μ1, σ, st1, Le.refl _ _, rel.mono l1 c1, kp, by simpa using e⟩, ?_⟩
  rintro i m σV2 H2 ⟨rfl, hi, μ2, σ2, st2, l2, rel2, kp2, e2⟩
  by_cases hlt : i < ds.length
  · have hd : ds[i]? = some ds[i] := List.getElem?_eq_getElem hlt
    rw [List.drop_eq_getElem_cons hlt] at e2
    unfold fLoop at e2
    obtain ⟨σ3, st3, e3, e2⟩ := bind_ok e2
    obtain ⟨r4, st4, e4, e2⟩ := bind_ok e2
    obtain ⟨go, yl⟩ := Y.go μ2 st2 H2 i _ l2.toLw rel2.cfg kp2 hd
    refine .inr ⟨go, fun σV' H' => ∃ μ' σ' st'', Le μ1 H1 μ' H' ∧ Rel X.K μ' σ' st'' σV' H' ∧ kept w st'' = true ∧ fLoop w gx sf (ds.drop (i + 1)) σ' st'' = .ok r st', fun σ' H' ⟨μ', σ'', st'', h1, h2, h3, h4⟩ => ⟨ds.length - (i + 1), by omega, rfl, hlt, μ', σ'', st'', h1, h2, h3, h4⟩, fun x H' y => ?_⟩
    obtain ⟨ly, cy, ry⟩ := yl x H' y
    refine ⟨μ2, σ2, st2, .d ds[i], σ3, st3, rel2.mono ly cy, ry, e3, fun μ5 H5 σV5 l5 rel5 _ => ?_⟩
    refine ⟨μ5, σ3, st3, r4, st4, rel5, e4, ?_⟩
    have l25 := (l2.trans ly).trans l5
    cases r4 with
    | nx σ6 =>
      simp only at e2
      split at e2
      · rename_i kp6
        exact fun μ6 H6 σV6 l6 rel6 => ⟨μ6, σ6, st4, l25.trans l6, rel6, kp6, e2⟩
      · cases e2
    | ct σ6 =>
      simp only at e2
      split at e2
      · rename_i kp6
        exact fun μ6 H6 σV6 l6 rel6 => ⟨μ6, σ6, st4, l25.trans l6, rel6, kp6, e2⟩
      · cases e2
    | bk σ6 =>
      injection e2 with h1 h2; subst h1 h2
      exact fun μ6 H6 σV6 l6 rel6 => q1 μ6 H6 σV6 (l25.trans l6) rel6
    | rt v =>
      injection e2 with h1 h2; subst h1 h2
      exact fun μ6 H6 v6 l6 c6 r6 => q1 μ6 H6 v6 (l25.trans l6) c6 r6
  · have hi' : i = ds.length := by omega
    subst hi'
    rw [List.drop_length] at e2
    unfold fLoop at e2
    injection e2 with h1 h2; subst h1 h2
    exact .inl ⟨Y.stop μ2 st2 H2 l2.toLw rel2.cfg kp2, q1 μ2 H2 σV2 l2 rel2⟩
theorem s_for {iter : Expr} {body : List Stmt} {it : Ix} {gx : Gx} {S : List Nat} (hp : PassesOwn (model X.prog X.w) X.A X.env X.xe) (hc : X.calm = true) (hi : PI X tg iter (tI X.K it)) (hg : PG X tg (tG X.K gx S)) (hb : PSs X body (tSt X.K sf))
    (hs : ∀ x, foldedSetIterable iter X.env x = pure x := by intro _; rfl) : PS X (.For tg iter body [] pos) (tSt X.K (sFor it gx sf)) :=
  (ps_for hp hc hi hg hb hs).weak fun _ _ _ q => for_of q

/-! ### while -/
theorem wLoop_of {c : Tx} {b : Sx} {σ : Env} {st : Store} {r : Fl} {st' : Store} (e : sWhile c b σ st = .ok r st') : ∃ n, wLoop c b n σ st = .ok r st' := by
  unfold sWhile at e
  split at e
  · exact ⟨_, e⟩
  · cases e
theorem while_of {tc : Tx} {D : Ends} {σV : L2.St} {H : Hp} (q : tSt X.K (sWhile tc sf) D σV H) : tWhile (tT X.K tc) (tSt X.K sf) D σV H := by
  obtain ⟨μ, σ, st, r, st', rel, e, q⟩ := q
  obtain ⟨n, e⟩ := wLoop_of e
  refine ⟨fun m σV2 H2 => ∃ μ2 σ2 st2, Le μ H μ2 H2 ∧ Rel X.K μ2 σ2 st2 σV2 H2 ∧ wLoop tc sf m σ2 st2 = .ok r st', ⟨n, μ, σ, st, Le.refl _ _, rel, e⟩, ?_⟩
  rintro m σV2 H2 ⟨μ2, σ2, st2, l2, rel2, e2⟩
  cases m with
  | zero => cases e2
  | succ m =>
    unfold wLoop at e2
    obtain ⟨t, st3, e3, e2⟩ := bind_ok e2
    refine ⟨μ2, σ2, st2, t, st3, rel2, e3, fun μ4 H4 l4 c4 => ?_⟩
    have rel4 := rel2.mono l4 c4
    have l24 := l2.trans l4
    cases t with
    | false =>
      simp only [Bool.false_eq_true, if_false] at e2
      injection e2 with h1 h2; subst h1 h2
      exact iteF (q μ4 H4 σV2 l24 rel4)
    | true =>
      simp only [if_true] at e2
      obtain ⟨r5, st5, e5, e2⟩ := bind_ok e2
      refine iteT ⟨fun σV' H' => ∃ μ' σ' st'', Le μ H μ' H' ∧ Rel X.K μ' σ' st'' σV' H' ∧ wLoop tc sf m σ' st'' = .ok r st', fun σ' H' hN => ⟨m, Nat.lt_succ_self _, hN⟩, μ4, σ2, st3, r5, st5, rel4, e5, ?_⟩
      cases r5 with
      | nx σ6 => exact fun μ6 H6 σV6 l6 rel6 => ⟨μ6, σ6, st5, l24.trans l6, rel6, e2⟩
      | ct σ6 => exact fun μ6 H6 σV6 l6 rel6 => ⟨μ6, σ6, st5, l24.trans l6, rel6, e2⟩
      | bk σ6 =>
        injection e2 with h1 h2; subst h1 h2
        exact fun μ6 H6 σV6 l6 rel6 => q μ6 H6 σV6 (l24.trans l6) rel6
      | rt v =>
        injection e2 with h1 h2; subst h1 h2
        exact fun μ6 H6 v6 l6 c6 r6 => q μ6 H6 v6 (l24.trans l6) c6 r6
theorem s_while {c : Expr} {body : List Stmt} {tc : Tx} (hp : PassesOwn (model X.prog X.w) X.A X.env X.xe) (hc : PT X c (tT X.K tc)) (hb : PSs X body (tSt X.K sf)) : PS X (.While c body [] pos) (tSt X.K (sWhile tc sf)) :=
  (ps_while hp hc hb).weak fun _ _ _ q => while_of q

/-! ### comprehensions -/
theorem wipeE_len (σ : Env) : ∀ vs : List Nat, (wipeE σ vs).length = σ.length
  | [] => rfl
  | v :: vs => by unfold wipeE; rw [List.length_set, wipeE_len σ vs]
theorem Rel.unset {K : PySem.W.Frag} {μ : Mu} {σ : Env} {st : Store} {σV : L2.St} {H : Hp} (r : Rel K μ σ st σV H) (i : Nat) : Rel K μ (σ.set i none) st (σV.set i none) H := by
  refine ⟨r.cfg, by simp [r.len], fun j y e => ?_⟩
  by_cases hj : i = j
  · subst hj
    by_cases hi : i < σ.length
    · rw [List.getElem?_set_self hi] at e; cases e
    · rw [List.getElem?_eq_none (by simp; omega)] at e; cases e
  · rw [List.getElem?_set_ne hj] at e
    obtain ⟨w, e1, r1⟩ := r.env j y e
    exact ⟨w, by rw [List.getElem?_set_ne hj]; exact e1, r1⟩
theorem Rel.wipe {K : PySem.W.Frag} {μ : Mu} {σ : Env} {st : Store} {σV : L2.St} {H : Hp} (r : Rel K μ σ st σV H) : ∀ vs : List Nat, Rel K μ (wipeE σ vs) st (L2.wipe σV vs) H
  | [] => r
  | v :: vs => (Rel.wipe r vs).unset v
theorem wipe_in {σ : L2.St} {i : Nat} (hi : i < σ.length) : ∀ {vs : List Nat}, i ∈ vs → (L2.wipe σ vs)[i]? = some none
  | v :: vs, h => by
    unfold L2.wipe
    by_cases hv : v = i
    · subst hv
      exact List.getElem?_set_self (by rw [wipe_length]; exact hi)
    · rw [List.getElem?_set_ne hv]
      exact wipe_in hi (by rcases List.mem_cons.mp h with h | h; exact absurd h.symm hv; exact h)
theorem wipe_agree {S vs : List Nat} {a b : L2.St} (h : Agree S a b) (hs : ∀ i ∈ S, i ∈ vs) : L2.wipe a vs = L2.wipe b vs := by
  refine List.ext_getElem? fun i => ?_
  by_cases hi : i ∈ vs
  · by_cases hl : i < a.length
    · rw [wipe_in hl hi, wipe_in (h.1 ▸ hl) hi]
    · rw [List.getElem?_eq_none (by rw [wipe_length]; omega), List.getElem?_eq_none (by rw [wipe_length, ← h.1]; omega)]
  · rw [wipe_out hi, wipe_out hi]
    exact h.2 i fun z => hi (hs i z)
theorem wipe_wipe (σ : L2.St) (vs : List Nat) : L2.wipe (L2.wipe σ vs) vs = L2.wipe σ vs := by
  refine List.ext_getElem? fun i => ?_
  by_cases hi : i ∈ vs
  · by_cases hl : i < σ.length
    · rw [wipe_in (by rw [wipe_length]; exact hl) hi, wipe_in hl hi]
    · rw [List.getElem?_eq_none (by rw [wipe_length, wipe_length]; omega), List.getElem?_eq_none (by rw [wipe_length]; omega)]
  · rw [wipe_out hi]
theorem comp_of {it : Ix} {gx : Gx} {S vs : List Nat} {t : Tx} {el : Ex} {σV : L2.St} {H : Hp} {Q : VK} (hS : ∀ i ∈ S, i ∈ vs) (q : tX X.K (eComp vs it gx t el) σV H Q) :
    tLc (tI X.K it) (tG X.K gx S) (tT X.K t) (tX X.K el) vs σV H Q := by
  obtain ⟨μ, σ, st, z, st', rel, e, q⟩ := q
  obtain ⟨⟨ds, w⟩, st1, e1, e⟩ := bind_ok e
  obtain ⟨res, st2, e2, e⟩ := bind_ok e
  injection e with h1 h2; subst h1 h2
  simp only at e2
  refine ⟨μ, σ, st, (ds, w), st1, rel, e1, fun μ1 H1 J l1 c1 kp Y => fun D hD => ?_⟩
  simp only at kp Y
  obtain ⟨ch, lrh⟩ := c1.hide hD (vs := [])
  have lwh : Lw μ1 H1 (μ1.hide D) (upd H1 D (.lst [])) := ⟨lrh, fun n oa h => ⟨oa, h, .inl rfl⟩⟩
  have relw := (rel.wipe vs).mono l1 c1
  refine ⟨fun i m H2 => m = ds.length - i ∧ i ≤ ds.length ∧ ∃ μ2 stx acc avs, Lw μ1 H1 μ2 H2 ∧ μ2.hid = D :: μ1.hid ∧ (∀ a ∈ μ1.hid, H2 a = H1 a) ∧ Rel X.K μ2 (wipeE σ vs) stx (L2.wipe σV vs) H2 ∧ H2 D = some (.lst avs) ∧ Reps X.K (Live μ2) H2 acc avs ∧ kept w stx = true ∧ cLoop w gx t el (wipeE σ vs) (ds.drop i) acc stx = .ok res st2,
    ⟨ds.length, by simp, Nat.zero_le _, μ1.hide D, st1, [], [], lwh, rfl, fun a h => upd_ne (c1.hid_ne h hD), relw.monoW lwh ch, upd_same, Reps.nil, kp, by simpa using e2⟩, ?_⟩
  rintro i m H2 ⟨rfl, hi, μ2, stx, acc, avs, lw2, hid2, hk2, rel2, hD2, rp2, kp2, e3⟩
  by_cases hlt : i < ds.length
  · have hd : ds[i]? = some ds[i] := List.getElem?_eq_getElem hlt
    rw [List.drop_eq_getElem_cons hlt] at e3
    unfold cLoop at e3
    obtain ⟨σ3, st3, e4, e3⟩ := bind_ok e3
    obtain ⟨b, st4, e5, e3⟩ := bind_ok e3
    obtain ⟨go, yl⟩ := Y.go μ2 stx H2 i _ lw2 rel2.cfg kp2 hd
    have mD : D ∈ μ2.hid := by rw [hid2]; exact List.mem_cons_self
    refine .inr ⟨go, fun H' => ∃ μ' st'' acc' avs', Lw μ1 H1 μ' H' ∧ μ'.hid = D :: μ1.hid ∧ (∀ a ∈ μ1.hid, H' a = H1 a) ∧ Rel X.K μ' (wipeE σ vs) st'' (L2.wipe σV vs) H' ∧ H' D = some (.lst avs') ∧ Reps X.K (Live μ') H' acc' avs' ∧ kept w st'' = true ∧ cLoop w gx t el (wipeE σ vs) (ds.drop (i + 1)) acc' st'' = .ok res st2,
      fun H' hN => ⟨ds.length - (i + 1), by omega, rfl, hlt, hN⟩, fun x H' y => ?_⟩
    obtain ⟨ly, cy, ry⟩ := yl x H' y
    refine ⟨μ2, wipeE σ vs, stx, .d ds[i], σ3, st3, rel2.mono ly cy, ry, e4, fun μ5 H5 σV5 l5 rel5 a5 => ⟨?_, ?_⟩⟩
    · rw [wipe_agree a5 hS, wipe_wipe]
    · refine ⟨μ5, σ3, st3, b, st4, rel5, e5, fun μ6 H6 l6 c6 => ?_⟩
      have l26 := (ly.trans l5).trans l6
      cases b with
      | false =>
        refine iteF ?_
        simp only [Bool.false_eq_true, if_false] at e3
        split at e3
        · rename_i kp6
          refine ⟨μ6, st4, acc, avs, lw2.trans l26.toLw, l26.hk.1.trans hid2, fun a h => ?_, rel2.mono l26 c6, (l26.hk.2 D mD).trans hD2, rp2.mono l26.toLr, kp6, e3⟩
          exact (l26.hk.2 a (by rw [hid2]; exact List.mem_cons_of_mem _ h)).trans (hk2 a h)
        · cases e3
      | true =>
        refine iteT ?_
        simp only [if_true] at e3
        obtain ⟨yv, st5, e6, e3⟩ := bind_ok e3
        refine ⟨μ6, σ3, st4, yv, st5, rel5.mono l6 c6, e6, fun μ7 H7 v l7 c7 r7 => ?_⟩
        have l27 := l26.trans l7
        cases yv with
        | loc n => cases e3
        | fn n => cases e3
        | d yd =>
          simp only at e3
          split at e3
          · rename_i kp7
            rw [Bool.and_eq_true] at kp7
            have hD7 : H7 D = some (.lst avs) := (l27.hk.2 D mD).trans hD2
            have m7 : D ∈ μ7.hid := by rw [l27.hk.1]; exact mD
            obtain ⟨c8, lr8⟩ := c7.grow m7 (vs := avs ++ [v])
            have lw8 : Lw μ7 H7 μ7 (upd H7 D (.lst (avs ++ [v]))) := ⟨lr8, fun n oa h => ⟨oa, h, .inl rfl⟩⟩
            have rp7 := rp2.mono l27.toLr
            refine ⟨avs, hD7, by rw [← rp7.length]; exact of_decide_eq_true kp7.2, μ7, st5, acc ++ [yd], avs ++ [v], (lw2.trans l27.toLw).trans lw8, l27.hk.1.trans hid2, fun a h => ?_, (rel2.mono l27 c7).monoW lw8 c8, upd_same, ?_, kp7.1, e3⟩
            · have ne : a ≠ D := c1.hid_ne h hD
              rw [upd_ne ne]
              exact (l27.hk.2 a (by rw [hid2]; exact List.mem_cons_of_mem _ h)).trans (hk2 a h)
            · exact (rp7.append (Reps.cons r7 Reps.nil)).mono lr8
          · cases e3
  · have hi' : i = ds.length := by omega
    subst hi'
    rw [List.drop_length] at e3
    unfold cLoop at e3
    injection e3 with h1 h2; subst h1 h2
    refine .inl ⟨Y.stop μ2 stx H2 lw2 rel2.cfg kp2, ?_⟩
    -- D is no longer hidden
    have c2 := rel2.cfg
    have less : ∀ a, Live ⟨μ2.l, μ1.hid⟩ a → Live μ2 a := fun a l => by
      rcases l with l | l
      · exact .inl l
      · exact .inr (by rw [hid2]; exact List.mem_cons_of_mem _ l)
    have lr3 : Lr (Live μ2) H2 (Live ⟨μ2.l, μ1.hid⟩) H2 := ⟨fun a u h r => ⟨r, fun l => h (less a l)⟩, fun _ _ _ h => h, fun _ _ h => h⟩
    have c3 : Cfg X.K ⟨μ2.l, μ1.hid⟩ stx H2 := ⟨c2.len, fun a h => c2.hd a (by rw [hid2]; exact List.mem_cons_of_mem _ h), fun n a e => by
      obtain ⟨o, e1, m⟩ := c2.there n a e
      exact ⟨o, e1, m.mono lr3 rfl⟩, c2.gone, c2.nd⟩
    have le3 : Le μ1 H1 ⟨μ2.l, μ1.hid⟩ H2 := ⟨⟨lw2.toLr.trans lr3, lw2.at'⟩, ⟨rfl, hk2⟩⟩
    refine q ⟨μ2.l, μ1.hid⟩ H2 (.ref D) (l1.trans le3) c3 (RepV.d (Rep.lst hD2 (fun l => ?_) (rp2.mono lr3)))
    rcases l with l | l
    · exact (c2.hd D (by rw [hid2]; exact List.mem_cons_self)).1 l
    · exact c1.hid_ne l hD rfl
theorem ts_nil {Y : Cx} : PTs Y [] (tT Y.K tTrue) := ⟨fun pins s σV H Q I q => pts_nil.run pins s σV H Q I (by
  obtain ⟨μ, σ, st, b, st', rel, e, q⟩ := q
  injection e with h1 h2; subst h1 h2
  exact q μ H (Le.refl _ _) rel.cfg)⟩
theorem ts_one {Y : Cx} {c : Expr} {t : Tx} (h : PT Y c (tT Y.K t)) : PTs Y [c] (tT Y.K t) := pts_one h
variable {elt iter : Expr} {ifs : List Expr} {scope : Scope} {own : List (Str × Nat)} {it : Ix} {gx : Gx} {S : List Nat} {t : Tx} {el : Ex}
theorem x_comp (hc : X.calm = true) (hN : X.N.Nodup) (hi : PI X tg iter (tI X.K it)) (ok : BlkOk X.N X.env.scope scope own)
    (hg : ∀ (s : Shared) (H : Hp) (C : Addr) (cl : List (Str × Addr)) (fp : List Addr), PG (X.blk s H scope (compEnvC scope cl C X.env) fp) tg (tG X.K gx S)) (ht : ∀ (s : Shared) (H : Hp) (C : Addr) (cl : List (Str × Addr)) (fp : List Addr), PTs (X.blk s H scope (compEnvC scope cl C X.env) fp) ifs (tT X.K t))
    (he : ∀ (s : Shared) (H : Hp) (C : Addr) (cl : List (Str × Addr)) (fp : List Addr), PE (X.blk s H scope (compEnvC scope cl C X.env) fp) elt (tX X.K el)) (hS : (S.all fun i => (own.map (·.2)).contains i) = true) (hs : ∀ x, foldedSetIterable iter X.env x = pure x := by intro _; rfl) :
    PE X (.ListComp elt [⟨tg, iter, ifs, 0⟩] scope pos) (tX X.K (eComp (own.map (·.2)) it gx t el)) :=
  (pe_lc hc hN hi ok hg ht he hs).weak fun _ _ _ q => comp_of (fun i hi => by
    have := List.all_eq_true.mp hS i hi
    simpa using this) q
theorem s_comp {i : Nat} {y : Str} {py : Pos} {spos : Pos} (hc : X.calm = true) (hN : X.N.Nodup) (hy : X.N[i]? = some y) (hyl : X.env.scope.names.lookup y = some .local)
    (hsw : swapsWith (.ListComp elt [⟨tg, iter, ifs, 0⟩] scope pos) (some (.Name y py)) spos.line X.env = pure true) (hi : PI X tg iter (tI X.K it)) (ok : BlkOk X.N X.env.scope scope own)
    (hg : ∀ (s : Shared) (H : Hp) (C : Addr) (cl : List (Str × Addr)) (fp : List Addr), PG (X.blk s H scope (compEnvC scope cl C X.env) fp) tg (tG X.K gx S)) (ht : ∀ (s : Shared) (H : Hp) (C : Addr) (cl : List (Str × Addr)) (fp : List Addr), PTs (X.blk s H scope (compEnvC scope cl C X.env) fp) ifs (tT X.K t))
    (he : ∀ (s : Shared) (H : Hp) (C : Addr) (cl : List (Str × Addr)) (fp : List Addr), PE (X.blk s H scope (compEnvC scope cl C X.env) fp) elt (tX X.K el)) (hS : (S.all fun i => (own.map (·.2)).contains i) = true) (hs : ∀ x, foldedSetIterable iter X.env x = pure x := by intro _; rfl) :
    PS X (.Assign [.Name y py] (.ListComp elt [⟨tg, iter, ifs, 0⟩] scope pos) spos) (tSt X.K (sAsg (eComp (own.map (·.2)) it gx t el) (gN i))) :=
  (ps_setLc hc hN hy hyl hsw hi ok hg ht he hs).weak fun D σV H q => by
    obtain ⟨μ, σ, st, r, st', rel, e, q⟩ := q
    obtain ⟨x, st1, e1, e⟩ := bind_ok e
    obtain ⟨σ1, st2, e2, e⟩ := bind_ok e
    injection e with h1 h2; subst h1 h2
    refine comp_of (fun i hi => by
      have := List.all_eq_true.mp hS i hi
      simpa using this) ⟨μ, σ, st, x, st1, rel, e1, fun μ1 H1 v l1 c1 r1 => ?_⟩
    unfold gN at e2
    split at e2
    · injection e2 with h1 h2; subst h1 h2
      exact q μ1 H1 _ l1 ((rel.mono l1 c1).set r1)
    · cases e2

/-! ### defs -/
/-- what a def promises, by its plain function -/
def spF (K : PySem.W.Frag) (n : Nat) (F : Fun) : Sp := fun vs H Q _ => vs.length = n ∧ ∃ μ st xs x st', Cfg K μ st H ∧ RepVs K μ H xs vs ∧ F xs st = .ok x st' ∧ ∀ μ' H' v, Le μ H μ' H' → Cfg K μ' st' H' → RepV K μ' H' x v → Q v H'
/-- a def as its callers see it -/
structure FnA (P : Program) (w : World) (K : PySem.W.Frag) (mg : Str → Option Value) (base : Heap) (k : Nat) (x : Str) (n : Nat) (F : Fun) : Prop where
  ex : ∃ (f : Addr) (fd : FuncData) (ps : List Str), FnOk P w K mg base CX0 k f fd ps (spF K n F) ∧ mg x = some (.ref f) ∧ PySem.W.keepIn K (.ref f) = true ∧ Binds K fd ps []
theorem args_len {fs : List Ex} : ∀ {σ : Env} {st : Store} {xs : List VV} {st1 : Store}, eArgs fs σ st = .ok xs st1 → xs.length = fs.length := by
  induction fs with
  | nil => intro σ st xs st1 e; injection e with h1 h2; subst h1; rfl
  | cons f fs ih =>
    intro σ st xs st1 e
    obtain ⟨x, _, _, e⟩ := bind_ok e
    obtain ⟨ys, _, e2, e⟩ := bind_ok e
    injection e with h1 h2; subst h1
    simp [ih e2]
theorem call_of {n : Nat} {F : Fun} (hn : fs.length = n) {σV : L2.St} {H : Hp} {Q : VK} (q : tX X.K (eCall F fs) σV H Q) : tCall (spF X.K n F) [] E0 (tA X.K fs) σV H Q := by
  obtain ⟨μ, σ, st, z, st', rel, e, q⟩ := q
  obtain ⟨xs, st1, e1, e⟩ := bind_ok e
  refine ⟨μ, σ, st, xs, st1, rel, e1, fun μ1 H1 vs l1 c1 r1 => ?_⟩
  show spF X.K n F (vs ++ []) H1 Q E0
  rw [List.append_nil]
  refine ⟨?_, μ1, st1, xs, z, st', c1, r1, e, fun μ2 H2 v l2 c2 r2 => q μ2 H2 v (l1.trans l2) c2 r2⟩
  rw [← Paired.length r1, args_len e1, hn]
theorem x_call {k n : Nat} {x : Str} {F : Fun} (A : FnA X.prog X.w X.K X.mg X.base k x n F) (hr : Room k X.A) (hg : Gl X x) (ha : PA X (e :: es) (tA X.K fs)) (hn : fs.length = n := by rfl)
    (hd : (x == ("__debug__" : Str)) = false := by decide)
    (he : starEach (e :: es) X.env = (false, eval e X.env) :: starEach es X.env := by rfl) (hpl : (backTo pos (starEach es X.env)).any (·.1) = false := by rfl) : PE X (.Call (.Name x p) (e :: es) [] pos) (tX X.K (eCall F fs)) := by
  obtain ⟨f, fd, ps, FO, hm, hk, hb⟩ := A.ex
  exact (pe_call FO hr hg hm hk hb .nil pass0 ha hd he hpl).weak fun _ _ _ q => call_of hn q
/-- a def as callers with keywords see it -/
structure FnK (P : Program) (w : World) (K : PySem.W.Frag) (mg : Str → Option Value) (base : Heap) (k : Nat) (x : Str) (n : Nat) (F : Fun) (npos : Nat) (ks : List Str) (perm : List Nat) : Prop where
  ex : ∃ (f : Addr) (fd : FuncData) (ps : List Str), FnOk P w K mg base CX0 k f fd ps (spF K n F) ∧ mg x = some (.ref f) ∧ PySem.W.keepIn K (.ref f) = true ∧ ps.length ≠ 0 ∧
    ∀ (s : Shared) (us ws : List Value), K.In s.heap → us.length = npos → ws.length = ks.length → BindsTo s fd ⟨us, ks.zip ws⟩ (ps.zip (perm.map fun i => (us ++ ws).getD i .none))
theorem vals_getD {xs : List V} {us : List Value} (r : Vals xs us) (i : Nat) : RelV (xs.getD i .non) (us.getD i .none) := by
  cases e : xs[i]? with
  | some x =>
    obtain ⟨u, e1, r1⟩ := r.get e
    rw [List.getD_eq_getElem?_getD, List.getD_eq_getElem?_getD, e, e1]
    exact r1
  | none =>
    have e1 := r.none_of e
    rw [List.getD_eq_getElem?_getD, List.getD_eq_getElem?_getD, e, e1]
    rfl
theorem vals_perm {xs : List V} {us : List Value} (r : Vals xs us) : ∀ perm : List Nat, Vals (perm.map fun i => xs.getD i .non) (perm.map fun i => us.getD i .none)
  | [] => .nil
  | i :: p => .cons (vals_getD r i) (vals_perm r p)
theorem repVs_getD {K : PySem.W.Frag} {μ : Mu} {H : Hp} : ∀ {xs : List VV} {vs : List V}, RepVs K μ H xs vs → ∀ i, RepV K μ H (xs.getD i (.d .non)) (vs.getD i .non)
  | _, _, .nil, i => by simpa using RepV.non
  | _, _, .cons a b, 0 => a
  | x :: xs, v :: vs, .cons a b, i + 1 => by simpa using repVs_getD b i
theorem repVs_perm {K : PySem.W.Frag} {μ : Mu} {H : Hp} {xs : List VV} {vs : List V} (r : RepVs K μ H xs vs) : ∀ perm : List Nat, RepVs K μ H (permV perm xs) (perm.map fun i => vs.getD i .non)
  | [] => .nil
  | i :: p => .cons (repVs_getD r i) (repVs_perm r p)
theorem repVs_app {K : PySem.W.Frag} {μ : Mu} {H : Hp} : ∀ {xs ys : List VV} {vs ws : List V}, RepVs K μ H xs vs → RepVs K μ H ys ws → RepVs K μ H (xs ++ ys) (vs ++ ws)
  | _, _, _, _, .nil, h => h
  | _, _, _, _, .cons a b, h => .cons a (repVs_app b h)
def permG (npos nk : Nat) (perm : List Nat) (us ws : List Value) : List Value := if us.length = npos ∧ ws.length = nk then perm.map fun i => (us ++ ws).getD i .none else []
def permGV (npos nk : Nat) (perm : List Nat) (us ws : List V) : List V := if us.length = npos ∧ ws.length = nk then perm.map fun i => (us ++ ws).getD i .non else []
theorem kbinds_of {K : PySem.W.Frag} {fd : FuncData} {ps ks : List Str} {npos : Nat} {perm : List Nat} (h0 : ps.length ≠ 0)
    (hb : ∀ (s : Shared) (us ws : List Value), K.In s.heap → us.length = npos → ws.length = ks.length → BindsTo s fd ⟨us, ks.zip ws⟩ (ps.zip (perm.map fun i => (us ++ ws).getD i .none))) : KBinds K fd ps ks (permG npos ks.length perm) (permGV npos ks.length perm) where
  to := fun s us ws hK hl => by
    unfold permG at hl ⊢
    split at hl
    · rename_i h
      rw [if_pos h]
      exact hb s us ws hK h.1 h.2
    · exact absurd hl.symm h0
  rel := fun {vs us zs ws} r rz => by
    unfold permG permGV
    rw [r.length, rz.length]
    split
    · exact vals_perm (r.append rz) perm
    · exact .nil
/-- the keywords' values -/
theorem k_nil : PK X [] (tA X.K []) := ⟨fun pos pins s σV H Q I q => (pk_nil (X := X)).run pos pins s σV H Q I (by
  obtain ⟨μ, σ, st, xs, st', rel, e, q⟩ := q
  injection e with h1 h2; subst h1 h2
  exact q μ H [] (Le.refl _ _) rel.cfg .nil)⟩
theorem k_cons {nm : Option Str} {kpos : Pos} {kws : List Keyword} (ha : PE X e (tX X.K f)) (hr : PK X kws (tA X.K fs)) : PK X (⟨nm, e, kpos⟩ :: kws) (tA X.K (f :: fs)) := ⟨fun pos pins s σV H Q I q => (pk_cons ha hr).run pos pins s σV H Q I (by
    obtain ⟨μ, σ, st, xs, st', rel, e, q⟩ := q
    obtain ⟨x, st1, e1, e⟩ := bind_ok e
    obtain ⟨ys, st2, e2, e⟩ := bind_ok e
    injection e with h1 h2; subst h1 h2
    refine ⟨μ, σ, st, x, st1, rel, e1, fun μ1 H1 v l1 c1 r1 => ?_⟩
    exact ⟨μ1, σ, st1, ys, st2, rel.mono l1 c1, e2, fun μ2 H2 vs l2 c2 r2 => q μ2 H2 (v :: vs) (l1.trans l2) c2 (.cons (r1.mono l2) r2)⟩)⟩
variable {gs : List Ex} {kws : List Keyword} {ks : List Str} {perm : List Nat}
theorem x_callK {k n : Nat} {x : Str} {F : Fun} (A : FnK X.prog X.w X.K X.mg X.base k x n F fs.length ks perm) (hr : Room k X.A) (hg : Gl X x) (ha : PA X (e :: es) (tA X.K fs)) (hkw : PK X kws (tA X.K gs)) (hn : perm.length = n := by rfl) (hkl : gs.length = ks.length := by rfl)
    (hall : (backToKw pos (keywordEach kws X.env)).all (·.1.isSome) = true := by rfl) (hks : (backToKw pos (keywordEach kws X.env)).filterMap (·.1) = ks := by rfl)
    (hd : (x == ("__debug__" : Str)) = false := by decide) (he : starEach (e :: es) X.env = (false, eval e X.env) :: starEach es X.env := by rfl)
    (hpl : ((backTo pos (starEach (e :: es) X.env)).any (·.1) || (backToKw pos (keywordEach kws X.env)).any (·.1.isNone)) = false := by rfl) : PE X (.Call (.Name x p) (e :: es) kws pos) (tX X.K (eCallK F perm fs gs)) := by
  obtain ⟨f, fd, ps, FO, hm, hk, h0, hb⟩ := A.ex
  refine (pe_callK FO hr hg hm hk (kbinds_of h0 hb) pass0 ha hkw hall hks hd he hpl).weak fun σV H Q q => ?_
  obtain ⟨μ, σ, st, z, st', rel, e, q⟩ := q
  obtain ⟨xs, st1, e1, e⟩ := bind_ok e
  obtain ⟨ys, st2, e2, e⟩ := bind_ok e
  refine ⟨μ, σ, st, xs, st1, rel, e1, fun μ1 H1 vs l1 c1 r1 => ?_⟩
  refine ⟨μ1, σ, st1, ys, st2, rel.mono l1 c1, e2, fun μ2 H2 ws l2 c2 r2 => ?_⟩
  have q1 : vs.length = fs.length := by rw [← Paired.length r1, args_len e1]
  have q2 : ws.length = ks.length := by rw [← Paired.length r2, args_len e2, hkl]
  show spF X.K n F (permGV _ _ _ vs ws) H2 Q E0
  unfold permGV
  rw [if_pos ⟨q1, q2⟩]
  exact ⟨by simp [hn], μ2, st2, permV perm (xs ++ ys), z, st', c2, repVs_perm (repVs_app (RepVs.mono l2 r1) r2) perm, e, fun μ3 H3 v l3 c3 r3 => q μ3 H3 v (l1.trans (l2.trans l3)) c3 r3⟩
theorem x_callK0 {k n : Nat} {x : Str} {F : Fun} (A : FnK X.prog X.w X.K X.mg X.base k x n F 0 ks perm) (hr : Room k X.A) (hg : Gl X x) (hkw : PK X kws (tA X.K gs)) (hn : perm.length = n := by rfl) (hkl : gs.length = ks.length := by rfl)
    (hall : (backToKw pos (keywordEach kws X.env)).all (·.1.isSome) = true := by rfl) (hks : (backToKw pos (keywordEach kws X.env)).filterMap (·.1) = ks := by rfl)
    (hd : (x == ("__debug__" : Str)) = false := by decide)
    (hpl : ((backTo pos (starEach [] X.env)).any (·.1) || (backToKw pos (keywordEach kws X.env)).any (·.1.isNone)) = false := by rfl) : PE X (.Call (.Name x p) [] kws pos) (tX X.K (eCallK F perm [] gs)) := by
  obtain ⟨f, fd, ps, FO, hm, hk, h0, hb⟩ := A.ex
  refine ⟨fun pins s σV H Q I q => ?_⟩
  obtain ⟨μ, σ, st, z, st', rel, e, q⟩ := q
  obtain ⟨xs, st1, e1, e⟩ := bind_ok e
  injection e1 with h1 h2; subst h1 h2
  obtain ⟨ys, st2, e2, e⟩ := bind_ok e
  refine wpAny_Call_Name_kw (ld_glob I hg hm ?_ hd)
  refine PySem.W.callWith_KW0 (h₀ := X.base) I.ok.mod.kin hk hall (thn (hkw.run pos pins s σV H (fun ws H2 => spF X.K n F (permGV 0 ks.length perm [] ws) H2 Q E0) I ?_) fun ws s2 ⟨zs, H2, I2, rz, q2⟩ => ⟨I2.kIn, ?_⟩) hpl
  · refine ⟨μ, σ, st, ys, st2, rel, e2, fun μ2 H2 ws l2 c2 r2 => ?_⟩
    have q2 : ws.length = ks.length := by rw [← Paired.length r2, args_len e2, hkl]
    show spF X.K n F (permGV _ _ _ [] ws) H2 Q E0
    unfold permGV
    rw [if_pos ⟨rfl, q2⟩]
    exact ⟨by simp [hn], μ2, st2, permV perm ([] ++ ys), z, st', c2, repVs_perm r2 perm, e, fun μ3 H3 v l3 c3 r3 => q μ3 H3 v (l2.trans l3) c3 r3⟩
  · rw [hks]
    exact run_fnk FO hr (kbinds_of h0 hb) pass0 I2 .nil rz q2
end
end PX

/-! PX10: a def whose body reads as a plain function keeps the promise of the plain function. -/
namespace PX
open PySem PySem.Spec PyProof.Rows L2 TL

section
variable {K : PySem.W.Frag} {μ μ0 : Mu} {st : Store} {H H0 : Hp}
/-- one thing made behind a place is kept -/
theorem Cfg.pick (c : Cfg K μ st H) {n m : Nat} {oa : Option Addr} {o : MO} (hn : n ≤ m) (hm : μ.l[m]? = some oa) (ho : st[m]? = some o) :
    Cfg K ⟨μ.l.take n ++ [oa], μ.hid⟩ (st.take n ++ [o]) H ∧ Lr (Live μ) H (Live ⟨μ.l.take n ++ [oa], μ.hid⟩) H := by
  have hml : m < μ.l.length := (List.getElem?_eq_some_iff.mp hm).1
  have hms : m < st.length := (List.getElem?_eq_some_iff.mp ho).1
  have mem0 : ∀ b, some b ∈ (μ.l.take n ++ [oa]) → some b ∈ μ.l := fun b l => by
    rcases List.mem_append.mp l with l | l
    · exact List.mem_of_mem_take l
    · have : some b = oa := by simpa using l
      exact this ▸ List.mem_of_getElem? hm
  have nl : ∀ b, Live ⟨μ.l.take n ++ [oa], μ.hid⟩ b → Live μ b := fun b l => by
    rcases l with l | l
    · exact .inl (mem0 b l)
    · exact .inr l
  have lr : Lr (Live μ) H (Live ⟨μ.l.take n ++ [oa], μ.hid⟩) H := ⟨fun b u h r => ⟨r, fun l => h (nl b l)⟩, fun _ _ _ h => h, fun _ _ h => h⟩
  have l1 : (μ.l.take n).length = n := by rw [List.length_take]; omega
  have l2 : (st.take n).length = n := by rw [List.length_take]; omega
  have gt : ∀ (k : Nat) (ob : Option Addr), (μ.l.take n ++ [oa])[k]? = some ob → (k < n ∧ μ.l[k]? = some ob) ∨ (k = n ∧ oa = ob) := fun k ob e => by
    rcases (get_app _ _ _ _).mp e with e | ⟨e1, e2⟩
    · have hk : k < n := by
        have := (List.getElem?_eq_some_iff.mp e).1
        omega
      rw [List.getElem?_take_of_lt hk] at e
      exact .inl ⟨hk, e⟩
    · exact .inr ⟨by omega, e2⟩
  have gs : ∀ (k : Nat) (z : MO), (k < n ∧ st[k]? = some z) ∨ (k = n ∧ o = z) → (st.take n ++ [o])[k]? = some z := fun k z e => by
    rcases e with ⟨hk, e⟩ | ⟨e1, e2⟩
    · exact (get_app _ _ _ _).mpr (.inl (by rw [List.getElem?_take_of_lt hk]; exact e))
    · exact (get_app _ _ _ _).mpr (.inr ⟨by omega, e2⟩)
  refine ⟨⟨by simp [l1, l2], fun b h => ⟨fun q => (c.hd b h).1 (mem0 b q), (c.hd b h).2⟩, fun k b e => ?_, fun k e => ?_, fun k j b e1 e2 => ?_⟩, lr⟩
  · rcases gt k _ e with ⟨hk, e⟩ | ⟨hk, e⟩
    · obtain ⟨o', e1, mm⟩ := c.there k b e
      exact ⟨o', gs k o' (.inl ⟨hk, e1⟩), mm.mono lr rfl⟩
    · subst e
      obtain ⟨o', e1, mm⟩ := c.there m b hm
      rw [ho] at e1; cases e1
      exact ⟨o, gs k o (.inr ⟨hk, rfl⟩), mm.mono lr rfl⟩
  · rcases gt k _ e with ⟨hk, e⟩ | ⟨hk, e⟩
    · exact gs k _ (.inl ⟨hk, c.gone k e⟩)
    · subst e
      have := c.gone m hm
      rw [ho] at this; cases this
      exact gs k _ (.inr ⟨hk, rfl⟩)
  · rcases gt k _ e1 with ⟨hk, e1⟩ | ⟨hk, e1⟩ <;> rcases gt j _ e2 with ⟨hj, e2⟩ | ⟨hj, e2⟩
    · exact c.nd k j b e1 e2
    · subst e2; have := c.nd k m b (by assumption) hm; omega
    · subst e1; have := c.nd m j b hm (by assumption); omega
    · omega
theorem Le.pick (l : Le μ0 H0 μ H) (c : Cfg K μ st H) {n m : Nat} {oa : Option Addr} {o : MO} (h0 : μ0.l.length ≤ n) (hn : n ≤ m) (hm : μ.l[m]? = some oa) (ho : st[m]? = some o) : Le μ0 H0 ⟨μ.l.take n ++ [oa], μ.hid⟩ H where
  toLr := l.toLr.trans (c.pick hn hm ho).2
  hk := l.hk
  at' := fun k ob e => by
    obtain ⟨o1, e1, d⟩ := l.at' k ob e
    have : k < n := Nat.lt_of_lt_of_le (List.getElem?_eq_some_iff.mp e).1 h0
    exact ⟨o1, (get_app _ _ _ _).mpr (.inl (by rw [List.getElem?_take_of_lt this]; exact e1)), d⟩
theorem repVs_get : ∀ {xs : List VV} {vs : List V}, RepVs K μ H xs vs → ∀ {i : Nat} {x : VV}, xs[i]? = some x → ∃ v, vs[i]? = some v ∧ RepV K μ H x v
  | _, _, .nil, i, x, e => by simp at e
  | _, _, .cons a b, 0, x, e => by simp at e; subst e; exact ⟨_, rfl, a⟩
  | _, _, .cons a b, i + 1, x, e => by
    obtain ⟨v, e1, r⟩ := repVs_get b (i := i) (by simpa using e)
    exact ⟨v, by simpa using e1, r⟩
theorem enter_get {N : Nat} {xs : List VV} {i : Nat} {x : VV} (e : (enter N xs)[i]? = some (some x)) : xs[i]? = some x := by
  unfold enter at e
  by_cases h : i < xs.length
  · rw [List.getElem?_append_left (by simpa using h), List.getElem?_map] at e
    cases q : xs[i]? with
    | none => rw [q] at e; cases e
    | some y => rw [q] at e; cases e; rfl
  · rw [List.getElem?_append_right (by simpa using h), List.getElem?_replicate] at e
    split at e <;> cases e
theorem rel_start (c : Cfg K μ st H) {xs : List VV} {vs : List V} (r : RepVs K μ H xs vs) (N : List Str) : Rel K μ (enter N.length xs) st (L2.start N vs) H where
  cfg := c
  len := by
    have : xs.length = vs.length := Paired.length r
    unfold enter L2.start; simp [this]
  env := fun i x e => by
    obtain ⟨v, e1, r1⟩ := repVs_get r (enter_get e)
    refine ⟨v, ?_, r1⟩
    unfold L2.start
    have : i < vs.length := (List.getElem?_eq_some_iff.mp e1).1
    rw [List.getElem?_append_left (by simpa using this), List.getElem?_map, e1]
    rfl
end
section
variable {P : Program} {w : World} {K : PySem.W.Frag} {mg : Str → Option Value} {base : Heap}
theorem ok_fn {x qual : Str} {st : Stmt} {f : Addr} {fd : FuncData} {N ps : List Str} {k : Nat} {b : Sx} (F : L2.Fun K x qual st f fd) (S : FnScope N ps (defScope st))
    (hbody : ∀ (cdv : Value) (A : Around) (outer : List PySem.Env) (s : Shared) (H : Hp) (E : XK), Room k (A.deeper (envOfC qual (defScope st) s.heap.objs.size f cdv)) →
      PSs (cxOf CX0 P w K mg base N qual (defScope st) f cdv A outer s H E).nox (defBody st) (tSt K b)) : FnOk P w K mg base CX0 (k + 1) f fd ps (spF K ps.length (runF ps.length N.length b)) := by
  refine F.ok S (fun vs H Q E h => h.1) (fun cdv A outer s H vs Q E hr h => ?_)
  refine ⟨_, hbody cdv A outer s H E hr, ?_⟩
  obtain ⟨hl, μ, st, xs, x, st', c, r, e, q⟩ := h
  unfold runF at e
  split at e
  · obtain ⟨fl, st1, e1, e2⟩ := bind_ok e
    refine ⟨μ, _, st, fl, st1, rel_start c r N, e1, ?_⟩
    have hlen : μ.l.length ≤ st.length := Nat.le_of_eq c.len
    cases fl with
    | nx σ =>
      injection e2 with h1 h2; subst h1 h2
      exact fun μ1 H1 σV1 l1 rel1 => q _ H1 _ (l1.cut rel1.cfg hlen) (rel1.cfg.cut _).1 RepV.non
    | bk σ => cases e2
    | ct σ => cases e2
    | rt y =>
      cases y with
      | fn n => cases e2
      | d d =>
        injection e2 with h1 h2; subst h1 h2
        exact fun μ1 H1 v l1 c1 r1 => q _ H1 v (l1.cut c1 hlen) (c1.cut _).1 (Rep.mono (c1.cut _).2 r1)
      | loc m =>
        by_cases hm : m < st.length
        · simp only [hm, if_true] at e2
          injection e2 with h1 h2; subst h1 h2
          refine fun μ1 H1 v l1 c1 r1 => q _ H1 v (l1.cut c1 hlen) (c1.cut _).1 ?_
          obtain ⟨oa, a, ea, eq, z⟩ := r1
          exact ⟨oa, a, ea, by unfold Mu.take; simp only; rw [List.getElem?_take_of_lt hm]; exact eq, z⟩
        · simp only [hm, if_false] at e2
          split at e2
          · rename_i o ho
            injection e2 with h1 h2; subst h1 h2
            intro μ1 H1 v l1 c1 r1
            obtain ⟨oa, a, ea, eq, z⟩ := r1
            have hnm : st.length ≤ m := by omega
            refine q _ H1 v (l1.pick c1 hlen hnm eq ho) (c1.pick hnm eq ho).1 ⟨oa, a, ea, ?_, z⟩
            have hml : m < μ1.l.length := (List.getElem?_eq_some_iff.mp eq).1
            exact (get_app _ _ _ _).mpr (.inr ⟨by rw [List.length_take]; omega, rfl⟩)
          · cases e2
  · cases e
section
variable {X : Cx}
theorem sPar_ok {is : List Nat} {fs : List Ex} {σ : Env} {st st' : Store} {r : Fl} (e : sPar is fs σ st = .ok r st') : ∃ xs, eArgs fs σ st = .ok xs st' ∧ xs.length = is.length ∧ (∀ i ∈ is, i < σ.length) ∧ r = .nx ((is.zip xs).foldl (fun σ p => σ.set p.1 (some p.2)) σ) := by
  obtain ⟨xs, st1, e1, e⟩ := bind_ok e
  split at e
  · rename_i h
    injection e with h1 h2; subst h1 h2
    exact ⟨xs, e1, h.1, h.2, rfl⟩
  · cases e
theorem s_par2 {i j : Nat} {x y : Str} {a b : Expr} {f g : Ex} {px py pt pos : Pos} {kt k2 pt2} (hc : X.calm = true) (hN : X.N.Nodup) (hi : X.N[i]? = some x) (hj : X.N[j]? = some y) (hij : i ≠ j)
    (hx : X.env.scope.names.lookup x = some .local) (hy : X.env.scope.names.lookup y = some .local) (ha : PA X [a, b] (tA X.K [f, g]))
    (hw : swappedStores [.Tuple [.Name x px, .Name y py] kt pt] (.Tuple [a, b] k2 pt2) X.env = pure (some [x, y]))
    (hs : swapsWithSole [.Tuple [.Name x px, .Name y py] kt pt] (.Tuple [a, b] k2 pt2) pos.line X.env = pure false := by rfl) :
    PS X (.Assign [.Tuple [.Name x px, .Name y py] kt pt] (.Tuple [a, b] k2 pt2) pos) (tSt X.K (sPar [i, j] [f, g])) :=
  (ps_par hc hN hi hj hij hx hy ha hw hs).weak fun D σV H q => by
    obtain ⟨μ, σ, st, r, st', rel, e, q⟩ := q
    obtain ⟨xs, e1, el, hl, rfl⟩ := sPar_ok e
    refine ⟨μ, σ, st, xs, st', rel, e1, fun μ1 H1 vs l1 c1 r1 => ?_⟩
    match xs, el, vs, r1 with
    | [u, v], _, [u', v'], .cons ra (.cons rb .nil) => exact ⟨u', v', rfl, q μ1 H1 _ l1 (((rel.mono l1 c1).set ra).set rb)⟩
theorem s_par3 {i j l : Nat} {x y z : Str} {a b c : Expr} {f g h : Ex} {px py pz pt pos : Pos} {kt k2 pt2} (hc : X.calm = true) (hN : X.N.Nodup) (hi : X.N[i]? = some x) (hj : X.N[j]? = some y) (hl : X.N[l]? = some z) (hij : i ≠ j) (hil : i ≠ l) (hjl : j ≠ l)
    (hx : X.env.scope.names.lookup x = some .local) (hy : X.env.scope.names.lookup y = some .local) (hz : X.env.scope.names.lookup z = some .local) (ha : PA X [a, b, c] (tA X.K [f, g, h]))
    (hw : swappedStores [.Tuple [.Name x px, .Name y py, .Name z pz] kt pt] (.Tuple [a, b, c] k2 pt2) X.env = pure (some [x, y, z]))
    (hs : swapsWithSole [.Tuple [.Name x px, .Name y py, .Name z pz] kt pt] (.Tuple [a, b, c] k2 pt2) pos.line X.env = pure false := by rfl) :
    PS X (.Assign [.Tuple [.Name x px, .Name y py, .Name z pz] kt pt] (.Tuple [a, b, c] k2 pt2) pos) (tSt X.K (sPar [i, j, l] [f, g, h])) :=
  (ps_par3 hc hN hi hj hl hij hil hjl hx hy hz ha hw hs).weak fun D σV H q => by
    obtain ⟨μ, σ, st, r, st', rel, e, q⟩ := q
    obtain ⟨xs, e1, el, hl, rfl⟩ := sPar_ok e
    refine ⟨μ, σ, st, xs, st', rel, e1, fun μ1 H1 vs l1 c1 r1 => ?_⟩
    match xs, el, vs, r1 with
    | [u, v, w], _, [u', v', w'], .cons ra (.cons rb (.cons rc .nil)) => exact ⟨u', v', w', rfl, q μ1 H1 _ l1 ((((rel.mono l1 c1).set ra).set rb).set rc)⟩
end
/-- a def with the plain function that never ends -/
theorem ok_never {f : Addr} {fd : FuncData} {ps : List Str} {k : Nat} (F : Fun) (hF : ∀ xs st, F xs st = .fail) : FnOk P w K mg base CX0 k f fd ps (spF K ps.length F) where
  len := fun vs H Q E h => h.1
  run := fun A outer s H args us vs Q E hr he hb hv hs => by
    obtain ⟨_, μ, st, xs, x, st', c, r, e, q⟩ := hs
    rw [hF] at e; cases e
end
end PX

/-! PX11: the table of a text's defs; the law's end. -/
namespace PX
open PySem PySem.Spec PyProof.Rows L2 TL

section
variable {P : Program} {w : World} {K : PySem.W.Frag} {mg : Str → Option Value} {base : Heap} {k : Nat}
theorem units5 {A : Around} (r : Room k A) : A.units + 65 < cLine := by have := r.un; omega
/-- a def of the top -/
structure Tp (K : PySem.W.Frag) (mg : Str → Option Value) (x : Str) (st : Stmt) (ps : List Str) : Prop where
  ex : ∃ (f : Addr) (fd : FuncData), L2.Fun K x x st f fd ∧ mg x = some (.ref f) ∧ Binds K fd ps []
/-- .. that keeps the promise of a plain function -/
structure Fa (P : Program) (w : World) (K : PySem.W.Frag) (mg : Str → Option Value) (base : Heap) (k : Nat) (x : Str) (st : Stmt) (ps : List Str) (F : Fun) : Prop where
  ex : ∃ (f : Addr) (fd : FuncData), L2.Fun K x x st f fd ∧ mg x = some (.ref f) ∧ Binds K fd ps [] ∧ FnOk P w K mg base CX0 k f fd ps (spF K ps.length F)
variable {x : Str} {st : Stmt} {ps : List Str} {F : Fun}
theorem Fa.a (A : Fa P w K mg base k x st ps F) : FnA P w K mg base k x ps.length F := by
  obtain ⟨f, fd, FF, hm, hb, fo⟩ := A.ex
  exact ⟨f, fd, ps, fo, hm, FF.kp, hb⟩
theorem Fa.kw (A : Fa P w K mg base k x st ps F) {npos : Nat} {ks : List Str} {perm : List Nat} (h0 : ps.length ≠ 0)
    (h : ∀ (kV doc pm : Value) (an : Option Addr) (cdv ct : Value) (us ws : List Value), us.length = npos → ws.length = ks.length → bindArgs (PySem.W.fnOf x x (defArgs st) (defBody st) (defScope st) .none kV doc pm an cdv ct) ⟨us, ks.zip ws⟩ = pure (ps.zip (perm.map fun i => (us ++ ws).getD i .none))) :
    FnK P w K mg base k x ps.length F npos ks perm := by
  obtain ⟨f, fd, FF, hm, hb, fo⟩ := A.ex
  obtain ⟨oc, od, kV, doc, pm, an, cdv, ct, osl, rfl, lk, hcd⟩ := FF.ex
  exact ⟨f, _, ps, fo, hm, FF.kp, h0, fun s us ws _ h1 h2 => .of_eq (h kV doc pm an cdv ct us ws h1 h2)⟩
theorem Fa.mk1 (T : Tp K mg x st ps) {N : List Str} {n m : Nat} {b : Sx} (S : FnScope N ps (defScope st)) (hn : (ps.length, N.length) = (n, m))
    (hbody : ∀ (f : Addr) (cdv : Value) (A : Around) (outer : List PySem.Env) (s : Shared) (H : Hp) (E : XK), Room k (A.deeper (envOfC x (defScope st) s.heap.objs.size f cdv)) →
      PSs (cxOf CX0 P w K mg base N x (defScope st) f cdv A outer s H E).nox (defBody st) (tSt K b)) : Fa P w K mg base (k + 1) x st ps (runF n m b) := by
  obtain ⟨f, fd, FF, hm, hb⟩ := T.ex
  injection hn with h1 h2
  subst h1 h2
  exact ⟨f, fd, FF, hm, hb, ok_fn FF S (hbody f)⟩
theorem Fa.zero (T : Tp K mg x st ps) : Fa P w K mg base 0 x st ps (fun _ _ => .fail) := by
  obtain ⟨f, fd, FF, hm, hb⟩ := T.ex
  exact ⟨f, fd, FF, hm, hb, ok_never _ fun _ _ => rfl⟩
theorem Tp.mk1 {h : Heap} (X : K.In h) (G : h.Ns mainGlobals mg) {f : Addr} {oc : Value} {od an : Option Addr} {osl : Array (Option Value)} {kV doc pm cdv ct : Value}
    (a : PySem.W.nsIn K mainGlobals x = some (some (.ref f))) (l : K.lookup f = some ⟨oc, od, .func (PySem.W.fnOf x x (defArgs st) (defBody st) (defScope st) .none kV doc pm an cdv ct), osl⟩)
    (c : PySem.W.codeIn K cdv x = true) (kp : PySem.W.keepIn K (.ref f) = true)
    (hb : ∀ (kV doc pm : Value) (an : Option Addr) (cdv ct : Value) (us : List Value), us.length = ps.length → bindArgs (PySem.W.fnOf x x (defArgs st) (defBody st) (defScope st) .none kV doc pm an cdv ct) ⟨us, []⟩ = pure (ps.zip us)) : Tp K mg x st ps :=
  have F := fun_mk (st := st) l c kp
  ⟨f, _, F, PySem.W.mg_of X G a, F.binds hb⟩
theorem glob_int {h : Heap} (X : K.In h) (G : h.Ns mainGlobals mg) {i : Int} {t} (a : PySem.W.nsIn K mainGlobals x = some (some (.int i t))) : GlobD K mg x (.int i) :=
  ⟨_, .int i, PySem.W.mg_of X G a, ⟨_, rfl⟩, fun _ _ => Rep.int⟩
theorem glob_str {h : Heap} (X : K.In h) (G : h.Ns mainGlobals mg) {s : Str} {t} {z : List Nat} (a : PySem.W.nsIn K mainGlobals x = some (some (.str s t))) (e : s = ⟨z.toArray⟩) : GlobD K mg x (.str z) :=
  ⟨_, .str s, PySem.W.mg_of X G a, ⟨_, rfl⟩, fun _ _ => by subst e; exact Rep.str⟩
end

section
variable {X : Cx}
theorem xv (i : Nat) {x : Str} {pos : Pos} (hN : X.N[i]? = some x := by rfl) (hv : Vis X.env.scope x := by first | exact Or.inl rfl | exact Or.inr (Or.inl rfl) | exact Or.inr (Or.inr rfl)) (hd : (x == ("__debug__" : Str)) = false := by decide)
    (hcd : (x == ("__classdict__" : Str)) = false := by decide) : PE X (.Name x pos) (tX X.K (eVar i)) := x_var i hN hv hd hcd
theorem xf (i : Nat) {x : Str} {pos : Pos} (hN : X.N[i]? = some x := by rfl) (hv : Vis X.env.scope x := by first | exact Or.inl rfl | exact Or.inr (Or.inl rfl) | exact Or.inr (Or.inr rfl)) (hd : (x == ("__debug__" : Str)) = false := by decide)
    (hcd : (x == ("__classdict__" : Str)) = false := by decide) : PE X (.Name x pos) (tX X.K (eFrz i)) := x_frz i hN hv hd hcd
end
/-- the law's promise -/
def spL (K : PySem.W.Frag) : Sp := fun vs H Q _ => ∃ (a : Addr) (ns : List Int), vs = [.ref a] ∧ SqL K H a (ns.map V.int) ∧ ns.length ≤ 63 ∧ ∀ H', Q (.bl true) H'
theorem Fa.fnok {P : Program} {w : World} {K : PySem.W.Frag} {mg : Str → Option Value} {base : Heap} {k : Nat} {x : Str} {st : Stmt} {ps : List Str} {F : Fun} {f : Addr} {fd : FuncData} (A : Fa P w K mg base k x st ps F) (FF : L2.Fun K x x st f fd) (hm : mg x = some (.ref f)) : FnOk P w K mg base CX0 k f fd ps (spF K ps.length F) := by
  obtain ⟨f', fd', FF', hm', hb, fo⟩ := A.ex
  rw [hm] at hm'; cases hm'
  obtain ⟨oc, od, kV, doc, pm, an, cdv, ct, osl, e1, lk, _⟩ := FF.ex
  obtain ⟨oc', od', kV', doc', pm', an', cdv', ct', osl', e1', lk', _⟩ := FF'.ex
  rw [lk] at lk'
  injection lk' with lk'
  injection lk' with _ _ h3
  injection h3 with h3
  rw [h3]; exact fo
theorem spL_of {K : PySem.W.Frag} {F : Fun} (hl : ∀ ns : List Int, ns.length ≤ 63 → ∃ st', F [.d (.scr ns)] [] = .ok (.d (.bl true)) st') {vs : List V} {H : Hp} {Q : VK} {E : XK} (h : spL K vs H Q E) : spF K 1 F vs H Q E := by
  obtain ⟨a, ns, rfl, hS, hlen, q⟩ := h
  obtain ⟨st', e⟩ := hl ns hlen
  refine ⟨rfl, ⟨[], []⟩, [], [.d (.scr ns)], _, _, ⟨rfl, fun a h => (List.not_mem_nil h).elim, fun n a e => by simp at e, fun n e => by simp at e, fun n m a e => by simp at e⟩, .cons ?_ .nil, e, fun μ' H' v l c r => ?_⟩
  · unfold RepV Rep
    refine ⟨a, rfl, hS, fun nq => ⟨?_, fun l => ?_⟩⟩
    · rcases hS with hS | hS
      · exact hS
      · exact absurd (.inr hS) nq
    · rcases l with l | l <;> exact (List.not_mem_nil l).elim
  · unfold RepV Rep at r
    subst r
    exact q H'
theorem law_end {P : Program} {w : World} {K : PySem.W.Frag} {mg : Str → Option Value} {fa : Addr} {n : Nat} {st : Stmt} {F : Fun} (hfa : mg "law" = some (.ref fa)) (T : Tp K mg "law" st ["script"])
    (hb : ∀ (kV doc pm : Value) (an : Option Addr) (cdv ct : Value) (v : Value), bindArgs (PySem.W.fnOf "law" "law" (defArgs st) (defBody st) (defScope st) .none kV doc pm an cdv ct) ⟨[v], []⟩ = pure [(("script" : Str), v)])
    (A : ∀ base : Heap, Fa P w K mg base n "law" st ["script"] F) (hl : ∀ ns : List Int, ns.length ≤ 63 → ∃ st', F [.d (.scr ns)] [] = .ok (.d (.bl true)) st') :
    ∃ fd : FuncData, (∀ (s : Shared) (v : Value), BindsTo s fd ⟨[v], []⟩ [("script", v)]) ∧ ∀ base : Heap, K.In base → base.Ns mainGlobals mg → FnOk P w K mg base CX0 n fa fd ["script"] (spL K) := by
  obtain ⟨f, fd, FF, hm, _⟩ := T.ex
  rw [hfa] at hm; cases hm
  refine ⟨fd, fun s v => ?_, fun base _ _ => ((A base).fnok FF hfa).imp fun vs H Q E h => spL_of hl h⟩
  obtain ⟨oc, od, kV, doc, pm, an, cdv, ct, osl, rfl, lk, _⟩ := FF.ex
  exact .of_eq (hb kV doc pm an cdv ct v)
end PX

/-! PX12: list(range(..)), max(.., default=..). -/
namespace PX
open PySem PySem.Spec PyProof.Rows L2 TL
section
variable {X : Cx} {a b c e : Expr} {es : List Expr} {f g h : Ex} {fs gs : List Ex} {pos pos2 p p2 : Pos} {kws : List Keyword}
theorem rangeC_of (ha : PA X [a, b, c] (tA X.K [f, g, h])) (hg : Gl X "range") (hm : X.mg "range" = none)
    (hs : starEach [a, b, c] X.env = (false, eval a X.env) :: starEach [b, c] X.env) (hpl : (backTo pos (starEach [b, c] X.env)).any (·.1) = false)
    {pins : List (Addr × Obj)} {s : Shared} {σV : L2.St} {H : Hp} (I : Inv X pins σV H s) {μ : Mu} {σ : Env} {st st' : Store} {x : List D × Option (Nat × MO)} (rel : Rel X.K μ σ st σV H) (e : iRange [f, g, h] σ st = .ok x st') :
    wpAny (model X.prog X.w) X.A (eval (.Call (.Name "range" p) [a, b, c] [] pos) X.env) (fun y s' => ∃ r i j k n t u v H' μ', y = .ref r ∧ IsRange s'.heap r i j k t u v ∧ RgC i j k n ∧ x = (irange i n k, none) ∧ Inv X pins σV H' s' ∧ Le μ H μ' H' ∧ Cfg X.K μ' st' H') X.xe s := by
  obtain ⟨xs, st1, e2, e1⟩ := bind_ok e
  refine Call_ (ld_blt I hg hm boot_range (PyProof.Rows.callWith_type1 (thn (ha.run pos pins s σV H (fun vs H1 => ∃ μ1, Le μ H μ1 H1 ∧ Cfg X.K μ1 st1 H1 ∧ RepVs X.K μ1 H1 xs vs) I ⟨μ, σ, st, xs, st1, rel, e2, fun μ1 H1 vs l c r => ⟨μ1, l, c, r⟩⟩) fun us s1 ⟨vs, H1, I1, r1, q1⟩ => ?_) hs hpl))
  obtain ⟨μ1, l1, c1, rv⟩ := q1
  obtain ⟨x1, x2, x3, rfl⟩ := args3 e2
  split at e1
  · rename_i hx; cases hx
  · rename_i hx; cases hx
  · rename_i i j cc hx
    cases hx
    split at e1
    · rename_i hb
      injection e1 with h1 h2; subst h1 h2
      simp only [Bool.and_eq_true, decide_eq_true_eq] at hb
      obtain ⟨⟨⟨hi, hj⟩, hc0⟩, hc1⟩ := hb
      have rg := rgc hi hj hc0 hc1
      cases rv with
      | cons v1 rr =>
        cases rr with
        | cons v2 rr =>
          cases rr with
          | cons v3 rr =>
            cases rr
            have e1 := repVs_d v1
            have e2 := repVs_d v2
            have e3 := repVs_d v3
            subst e1 e2 e3
            cases r1 with
            | cons r rr =>
              cases rr with
              | cons r' rr =>
                cases rr with
                | cons r'' rr =>
                  cases rr
                  obtain ⟨t, rfl⟩ := r
                  obtain ⟨t', rfl⟩ := r'
                  obtain ⟨t'', rfl⟩ := r''
                  refine call_range_3 rg.1 ?_ (.inl (PyProof.noPylong_small rg.2.1))
                  exact ⟨_, i, j, cc, _, _, _, _, H1, μ1, rfl, IsRange.new .., rg, rfl, I1.kept (t' := s1.toks) fun b o e => Heap.get?_push_of_some _ e, l1, c1⟩
    · cases e1
  · cases e1
theorem vals_rgC {a c : Int} {n : Nat} {acc : Array Value} (h : ItemsOf (fun i v => ∃ t, v = .int (a + i * c) t) acc n) : Vals ((List.range n).map fun (i : Nat) => V.int (a + (i : Int) * c)) acc.toList := by
  have e : acc.toList.length = n := by rw [Array.length_toList]; exact h.1
  rw [← e]
  refine vals_of_get acc.toList _ fun j u hj => ?_
  obtain ⟨t, rfl⟩ := h.2 j u (by rw [← hj, Array.getElem?_toList])
  exact ⟨t, rfl⟩
theorem reps_rgC {K : PySem.W.Frag} {M : Addr → Prop} {H : Hp} {a c : Int} {n : Nat} : Reps K M H (irange a n c) ((List.range n).map fun (i : Nat) => V.int (a + (i : Int) * c)) := by
  unfold irange
  induction (List.range n) with
  | nil => exact Reps.nil
  | cons k r ih => exact Reps.cons Rep.int ih
theorem x_lrange3 (hc : X.calm = true) (hg : Gl X "list") (hm : X.mg "list" = none) (hg2 : Gl X "range") (hm2 : X.mg "range" = none) (ha : PA X [a, b, c] (tA X.K [f, g, h]))
    (hs : starEach [a, b, c] X.env = (false, eval a X.env) :: starEach [b, c] X.env := by rfl) (hpl : (backTo pos (starEach [b, c] X.env)).any (·.1) = false := by rfl)
    (na : starEach [.Call (.Name "range" p) [a, b, c] [] pos] X.env = (false, eval (.Call (.Name "range" p) [a, b, c] [] pos) X.env) :: starEach [] X.env := by rfl) :
    PE X (.Call (.Name "list" p2) [.Call (.Name "range" p) [a, b, c] [] pos] [] pos2) (tX X.K (eLRange [f, g, h])) := by
  refine ⟨fun pins s σV H Q I q => ?_⟩
  obtain ⟨μ, σ, st, z, st', rel, e, q⟩ := q
  obtain ⟨x, st1, e1, e⟩ := bind_ok e
  split at e
  · rename_i hl
    injection e with h1 h2; subst h1 h2
    refine Call_ (ld_blt I hg hm boot_list (PyProof.Rows.callWith_type1 (args_cons (thn (rangeC_of ha hg2 hm2 hs hpl I rel e1) fun y s1 ⟨r, i, j, k, n, t, u, v, H1, μ1, ex, hr, rg, ep, I1, l1, c1⟩ => args_nil ?_) na) na))
    subst ex ep
    have hln : n ≤ 2 ^ 24 := by
      have := line_le hl
      rw [irange_len] at this
      exact this
    refine call_list_range (n := n) (I1.ok.hd hc) hr rg.2.2.1 rg.2.2.2 hln fun h' tk acc c' hk e' hi => ?_
    have hp : H1 s1.heap.objs.size = none := I1.hok.fresh (Nat.le_refl _)
    refine ⟨.ref s1.heap.objs.size, upd H1 s1.heap.objs.size (.lst ((List.range n).map fun (i' : Nat) => V.int (i + (i' : Int) * k))), I1.laid hk (Nat.le_refl _) (show ObjOk X.prog X.w _ _ _ (.lst _) from ⟨?_, acc.toList, c', vals_rgC hi, ?_⟩), rfl, q μ1 _ _ (l1.trans (Le.new c1 hp)) (c1.new hp) (RepV.d (Rep.newLst c1 hp reps_rgC))⟩
    · rw [List.length_map, List.length_range]; exact hln
    · rw [Array.toArray_toList]; exact e'
  · cases e
/-! ### keywords of what is built in -/
def rDKs (K : PySem.W.Frag) (F : List D → List D → Option D) : List V → List V → Hp → VK → Prop := fun xs zs H Q => ∃ μ st ds es dz, Cfg K μ st H ∧ RepRs K (Live μ) H ds xs ∧ RepRs K (Live μ) H es zs ∧ F ds es = some dz ∧ ∀ H' v, Le μ H μ H' → Cfg K μ st H' → Rep K (Live μ) H' dz v → Q v H'
theorem x_callBK {x : Str} {id : String} {ks : List Str} {F : List D → List D → Option D} (hc : CallRK X (.builtin id) ks (rDKs X.K F)) (hg : Gl X x) (hm : X.mg x = none) (hv : bootBuiltins x = some (.builtin id)) (ha : PA X (e :: es) (tA X.K fs)) (hk : PK X kws (tA X.K gs)) (hn : x ≠ "__name__" := by decide) (hdb : (x == ("__debug__" : Str)) = false := by decide)
    (he : backTo pos (starEach (e :: es) X.env) = (false, eval e X.env) :: backTo pos (starEach es X.env) := by rfl) (hpl : (backTo pos (starEach (e :: es) X.env)).any (·.1) = false := by rfl)
    (hall : (backToKw pos (keywordEach kws X.env)).all (·.1.isSome) = true := by rfl) (hnone : (backToKw pos (keywordEach kws X.env)).any (·.1.isNone) = false := by rfl) (hks : (backToKw pos (keywordEach kws X.env)).filterMap (·.1) = ks := by rfl) :
    PE X (.Call (.Name x p) (e :: es) kws pos) (tX X.K (eCallK1 F fs gs)) :=
  (pe_callBK hc hg hm hv ha hk hn hdb he hpl hall hnone hks).weak fun σV H Q q => by
    obtain ⟨μ, σ, st, z, st', rel, e, q⟩ := q
    obtain ⟨xs, st1, e1, e⟩ := bind_ok e
    obtain ⟨ys, st2, e2, e⟩ := bind_ok e
    refine ⟨μ, σ, st, xs, st1, rel, e1, fun μ1 H1 vs l1 c1 r1 => ?_⟩
    refine ⟨μ1, σ, st1, ys, st2, rel.mono l1 c1, e2, fun μ2 H2 ws l2 c2 r2 => ?_⟩
    cases d1 : rdAll st2 xs with
    | none => simp [d1] at e
    | some ds =>
      cases d2 : rdAll st2 ys with
      | none => simp [d1, d2] at e
      | some es =>
        simp only [d1, d2] at e
        obtain ⟨dz, ef, rfl, rfl⟩ := ofO_ok e
        exact ⟨μ2, _, ds, es, dz, c2, rdAll_rep c2 (RepVs.mono l2 r1) d1, rdAll_rep c2 r2 d2, ef, fun H' v l3 c3 r3 => q μ2 H' v (l1.trans (l2.trans l3)) c3 (RepV.d r3)⟩
theorem depth_ints : ∀ ns : List Int, PyData.depthAll (ns.map .int) = 0
  | [] => rfl
  | n :: r => by simp [PyData.depthAll, PyData.depth, depth_ints r]
theorem alike_ints (ns : List Int) : PySem.W.AlikeAll (ns.map .int) := by
  refine ⟨fun x hx y hy => ?_, fun x hx => ?_⟩
  · obtain ⟨i, _, rfl⟩ := List.mem_map.mp hx
    obtain ⟨j, _, rfl⟩ := List.mem_map.mp hy
    rfl
  · obtain ⟨i, _, rfl⟩ := List.mem_map.mp hx
    intro z; cases z
theorem foldl_max : ∀ (ns : List Int) (n : Int), ns.foldl max n = maxI (n :: ns)
  | [], n => rfl
  | m :: r, n => by
    rw [List.foldl_cons, foldl_max r (max n m)]
    cases r with
    | nil => rfl
    | cons k r =>
      show max (max n m) (maxI (k :: r)) = max n (max m (maxI (k :: r)))
      omega
theorem atom_rep {K : PySem.W.Frag} {M : Addr → Prop} {H : Hp} {d : D} {v : V} (h : atomI d = true) (r : RepR K M H d v) : Rep K M H d v := by
  cases d <;> first | exact r | cases h
theorem c_maxD (hc : X.calm = true) (hu : X.A.units + 64 < cLine) : CallRK X (.builtin "max") [Str.ofString "default"] (rDKs X.K FmaxD) := by
  intro pins s σ H xs zs us ws Q I r rz hq
  obtain ⟨μ, st, ds, es, dz, cf, r1, r2, e, q⟩ := hq
  unfold FmaxD at e
  split at e
  · rename_i ys d
    split at e
    · rename_i ha
      obtain ⟨v, rfl, q1⟩ := one_of r1
      obtain ⟨w, rfl, q2⟩ := one_of r2
      obtain ⟨a, vs, rfl, s1, p1⟩ := q1.lst
      rw [Vals.ref1 r]
      cases rz with
      | cons rw0 rr =>
        cases rr
        rename_i wv
        cases e1 : allI ys with
        | none => rw [e1] at e; cases e
        | some ns =>
          rw [e1] at e
          have ev := allI_rep p1 e1
          subst ev
          obtain ⟨its, rv, hl, _⟩ := I.list s1
          have hi := rv.ints
          refine PySem.W.max_list_default (xs := ns.map .int) (as := []) (I.ok.hd hc) hl.isList (by simpa using hi.reads _) (alike_ints ns) (by rw [depth_ints]; omega) (fun hz h' tk hk => ?_) (fun y ys' i v h' tk bs hz hv hR hk => ?_)
          · cases ns with
            | nil =>
              injection e with e; subst e
              exact ⟨w, H, I.kept hk, rw0, q H w leq cf (atom_rep ha q2)⟩
            | cons n ns => simp at hz
          · cases ns with
            | nil => cases hz
            | cons n ns =>
              injection e with e; subst e
              injection hz with z1 z2
              subst z1 z2
              rw [PySem.W.maxD_ints, foldl_max] at hR
              cases hR
              exact ⟨.int _, H, I.kept hk, ⟨_, rfl⟩, q H _ leq cf Rep.int⟩
    · cases e
  · cases e
end
end PX

/-! PXS: rules by which the plain functions are run by simp: no function under a lambda is looked at ahead of its turn. -/
namespace PX
open PySem
theorem line_of {n : Nat} (h : n ≤ 16777216) : line n = true := by
  unfold line; exact decide_eq_true h
section
variable {f g h : Ex} {fs : List Ex} {σ : Env} {st : Store} {x y z : VV}
/-! ### reads -/
@[simp] theorem rd_d {st : Store} {x : D} : rd st (.d x) = some x := (rfl)
theorem rd_loc {st : Store} {n : Nat} {xs : List D} (h : st[n]? = some (.lst xs)) : rd st (.loc n) = some (.lst xs) := by simp [rd, h]
theorem rd_locd {st : Store} {n : Nat} {xs : List (D × D)} (h : st[n]? = some (.dct xs)) : rd st (.loc n) = some (.dct xs) := by simp [rd, h]
def rdM : Option MO → Option D
  | some (.lst xs) => some (.lst xs)
  | some (.dct xs) => some (.dct xs)
  | _ => none
@[simp] theorem rd_l {st : Store} {n : Nat} : rd st (.loc n) = rdM st[n]? := by
  unfold rd rdM; rfl
@[simp] theorem rdM_l {xs : List D} : rdM (some (.lst xs)) = some (.lst xs) := (rfl)
@[simp] theorem rdM_d {xs : List (D × D)} : rdM (some (.dct xs)) = some (.dct xs) := (rfl)
@[simp] theorem ofO_some {d : D} : ofO (some d) st = .ok (.d d) st := (rfl)
@[simp] theorem ofO_none : ofO none st = .fail := (rfl)
/-! ### names -/
def varK (o : Option VV) (st : Store) : Out VV := match o with
  | some x => .ok x st
  | none => .fail
@[simp] theorem varK_some : varK (some x) st = .ok x st := (rfl)
@[simp] theorem eVar_zero {o : Option VV} : eVar 0 (o :: σ) st = varK o st := by cases o <;> rfl
@[simp] theorem eVar_succ {i : Nat} {o : Option VV} : eVar (i + 1) (o :: σ) st = eVar i σ st := by unfold eVar; rfl
def frzK (o : Option VV) (st : Store) : Out VV := eFrz 0 [o] st
@[simp] theorem frzK_d {d : D} : frzK (some (.d d)) st = .ok (.d d) st := (rfl)
def frzM (n : Nat) (o : Option MO) (st : Store) : Out VV := match o with
  | some (.lst xs) => .ok (.d (.lst xs)) (st.set n .dead)
  | some (.dct xs) => .ok (.d (.dct xs)) (st.set n .dead)
  | _ => .fail
@[simp] theorem frzK_l {n : Nat} : frzK (some (.loc n)) st = frzM n st[n]? st := by
  show (match st[n]? with | some (.lst xs) => _ | some (.dct kvs) => _ | _ => _) = _
  unfold frzM; rfl
@[simp] theorem frzM_l {n : Nat} {xs : List D} : frzM n (some (.lst xs)) st = .ok (.d (.lst xs)) (st.set n .dead) := (rfl)
@[simp] theorem frzM_d {n : Nat} {xs : List (D × D)} : frzM n (some (.dct xs)) st = .ok (.d (.dct xs)) (st.set n .dead) := (rfl)
@[simp] theorem eFrz_zero {o : Option VV} : eFrz 0 (o :: σ) st = frzK o st := by unfold frzK eFrz; rfl
@[simp] theorem eFrz_succ {i : Nat} {o : Option VV} : eFrz (i + 1) (o :: σ) st = eFrz i σ st := by unfold eFrz; rfl
@[simp] theorem eC_eq {d : D} : eC d σ st = .ok (.d d) st := (rfl)
/-! ### two values -/
def bin3 (F : D → D → Option D) (a b : Option D) (st : Store) : Out VV := match a, b with
  | some dx, some dy => ofO (F dx dy) st
  | _, _ => .fail
def binC2 (F : D → D → Option D) (x y : VV) (st : Store) : Out VV := bin3 F (rd st x) (rd st y) st
def binC (F : D → D → Option D) (g : Ex) (σ : Env) (x : VV) (st : Store) : Out VV := (g σ st).bind (binC2 F x)
@[simp] theorem bin3_some {F : D → D → Option D} {a b : D} : bin3 F (some a) (some b) st = ofO (F a b) st := (rfl)
@[simp] theorem binC2_eq {F : D → D → Option D} : binC2 F x y st = bin3 F (rd st x) (rd st y) st := (rfl)
@[simp] theorem binC_eq {F : D → D → Option D} : binC F g σ x st = (g σ st).bind (binC2 F x) := (rfl)
@[simp] theorem eBin_eq {F : D → D → Option D} : eBin F f g σ st = (f σ st).bind (binC F g σ) := by
  unfold eBin; congr 1
def unK (F : D → Option D) (a : Option D) (st : Store) : Out VV := match a with
  | some dx => ofO (F dx) st
  | none => .fail
def unC (F : D → Option D) (x : VV) (st : Store) : Out VV := unK F (rd st x) st
@[simp] theorem unK_some {F : D → Option D} {a : D} : unK F (some a) st = ofO (F a) st := (rfl)
@[simp] theorem unC_eq {F : D → Option D} : unC F x st = unK F (rd st x) st := (rfl)
@[simp] theorem eUn_eq {F : D → Option D} : eUn F f σ st = (f σ st).bind (unC F) := (rfl)
/-! ### tests -/
def isNC (x : VV) (st : Store) : Out VV := match x with
  | .d .non => .ok (.d (.bl true)) st
  | .fn _ => .fail
  | _ => .ok (.d (.bl false)) st
def notNC (x : VV) (st : Store) : Out VV := match x with
  | .d .non => .ok (.d (.bl false)) st
  | .fn _ => .fail
  | _ => .ok (.d (.bl true)) st
@[simp] theorem eIsN_eq : eIsN f σ st = (f σ st).bind isNC := (rfl)
@[simp] theorem eNotN_eq : eNotN f σ st = (f σ st).bind notNC := (rfl)
@[simp] theorem isNC_non : isNC (.d .non) st = .ok (.d (.bl true)) st := (rfl)
@[simp] theorem isNC_bl {b : Bool} : isNC (.d (.bl b)) st = .ok (.d (.bl false)) st := (rfl)
@[simp] theorem isNC_int {b : Int} : isNC (.d (.int b)) st = .ok (.d (.bl false)) st := (rfl)
@[simp] theorem isNC_str {b : List Nat} : isNC (.d (.str b)) st = .ok (.d (.bl false)) st := (rfl)
@[simp] theorem isNC_tup {b : List D} : isNC (.d (.tup b)) st = .ok (.d (.bl false)) st := (rfl)
@[simp] theorem isNC_lst {b : List D} : isNC (.d (.lst b)) st = .ok (.d (.bl false)) st := (rfl)
@[simp] theorem isNC_loc {b : Nat} : isNC (.loc b) st = .ok (.d (.bl false)) st := (rfl)
@[simp] theorem notNC_non : notNC (.d .non) st = .ok (.d (.bl false)) st := (rfl)
@[simp] theorem notNC_bl {b : Bool} : notNC (.d (.bl b)) st = .ok (.d (.bl true)) st := (rfl)
@[simp] theorem notNC_int {b : Int} : notNC (.d (.int b)) st = .ok (.d (.bl true)) st := (rfl)
@[simp] theorem notNC_str {b : List Nat} : notNC (.d (.str b)) st = .ok (.d (.bl true)) st := (rfl)
@[simp] theorem notNC_tup {b : List D} : notNC (.d (.tup b)) st = .ok (.d (.bl true)) st := (rfl)
@[simp] theorem notNC_lst {b : List D} : notNC (.d (.lst b)) st = .ok (.d (.bl true)) st := (rfl)
@[simp] theorem notNC_loc {b : Nat} : notNC (.loc b) st = .ok (.d (.bl true)) st := (rfl)
def teK (o : Option Bool) (st : Store) : Out Bool := match o with
  | some b => .ok b st
  | none => .fail
def teC (x : VV) (st : Store) : Out Bool := teK ((rd st x).bind truth) st
@[simp] theorem teK_some {b : Bool} : teK (some b) st = .ok b st := (rfl)
@[simp] theorem teC_eq : teC x st = teK ((rd st x).bind truth) st := (rfl)
@[simp] theorem tE_eq : tE f σ st = (f σ st).bind teC := (rfl)
@[simp] theorem truth_non : truth .non = some false := (rfl)
@[simp] theorem truth_bl {b : Bool} : truth (.bl b) = some b := (rfl)
@[simp] theorem truth_int {b : Int} : truth (.int b) = some (b != 0) := (rfl)
@[simp] theorem truth_tup {b : List D} : truth (.tup b) = some (!b.isEmpty) := (rfl)
@[simp] theorem truth_lst {b : List D} : truth (.lst b) = some (!b.isEmpty) := (rfl)
@[simp] theorem truth_scr {b : List Int} : truth (.scr b) = some (!b.isEmpty) := (rfl)
variable {s t : Tx}
def andC (t : Tx) (σ : Env) (b : Bool) (st : Store) : Out Bool := if b then t σ st else .ok false st
def orC (t : Tx) (σ : Env) (b : Bool) (st : Store) : Out Bool := if b then .ok true st else t σ st
def notC (b : Bool) (st : Store) : Out Bool := .ok (!b) st
@[simp] theorem tAnd_eq : tAnd' s t σ st = (s σ st).bind (andC t σ) := (rfl)
@[simp] theorem tOr_eq : tOr' s t σ st = (s σ st).bind (orC t σ) := (rfl)
@[simp] theorem tNot_eq : tNot' s σ st = (s σ st).bind notC := (rfl)
@[simp] theorem andC_t : andC t σ true st = t σ st := (rfl)
@[simp] theorem andC_f : andC t σ false st = .ok false st := (rfl)
@[simp] theorem orC_t : orC t σ true st = .ok true st := (rfl)
@[simp] theorem orC_f : orC t σ false st = t σ st := (rfl)
@[simp] theorem notC_eq {b : Bool} : notC b st = .ok (!b) st := (rfl)
def eAndK (g : Ex) (σ : Env) (x : VV) (o : Option Bool) (st : Store) : Out VV := match o with
  | some true => g σ st
  | some false => .ok x st
  | none => .fail
def eAndC (g : Ex) (σ : Env) (x : VV) (st : Store) : Out VV := eAndK g σ x ((rd st x).bind truth) st
@[simp] theorem eAnd_eq : eAnd f g σ st = (f σ st).bind (eAndC g σ) := by
  unfold eAnd; congr 1
@[simp] theorem eAndC_eq : eAndC g σ x st = eAndK g σ x ((rd st x).bind truth) st := (rfl)
@[simp] theorem eAndK_t : eAndK g σ x (some true) st = g σ st := (rfl)
@[simp] theorem eAndK_f : eAndK g σ x (some false) st = .ok x st := (rfl)
def eOrK (g : Ex) (σ : Env) (x : VV) (o : Option Bool) (st : Store) : Out VV := match o with
  | some true => .ok x st
  | some false => g σ st
  | none => .fail
def eOrC (g : Ex) (σ : Env) (x : VV) (st : Store) : Out VV := eOrK g σ x ((rd st x).bind truth) st
@[simp] theorem eOr_eq : eOr f g σ st = (f σ st).bind (eOrC g σ) := by
  unfold eOr; congr 1
@[simp] theorem eOrC_eq : eOrC g σ x st = eOrK g σ x ((rd st x).bind truth) st := (rfl)
@[simp] theorem eOrK_t : eOrK g σ x (some true) st = .ok x st := (rfl)
@[simp] theorem eOrK_f : eOrK g σ x (some false) st = g σ st := (rfl)
def eNotK (o : Option Bool) (st : Store) : Out VV := match o with
  | some b => .ok (.d (.bl (!b))) st
  | none => .fail
def eNotC (x : VV) (st : Store) : Out VV := eNotK ((rd st x).bind truth) st
@[simp] theorem eNot_eq : eNot f σ st = (f σ st).bind eNotC := (rfl)
@[simp] theorem eNotC_eq : eNotC x st = eNotK ((rd st x).bind truth) st := (rfl)
@[simp] theorem eNotK_some {b : Bool} : eNotK (some b) st = .ok (.d (.bl (!b))) st := (rfl)
def eIfC (f g : Ex) (σ : Env) (b : Bool) (st : Store) : Out VV := if b then f σ st else g σ st
@[simp] theorem eIf_eq : eIf s f g σ st = (s σ st).bind (eIfC f g σ) := (rfl)
@[simp] theorem eIfC_t : eIfC f g σ true st = f σ st := (rfl)
@[simp] theorem eIfC_f : eIfC f g σ false st = g σ st := (rfl)
/-! ### a < b < c -/
section
variable {F G : D → D → Option D}
def ch4 (G : D → D → Option D) (a b : Option D) (st : Store) : Out VV := match a, b with
  | some dy, some dz => ofO (match G dy dz with | some (.bl b) => some (.bl b) | _ => none) st
  | _, _ => .fail
def ch3 (G : D → D → Option D) (y z : VV) (st : Store) : Out VV := ch4 G (rd st y) (rd st z) st
def ch2 (G : D → D → Option D) (h : Ex) (σ : Env) (y : VV) (o : Option D) (st : Store) : Out VV := match o with
  | some (.bl true) => (h σ st).bind (ch3 G y)
  | some (.bl false) => .ok (.d (.bl false)) st
  | _ => .fail
def ch1 (F G : D → D → Option D) (h : Ex) (σ : Env) (y : VV) (a b : Option D) (st : Store) : Out VV := match a, b with
  | some dx, some dy => ch2 G h σ y (F dx dy) st
  | _, _ => .fail
def chC2 (F G : D → D → Option D) (h : Ex) (σ : Env) (x y : VV) (st : Store) : Out VV := ch1 F G h σ y (rd st x) (rd st y) st
def chC (F G : D → D → Option D) (g h : Ex) (σ : Env) (x : VV) (st : Store) : Out VV := (g σ st).bind (chC2 F G h σ x)
@[simp] theorem eChain_eq : eChain F G f g h σ st = (f σ st).bind (chC F G g h σ) := by
  unfold eChain; congr 1
@[simp] theorem chC_eq : chC F G g h σ x st = (g σ st).bind (chC2 F G h σ x) := (rfl)
@[simp] theorem chC2_eq : chC2 F G h σ x y st = ch1 F G h σ y (rd st x) (rd st y) st := (rfl)
@[simp] theorem ch1_eq {a b : D} : ch1 F G h σ y (some a) (some b) st = ch2 G h σ y (F a b) st := (rfl)
@[simp] theorem ch2_t : ch2 G h σ y (some (.bl true)) st = (h σ st).bind (ch3 G y) := (rfl)
@[simp] theorem ch2_f : ch2 G h σ y (some (.bl false)) st = .ok (.d (.bl false)) st := (rfl)
@[simp] theorem ch3_eq : ch3 G y z st = ch4 G (rd st y) (rd st z) st := (rfl)
@[simp] theorem ch4_eq {a b : D} : ch4 G (some a) (some b) st = ofO (match G a b with | some (.bl b) => some (.bl b) | _ => none) st := (rfl)
end
/-! ### arguments -/
def argC2 (x : VV) (xs : List VV) (st : Store) : Out (List VV) := .ok (x :: xs) st
def argC (fs : List Ex) (σ : Env) (x : VV) (st : Store) : Out (List VV) := (eArgs fs σ st).bind (argC2 x)
@[simp] theorem eArgs_nil : eArgs [] σ st = .ok [] st := (rfl)
@[simp] theorem eArgs_cons : eArgs (f :: fs) σ st = (f σ st).bind (argC fs σ) := (rfl)
@[simp] theorem argC_eq : argC fs σ x st = (eArgs fs σ st).bind (argC2 x) := (rfl)
@[simp] theorem argC2_eq {xs : List VV} : argC2 x xs st = .ok (x :: xs) st := (rfl)
@[simp] theorem allD_nil : allD [] = some [] := (rfl)
@[simp] theorem allD_cons {d : D} {r : List VV} : allD (.d d :: r) = (allD r).map (d :: ·) := (rfl)
def tupK (o : Option (List D)) (st : Store) : Out VV := match o with
  | some ds => if line ds.length then .ok (.d (.tup ds)) st else .fail
  | none => .fail
def tupC (xs : List VV) (st : Store) : Out VV := tupK (allD xs) st
@[simp] theorem eTup_eq : eTup fs σ st = (eArgs fs σ st).bind tupC := (rfl)
@[simp] theorem tupC_eq {xs : List VV} : tupC xs st = tupK (allD xs) st := (rfl)
def lstK (o : Option (List D)) (st : Store) : Out VV := match o with
  | some ds => if line ds.length then .ok (.d (.lst ds)) st else .fail
  | none => .fail
def lstC (xs : List VV) (st : Store) : Out VV := lstK (allD xs) st
@[simp] theorem eLst_eq : eLst fs σ st = (eArgs fs σ st).bind lstC := (rfl)
@[simp] theorem lstC_eq {xs : List VV} : lstC xs st = lstK (allD xs) st := (rfl)
def newK (o : Option (List D)) (st : Store) : Out VV := match o with
  | some ds => if line ds.length then .ok (.loc st.length) (st ++ [.lst ds]) else .fail
  | none => .fail
def newC (xs : List VV) (st : Store) : Out VV := newK (allD xs) st
@[simp] theorem eNew_eq : eNew fs σ st = (eArgs fs σ st).bind newC := (rfl)
@[simp] theorem newC_eq {xs : List VV} : newC xs st = newK (allD xs) st := (rfl)
@[simp] theorem tupK_some {ds : List D} (h : ds.length ≤ 16777216) : tupK (some ds) st = .ok (.d (.tup ds)) st := by
  unfold tupK; simp [line_of h]
@[simp] theorem lstK_some {ds : List D} (h : ds.length ≤ 16777216) : lstK (some ds) st = .ok (.d (.lst ds)) st := by
  unfold lstK; simp [line_of h]
@[simp] theorem newK_some {ds : List D} (h : ds.length ≤ 16777216) : newK (some ds) st = .ok (.loc st.length) (st ++ [.lst ds]) := by
  unfold newK; simp [line_of h]
/-! ### arithmetic -/
@[simp] theorem Fadd_int {i j : Int} : Fadd (.int i) (.int j) = some (.int (i + j)) := (rfl)
@[simp] theorem Fadd_str {a b : List Nat} (h : a.length + b.length ≤ 16777216) : Fadd (.str a) (.str b) = some (.str (a ++ b)) := by
  unfold Fadd; simp [line_of h]
@[simp] theorem Fadd_tup {a b : List D} (h : a.length + b.length ≤ 16777216) : Fadd (.tup a) (.tup b) = some (.tup (a ++ b)) := by
  unfold Fadd; simp [line_of h]
@[simp] theorem Fadd_lst {a b : List D} (h : a.length + b.length ≤ 16777216) : Fadd (.lst a) (.lst b) = some (.lst (a ++ b)) := by
  unfold Fadd; simp [line_of h]
@[simp] theorem Fsub_int {i j : Int} : Fsub (.int i) (.int j) = some (.int (i - j)) := (rfl)
theorem Fmul_l {i j : Int} (h : -18446744073709551616 < i ∧ i < 18446744073709551616) : Fmul (.int i) (.int j) = some (.int (i * j)) := by
  have : small64 i = true := by unfold small64; simpa using h
  simp [Fmul, this]
theorem Fmul_r {i j : Int} (h : -18446744073709551616 < j ∧ j < 18446744073709551616) : Fmul (.int i) (.int j) = some (.int (i * j)) := by
  have : small64 j = true := by unfold small64; simpa using h
  simp [Fmul, this]
@[simp] theorem Fdiv_int {i j : Int} (h : 0 < j ∧ j < 1073741824) : Fdiv (.int i) (.int j) = some (.int (i / j)) := by
  simp [Fdiv, h.1, h.2]
@[simp] theorem Fmod_int {i j : Int} (h : 0 < j) : Fmod (.int i) (.int j) = some (.int (i % j)) := by
  simp [Fmod, h]
@[simp] theorem Fneg_int {i : Int} : Fneg (.int i) = some (.int (-i)) := (rfl)
@[simp] theorem Flt_int {i j : Int} : Flt (.int i) (.int j) = some (.bl (decide (i < j))) := (rfl)
@[simp] theorem Fle_int {i j : Int} : Fle (.int i) (.int j) = some (.bl (decide (i ≤ j))) := (rfl)
@[simp] theorem Fgt_int {i j : Int} : Fgt (.int i) (.int j) = some (.bl (decide (j < i))) := (rfl)
@[simp] theorem Fge_int {i j : Int} : Fge (.int i) (.int j) = some (.bl (decide (j ≤ i))) := (rfl)
theorem okD_int {i : Int} : okD (.int i) = true := rfl
@[simp] theorem Feq_int {i j : Int} : Feq (.int i) (.int j) = some (.bl (decide (i = j))) := by
  have : eqD (.int i) (.int j) = decide (i = j) := by unfold eqD; rfl
  unfold Feq; rw [this]; rfl
@[simp] theorem Fne_int {i j : Int} : Fne (.int i) (.int j) = some (.bl (!decide (i = j))) := by
  have : eqD (.int i) (.int j) = decide (i = j) := by unfold eqD; rfl
  unfold Fne; rw [this]; rfl
theorem Feq_ok {a b : D} (ha : okD a = true) (hb : okD b = true) : Feq a b = some (.bl (eqD a b)) := by simp [Feq, ha, hb]
theorem Fne_ok {a b : D} (ha : okD a = true) (hb : okD b = true) : Fne a b = some (.bl (!eqD a b)) := by simp [Fne, ha, hb]
@[simp] theorem Fin_str {c : Nat} {b : List Nat} : Fin (.str [c]) (.str b) = some (.bl (decide (c ∈ b))) := (rfl)
@[simp] theorem Fnin_str {c : Nat} {b : List Nat} : Fnin (.str [c]) (.str b) = some (.bl (!decide (c ∈ b))) := (rfl)
/-! ### equality of data -/
mutual
/-- data without texts out of range, numbers that are truths, or what == is not known of -/
def pure1 : D → Bool
  | .non | .bl _ | .int _ | .str _ => true
  | .tup xs => pures xs
  | .lst xs => pures xs
  | _ => false
def pures : List D → Bool
  | [] => true
  | x :: r => pure1 x && pures r
end
/-! ### places, slices -/
@[simp] theorem Fix_lst {xs : List D} {i : Int} : Fix (.lst xs) (.int i) = (ixI xs.length i).bind fun j => xs[j]? := (rfl)
@[simp] theorem Fix_tup {xs : List D} {i : Int} : Fix (.tup xs) (.int i) = (ixI xs.length i).bind fun j => xs[j]? := (rfl)
@[simp] theorem Fix_scr {xs : List Int} {i : Int} : Fix (.scr xs) (.int i) = (ixI xs.length i).bind fun j => (xs[j]?).map .int := (rfl)
@[simp] theorem Fix_str {s : List Nat} {i : Int} (h : s.length ≤ 16777216) : Fix (.str s) (.int i) = (ixI s.length i).bind fun j => (s[j]?).map fun c => .str [c] := by
  unfold Fix; simp [line_of h]
@[simp] theorem Fcut_lst {xs : List D} {l h : Option Int} : Fcut (.lst xs) l h = some (.lst (cut xs l h)) := (rfl)
@[simp] theorem Fcut_tup {xs : List D} {l h : Option Int} : Fcut (.tup xs) l h = some (.tup (cut xs l h)) := (rfl)
@[simp] theorem Fcut_scr {xs : List Int} {l h : Option Int} : Fcut (.scr xs) l h = some (.lst ((cut xs l h).map .int)) := (rfl)
@[simp] theorem Fcut_str {s : List Nat} {l h : Option Int} (hl : s.length ≤ 16777216) : Fcut (.str s) l h = some (.str (cut s l h)) := by
  unfold Fcut; simp [line_of hl]
variable {p q : Px}
def pC (x : VV) (st : Store) : Out (Option Int) := match x with
  | .d (.int i) => .ok (some i) st
  | _ => .fail
@[simp] theorem pNone_eq : pNone σ st = .ok none st := (rfl)
@[simp] theorem pSome_eq : pSome f σ st = (f σ st).bind pC := (rfl)
@[simp] theorem pC_int {i : Int} : pC (.d (.int i)) st = .ok (some i) st := (rfl)
def cutK (l h : Option Int) (o : Option D) (st : Store) : Out VV := match o with
  | some dx => ofO (Fcut dx l h) st
  | none => .fail
def cutC3 (x : VV) (l : Option Int) (h : Option Int) (st : Store) : Out VV := cutK l h (rd st x) st
def cutC2 (x : VV) (q : Px) (σ : Env) (l : Option Int) (st : Store) : Out VV := (q σ st).bind (cutC3 x l)
def cutC (p q : Px) (σ : Env) (x : VV) (st : Store) : Out VV := (p σ st).bind (cutC2 x q σ)
@[simp] theorem eCut_eq : eCut f p q σ st = (f σ st).bind (cutC p q σ) := by
  unfold eCut; congr 1
@[simp] theorem cutC_eq : cutC p q σ x st = (p σ st).bind (cutC2 x q σ) := (rfl)
@[simp] theorem cutC2_eq {l : Option Int} : cutC2 x q σ l st = (q σ st).bind (cutC3 x l) := (rfl)
@[simp] theorem cutC3_eq {l h : Option Int} : cutC3 x l h st = cutK l h (rd st x) st := (rfl)
@[simp] theorem cutK_some {l h : Option Int} {a : D} : cutK l h (some a) st = ofO (Fcut a l h) st := (rfl)
/-! ### calls of what is built in -/
def rdsK (a : Option D) (r : Option (List D)) : Option (List D) := match a, r with
  | some d, some ds => some (d :: ds)
  | _, _ => none
@[simp] theorem rdAll_nil : rdAll st [] = some [] := (rfl)
@[simp] theorem rdAll_cons {r : List VV} : rdAll st (x :: r) = rdsK (rd st x) (rdAll st r) := by
  unfold rdsK; conv => lhs; unfold rdAll
  try rfl
@[simp] theorem rdsK_some {d : D} {r : List D} : rdsK (some d) (some r) = some (d :: r) := (rfl)
def c1K (F : List D → Option D) (o : Option (List D)) (st : Store) : Out VV := match o with
  | some ds => ofO (F ds) st
  | none => .fail
def c1C (F : List D → Option D) (xs : List VV) (st : Store) : Out VV := c1K F (rdAll st xs) st
@[simp] theorem eCall1_eq {F : List D → Option D} : eCall1 F fs σ st = (eArgs fs σ st).bind (c1C F) := (rfl)
@[simp] theorem c1C_eq {F : List D → Option D} {xs : List VV} : c1C F xs st = c1K F (rdAll st xs) st := (rfl)
@[simp] theorem c1K_some {F : List D → Option D} {ds : List D} : c1K F (some ds) st = ofO (F ds) st := (rfl)
@[simp] theorem Flen_lst {xs : List D} : Flen [.lst xs] = some (.int xs.length) := (rfl)
@[simp] theorem Flen_tup {xs : List D} : Flen [.tup xs] = some (.int xs.length) := (rfl)
@[simp] theorem Flen_scr {xs : List Int} : Flen [.scr xs] = some (.int xs.length) := (rfl)
@[simp] theorem Flen_str {s : List Nat} (h : s.length ≤ 16777216) : Flen [.str s] = some (.int s.length) := by
  unfold Flen; simp [line_of h]
theorem allI_map {α : Type} (F : α → Int) : ∀ xs : List α, allI (xs.map fun a => .int (F a)) = some (xs.map F)
  | [] => rfl
  | a :: r => by simp [allI, allI_map F r]
theorem allI_int : ∀ xs : List Int, allI (xs.map .int) = some xs
  | [] => rfl
  | a :: r => by simp [allI, allI_int r]
theorem allB_map {α : Type} (F : α → Bool) : ∀ xs : List α, allB (xs.map fun a => .bl (F a)) = some (xs.map F)
  | [] => rfl
  | a :: r => by simp [allB, allB_map F r]
theorem allS_map {α : Type} (F : α → List Nat) : ∀ xs : List α, allS (xs.map fun a => .str (F a)) = some (xs.map F)
  | [] => rfl
  | a :: r => by simp [allS, allS_map F r]
@[simp] theorem Fsum_eq {xs : List D} : Fsum [.lst xs] = (allI xs).map fun ns => .int ns.sum := (rfl)
@[simp] theorem Fall_eq {xs : List D} : Fall [.lst xs] = (allB xs).map fun bs => .bl (bs.all id) := (rfl)
@[simp] theorem Fany_eq {xs : List D} : Fany [.lst xs] = (allB xs).map fun bs => .bl (bs.any id) := (rfl)
@[simp] theorem Fmax_2 {i j : Int} : Fmax [.int i, .int j] = some (.int (max i j)) := by
  simp only [Fmax]; congr 2; split <;> omega
@[simp] theorem Fmin_2 {i j : Int} : Fmin [.int i, .int j] = some (.int (min i j)) := by
  simp only [Fmin]; congr 2; split <;> omega
@[simp] theorem Fabs_int {i : Int} : Fabs [.int i] = some (.int (if i < 0 then -i else i)) := (rfl)
@[simp] theorem Fdivmod_int {i j : Int} (h : 0 < j ∧ j < 1073741824) : Fdivmod [.int i, .int j] = some (.tup [.int (i / j), .int (i % j)]) := by
  simp [Fdivmod, h.1, h.2]
@[simp] theorem Ftuple_lst {xs : List D} : Ftuple [.lst xs] = some (.tup xs) := (rfl)
@[simp] theorem Ftuple_tup {xs : List D} : Ftuple [.tup xs] = some (.tup xs) := (rfl)
@[simp] theorem Flist_lst {xs : List D} : Flist [.lst xs] = some (.lst xs) := (rfl)
@[simp] theorem Flist_tup {xs : List D} : Flist [.tup xs] = some (.lst xs) := (rfl)
@[simp] theorem Fint_int {i : Int} : Fint [.int i] = some (.int i) := (rfl)
/-! ### isinstance -/
def isK (t : Ty) (o : Option D) (st : Store) : Out VV := match o with
  | some (.scr _) => .fail
  | some d => .ok (.d (.bl (isTy d t))) st
  | none => .fail
def isC (t : Ty) (x : VV) (st : Store) : Out VV := isK t (rd st x) st
@[simp] theorem eIs_eq {t : Ty} : eIs f t σ st = (f σ st).bind (isC t) := by
  unfold eIs; congr 1
@[simp] theorem isC_eq {t : Ty} : isC t x st = isK t (rd st x) st := (rfl)
@[simp] theorem isK_non {t : Ty} : isK t (some .non) st = .ok (.d (.bl (isTy .non t))) st := (rfl)
@[simp] theorem isK_bl {t : Ty} {b : Bool} : isK t (some (.bl b)) st = .ok (.d (.bl (isTy (.bl b) t))) st := (rfl)
@[simp] theorem isK_int {t : Ty} {b : Int} : isK t (some (.int b)) st = .ok (.d (.bl (isTy (.int b) t))) st := (rfl)
@[simp] theorem isK_str {t : Ty} {b : List Nat} : isK t (some (.str b)) st = .ok (.d (.bl (isTy (.str b) t))) st := (rfl)
@[simp] theorem isK_tup {t : Ty} {b : List D} : isK t (some (.tup b)) st = .ok (.d (.bl (isTy (.tup b) t))) st := (rfl)
@[simp] theorem isK_lst {t : Ty} {b : List D} : isK t (some (.lst b)) st = .ok (.d (.bl (isTy (.lst b) t))) st := (rfl)
def isAK (ts : List Ty) (o : Option D) (st : Store) : Out VV := match o with
  | some (.scr _) => .fail
  | some d => .ok (.d (.bl (ts.any (isTy d)))) st
  | none => .fail
def isAC (ts : List Ty) (x : VV) (st : Store) : Out VV := isAK ts (rd st x) st
@[simp] theorem eIsAny_eq {ts : List Ty} : eIsAny f ts σ st = (f σ st).bind (isAC ts) := by
  unfold eIsAny; congr 1
@[simp] theorem isAC_eq {ts : List Ty} : isAC ts x st = isAK ts (rd st x) st := (rfl)
@[simp] theorem isAK_non {ts : List Ty} : isAK ts (some .non) st = .ok (.d (.bl (ts.any (isTy .non)))) st := (rfl)
@[simp] theorem isAK_bl {ts : List Ty} {b : Bool} : isAK ts (some (.bl b)) st = .ok (.d (.bl (ts.any (isTy (.bl b))))) st := (rfl)
@[simp] theorem isAK_int {ts : List Ty} {b : Int} : isAK ts (some (.int b)) st = .ok (.d (.bl (ts.any (isTy (.int b))))) st := (rfl)
@[simp] theorem isAK_str {ts : List Ty} {b : List Nat} : isAK ts (some (.str b)) st = .ok (.d (.bl (ts.any (isTy (.str b))))) st := (rfl)
@[simp] theorem isAK_tup {ts : List Ty} {b : List D} : isAK ts (some (.tup b)) st = .ok (.d (.bl (ts.any (isTy (.tup b))))) st := (rfl)
@[simp] theorem isAK_lst {ts : List Ty} {b : List D} : isAK ts (some (.lst b)) st = .ok (.d (.bl (ts.any (isTy (.lst b))))) st := (rfl)
theorem isTy_non {t : Ty} : isTy .non t = false := rfl
theorem isTy_bl {b : Bool} {t : Ty} : isTy (.bl b) t = (decide (t = .bool) || decide (t = .int)) := by cases t <;> rfl
theorem isTy_int {b : Int} {t : Ty} : isTy (.int b) t = decide (t = .int) := by cases t <;> rfl
theorem isTy_str {b : List Nat} {t : Ty} : isTy (.str b) t = decide (t = .str) := by cases t <;> rfl
theorem isTy_tup {b : List D} {t : Ty} : isTy (.tup b) t = decide (t = .tuple) := by cases t <;> rfl
theorem isTy_lst {b : List D} {t : Ty} : isTy (.lst b) t = decide (t = .list) := by cases t <;> rfl
/-! ### methods -/
variable {T : Ty} {M : D → List D → Option D}
def meK (M : D → List D → Option D) (o : Option D) (r : Option (List D)) (st : Store) : Out VV := match o, r with
  | some d, some ds => ofO (M d ds) st
  | _, _ => .fail
def meC2 (M : D → List D → Option D) (x : VV) (xs : List VV) (st : Store) : Out VV := meK M (rd st x) (rdAll st xs) st
def meI (b : Bool) (M : D → List D → Option D) (fs : List Ex) (σ : Env) (x : VV) (st : Store) : Out VV := if b then (eArgs fs σ st).bind (meC2 M x) else .fail
def tyK (o : Option D) (T : Ty) : Bool := match o with
  | some d => decide (tyOf d = some T)
  | none => false
def meC (T : Ty) (M : D → List D → Option D) (fs : List Ex) (σ : Env) (x : VV) (st : Store) : Out VV := meI (tyK (rd st x) T) M fs σ x st
@[simp] theorem eMeth_eq : eMeth T M f fs σ st = (f σ st).bind (meC T M fs σ) := by
  unfold eMeth; congr 1
@[simp] theorem meC_eq : meC T M fs σ x st = meI (tyK (rd st x) T) M fs σ x st := (rfl)
@[simp] theorem meI_t : meI true M fs σ x st = (eArgs fs σ st).bind (meC2 M x) := (rfl)
@[simp] theorem tyK_str {s : List Nat} : tyK (some (.str s)) .str = true := (rfl)
@[simp] theorem tyK_lst {s : List D} : tyK (some (.lst s)) .list = true := (rfl)
@[simp] theorem meC2_eq {xs : List VV} : meC2 M x xs st = meK M (rd st x) (rdAll st xs) st := (rfl)
@[simp] theorem meK_some {d : D} {ds : List D} : meK M (some d) (some ds) st = ofO (M d ds) st := (rfl)
@[simp] theorem MidxS_eq {s : List Nat} {c : Nat} (h : c ∈ s) : MidxS (.str s) [.str [c]] = some (.int (s.idxOf c)) := by simp [MidxS, h]
@[simp] theorem Mstarts_eq {s t : List Nat} : Mstarts (.str s) [.str t] = some (.bl (t.isPrefixOf s)) := (rfl)
def appK (n : Nat) (dy : D) (o : Option MO) (st : Store) : Out VV := match o with
  | some (.lst xs) => if decide (xs.length < sizeLine) then .ok (.d .non) (st.set n (.lst (xs ++ [dy]))) else .fail
  | _ => .fail
def appC2 (x y : VV) (st : Store) : Out VV := match x, y with
  | .loc n, .d dy => appK n dy st[n]? st
  | _, _ => .fail
def appI (b : Bool) (g : Ex) (σ : Env) (x : VV) (st : Store) : Out VV := if b then (g σ st).bind (appC2 x) else .fail
def appC (g : Ex) (σ : Env) (x : VV) (st : Store) : Out VV := appI (tyK (rd st x) .list) g σ x st
@[simp] theorem eApp_eq : eApp f g σ st = (f σ st).bind (appC g σ) := by
  unfold eApp; congr 1
@[simp] theorem appC_eq : appC g σ x st = appI (tyK (rd st x) .list) g σ x st := (rfl)
@[simp] theorem appI_t : appI true g σ x st = (g σ st).bind (appC2 x) := (rfl)
@[simp] theorem appC2_eq {n : Nat} {d : D} : appC2 (.loc n) (.d d) st = appK n d st[n]? st := (rfl)
@[simp] theorem appK_eq {n : Nat} {d : D} {xs : List D} (h : xs.length < 16777216) : appK n d (some (.lst xs)) st = .ok (.d .non) (st.set n (.lst (xs ++ [d]))) := by
  unfold appK; exact if_pos (decide_eq_true h)
def popK (n : Nat) (o : Option MO) (st : Store) : Out VV := match o with
  | some (.lst xs) => match xs[xs.length - 1]? with
    | some y => .ok (.d y) (st.set n (.lst xs.dropLast))
    | none => .fail
  | _ => .fail
def popC (x : VV) (st : Store) : Out VV := match x with
  | .loc n => popK n st[n]? st
  | _ => .fail
@[simp] theorem ePop_eq : ePop f σ st = (f σ st).bind popC := by
  unfold ePop; congr 1
@[simp] theorem popC_eq {n : Nat} : popC (.loc n) st = popK n st[n]? st := (rfl)
def extK (n : Nat) (ys : List D) (o : Option MO) (st : Store) : Out VV := match o with
  | some (.lst xs) => if line (xs.length + ys.length) then .ok (.d .non) (st.set n (.lst (xs ++ ys))) else .fail
  | _ => .fail
def extC2 (x y : VV) (st : Store) : Out VV := match x, y with
  | .loc n, .d (.lst ys) => extK n ys st[n]? st
  | _, _ => .fail
def extI (b : Bool) (g : Ex) (σ : Env) (x : VV) (st : Store) : Out VV := if b then (g σ st).bind (extC2 x) else .fail
def extC (g : Ex) (σ : Env) (x : VV) (st : Store) : Out VV := extI (tyK (rd st x) .list) g σ x st
@[simp] theorem eExt_eq : eExt f g σ st = (f σ st).bind (extC g σ) := by
  unfold eExt; congr 1
@[simp] theorem extC_eq : extC g σ x st = extI (tyK (rd st x) .list) g σ x st := (rfl)
@[simp] theorem extI_t : extI true g σ x st = (g σ st).bind (extC2 x) := (rfl)
@[simp] theorem extC2_eq {n : Nat} {d : List D} : extC2 (.loc n) (.d (.lst d)) st = extK n d st[n]? st := (rfl)
@[simp] theorem extK_eq {n : Nat} {d : List D} {xs : List D} (h : xs.length + d.length ≤ 16777216) : extK n d (some (.lst xs)) st = .ok (.d .non) (st.set n (.lst (xs ++ d))) := by
  unfold extK; exact if_pos (line_of h)
/-! ### walks -/
def itK (o : Option (List D)) (w : Option (Nat × MO)) (st : Store) : Out (List D × Option (Nat × MO)) := match o with
  | some ds => .ok (ds, w) st
  | none => .fail
def itM (n : Nat) (o : Option MO) (st : Store) : Out (List D × Option (Nat × MO)) := match o with
  | some (.lst xs) => .ok (xs, some (n, .lst xs)) st
  | _ => .fail
def itC (x : VV) (st : Store) : Out (List D × Option (Nat × MO)) := match x with
  | .d d => itK (itemsOf d) none st
  | .loc n => itM n st[n]? st
  | .fn _ => .fail
@[simp] theorem iE_eq : iE f σ st = (f σ st).bind itC := by
  unfold iE; congr 1
@[simp] theorem itC_d {d : D} : itC (.d d) st = itK (itemsOf d) none st := (rfl)
@[simp] theorem itC_l {n : Nat} : itC (.loc n) st = itM n st[n]? st := (rfl)
@[simp] theorem itM_l {n : Nat} {xs : List D} : itM n (some (.lst xs)) st = .ok (xs, some (n, .lst xs)) st := (rfl)
@[simp] theorem itK_some {ds : List D} {w : Option (Nat × MO)} : itK (some ds) w st = .ok (ds, w) st := (rfl)
@[simp] theorem itemsOf_lst {xs : List D} : itemsOf (.lst xs) = some xs := (rfl)
@[simp] theorem itemsOf_tup {xs : List D} : itemsOf (.tup xs) = some xs := (rfl)
@[simp] theorem itemsOf_scr {xs : List Int} : itemsOf (.scr xs) = some (xs.map .int) := (rfl)
@[simp] theorem itemsOf_str {xs : List Nat} : itemsOf (.str xs) = some (signs xs) := (rfl)
def enM (k : Int) (n : Nat) (o : Option MO) (st : Store) : Out (List D × Option (Nat × MO)) := match o with
  | some (.lst xs) => .ok (pairs k xs, some (n, .lst xs)) st
  | _ => .fail
def enK (k : Int) (o : Option (List D)) (st : Store) : Out (List D × Option (Nat × MO)) := match o with
  | some ds => .ok (pairs k ds, none) st
  | none => .fail
def enC (k : Int) (x : VV) (st : Store) : Out (List D × Option (Nat × MO)) := match x with
  | .d d => enK k (itemsOf d) st
  | .loc n => enM k n st[n]? st
  | .fn _ => .fail
@[simp] theorem iEnum_eq {k : Int} : iEnum k f σ st = (f σ st).bind (enC k) := by
  unfold iEnum; congr 1
@[simp] theorem enC_d {k : Int} {d : D} : enC k (.d d) st = enK k (itemsOf d) st := (rfl)
@[simp] theorem enK_some {k : Int} {ds : List D} : enK k (some ds) st = .ok (pairs k ds, none) st := (rfl)
def rgC (xs : List VV) (st : Store) : Out (List D × Option (Nat × MO)) := match xs with
  | [.d (.int j)] => if b62 j then .ok (irange 0 j.toNat 1, none) st else .fail
  | [.d (.int i), .d (.int j)] => if b62 i && b62 j then .ok (irange i (j - i).toNat 1, none) st else .fail
  | [.d (.int i), .d (.int j), .d (.int c)] => if b61 i && b61 j && decide (0 < c) && decide (c < 1073741824) then .ok (irange i ((j - i + c - 1) / c).toNat c, none) st else .fail
  | _ => .fail
@[simp] theorem iRange_eq : iRange fs σ st = (eArgs fs σ st).bind rgC := (rfl)
@[simp] theorem rgC_1 {j : Int} (h : -4611686018427387904 ≤ j ∧ j < 4611686018427387904) : rgC [.d (.int j)] st = .ok (irange 0 j.toNat 1, none) st := by
  have : b62 j = true := by unfold b62; simpa using h
  simp [rgC, this]
@[simp] theorem rgC_2 {i j : Int} (h : (-4611686018427387904 ≤ i ∧ i < 4611686018427387904) ∧ -4611686018427387904 ≤ j ∧ j < 4611686018427387904) : rgC [.d (.int i), .d (.int j)] st = .ok (irange i (j - i).toNat 1, none) st := by
  have : b62 i = true := by unfold b62; simpa using h.1
  have : b62 j = true := by unfold b62; simpa using h.2
  simp [rgC, *]
@[simp] theorem rgC_3 {i j c : Int} (h : ((-2305843009213693952 ≤ i ∧ i < 2305843009213693952) ∧ -2305843009213693952 ≤ j ∧ j < 2305843009213693952) ∧ 0 < c ∧ c < 1073741824) : rgC [.d (.int i), .d (.int j), .d (.int c)] st = .ok (irange i ((j - i + c - 1) / c).toNat c, none) st := by
  have : b61 i = true := by unfold b61; simpa using h.1.1
  have : b61 j = true := by unfold b61; simpa using h.1.2
  simp [rgC, *]
/-! ### targets -/
@[simp] theorem gN_zero {o : Option VV} : gN 0 x (o :: σ) st = .ok (some x :: σ) st := by simp [gN]
def consC (o : Option VV) (σ : Env) (st : Store) : Out Env := .ok (o :: σ) st
@[simp] theorem consC_eq {o : Option VV} : consC o σ st = .ok (o :: σ) st := (rfl)
@[simp] theorem gN_succ {i : Nat} {o : Option VV} : gN (i + 1) x (o :: σ) st = (gN i x σ st).bind (consC o) := by
  unfold gN
  by_cases h : i < σ.length <;> simp [h, consC]
def gAC (gs : List Gx) (ds : List D) (σ : Env) (st : Store) : Out Env := gAll gs ds σ st
@[simp] theorem gAll_nil : gAll [] [] σ st = .ok σ st := (rfl)
@[simp] theorem gAll_cons {k : Gx} {ks : List Gx} {d : D} {ds : List D} : gAll (k :: ks) (d :: ds) σ st = (k (.d d) σ st).bind (gAC ks ds) := (rfl)
@[simp] theorem gAC_eq {gs : List Gx} {ds : List D} : gAC gs ds σ st = gAll gs ds σ st := (rfl)
@[simp] theorem gT_tup {gs : List Gx} {ds : List D} : gT gs (.d (.tup ds)) σ st = gAll gs ds σ st := (rfl)
def gsK (n : Nat) (i : Int) (dv : D) (σ : Env) (o : Option MO) (st : Store) : Out Env := match o with
  | some (.lst xs) => match ixI xs.length i with
    | some j => .ok σ (st.set n (.lst (xs.set j dv)))
    | none => .fail
  | _ => .fail
def gsC2 (v : VV) (σ : Env) (x y : VV) (st : Store) : Out Env := match x, y, v with
  | .loc n, .d (.int i), .d dv => gsK n i dv σ st[n]? st
  | _, _, _ => .fail
def gsC (g : Ex) (v : VV) (σ : Env) (x : VV) (st : Store) : Out Env := (g σ st).bind (gsC2 v σ x)
@[simp] theorem gS_eq {v : VV} : gS f g v σ st = (f σ st).bind (gsC g v σ) := by
  unfold gS; congr 1
@[simp] theorem gsC_eq {v : VV} : gsC g v σ x st = (g σ st).bind (gsC2 v σ x) := (rfl)
@[simp] theorem gsC2_eq {n : Nat} {i : Int} {dv : D} : gsC2 (.d dv) σ (.loc n) (.d (.int i)) st = gsK n i dv σ st[n]? st := (rfl)
theorem gsK_eq {n j : Nat} {i : Int} {dv : D} {xs : List D} (h : ixI xs.length i = some j) : gsK n i dv σ (some (.lst xs)) st = .ok σ (st.set n (.lst (xs.set j dv))) := by
  simp [gsK, h]
/-! ### statements -/
variable {a b c : Sx} {G : Gx}
def seqC (b : Sx) (r : Fl) (st : Store) : Out Fl := match r with
  | .nx σ1 => b σ1 st
  | r => .ok r st
@[simp] theorem sSeq_eq : sSeq a b σ st = (a σ st).bind (seqC b) := by
  unfold sSeq; congr 1
@[simp] theorem seqC_nx : seqC b (.nx σ) st = b σ st := (rfl)
@[simp] theorem seqC_rt {v : VV} : seqC b (.rt v) st = .ok (.rt v) st := (rfl)
@[simp] theorem seqC_bk : seqC b (.bk σ) st = .ok (.bk σ) st := (rfl)
@[simp] theorem seqC_ct : seqC b (.ct σ) st = .ok (.ct σ) st := (rfl)
def nxC (σ : Env) (st : Store) : Out Fl := .ok (.nx σ) st
def asgC (G : Gx) (σ : Env) (x : VV) (st : Store) : Out Fl := (G x σ st).bind nxC
@[simp] theorem sAsg_eq : sAsg f G σ st = (f σ st).bind (asgC G σ) := (rfl)
@[simp] theorem asgC_eq : asgC G σ x st = (G x σ st).bind nxC := (rfl)
@[simp] theorem nxC_eq : nxC σ st = .ok (.nx σ) st := (rfl)
def exprC (σ : Env) (x : VV) (st : Store) : Out Fl := .ok (.nx σ) st
@[simp] theorem sExpr_eq : sExpr f σ st = (f σ st).bind (exprC σ) := (rfl)
@[simp] theorem exprC_eq : exprC σ x st = .ok (.nx σ) st := (rfl)
def retC (x : VV) (st : Store) : Out Fl := .ok (.rt x) st
@[simp] theorem sRet_eq : sRet f σ st = (f σ st).bind retC := (rfl)
@[simp] theorem retC_eq : retC x st = .ok (.rt x) st := (rfl)
@[simp] theorem sRetN_eq : sRetN σ st = .ok (.rt (.d .non)) st := (rfl)
def ifC (a b : Sx) (σ : Env) (t : Bool) (st : Store) : Out Fl := if t then a σ st else b σ st
@[simp] theorem sIf_eq : sIf s a b σ st = (s σ st).bind (ifC a b σ) := (rfl)
@[simp] theorem ifC_t : ifC a b σ true st = a σ st := (rfl)
@[simp] theorem ifC_f : ifC a b σ false st = b σ st := (rfl)
@[simp] theorem sNil_eq : sNil σ st = .ok (.nx σ) st := (rfl)
@[simp] theorem sPass_eq : sPass σ st = .ok (.nx σ) st := (rfl)
@[simp] theorem sBrk_eq : sBrk σ st = .ok (.bk σ) st := (rfl)
@[simp] theorem sCont_eq : sCont σ st = .ok (.ct σ) st := (rfl)
def parSet : List Nat → List VV → Env → Env
  | i :: is, x :: xs, σ => parSet is xs (σ.set i (some x))
  | _, _, σ => σ
def parC (is : List Nat) (σ : Env) (xs : List VV) (st : Store) : Out Fl := if xs.length = is.length ∧ ∀ i ∈ is, i < σ.length then .ok (.nx ((is.zip xs).foldl (fun σ p => σ.set p.1 (some p.2)) σ)) st else .fail
@[simp] theorem sPar_eq {is : List Nat} : sPar is fs σ st = (eArgs fs σ st).bind (parC is σ) := (rfl)
@[simp] theorem parC_2 {i j : Nat} (h : i < σ.length ∧ j < σ.length) : parC [i, j] σ [x, y] st = .ok (.nx ((σ.set i (some x)).set j (some y))) st := by
  simp [parC, h.1, h.2]
@[simp] theorem parC_3 {i j k : Nat} (h : i < σ.length ∧ j < σ.length ∧ k < σ.length) : parC [i, j, k] σ [x, y, z] st = .ok (.nx (((σ.set i (some x)).set j (some y)).set k (some z))) st := by
  simp [parC, h.1, h.2.1, h.2.2]
variable {w : Option (Nat × MO)} {I : Ix} {ds : List D}
noncomputable def forC (G : Gx) (b : Sx) (σ : Env) (p : List D × Option (Nat × MO)) (st : Store) : Out Fl := fLoop p.2 G b p.1 σ st
@[simp] theorem sFor_eq : sFor I G b σ st = (I σ st).bind (forC G b σ) := (rfl)
@[simp] theorem forC_eq : forC G b σ (ds, w) st = fLoop w G b ds σ st := (rfl)
noncomputable def flK (w : Option (Nat × MO)) (G : Gx) (b : Sx) (ds : List D) (r : Fl) (st : Store) : Out Fl := match r with
  | .nx σ2 => if kept w st then fLoop w G b ds σ2 st else .fail
  | .ct σ2 => if kept w st then fLoop w G b ds σ2 st else .fail
  | .bk σ2 => .ok (.nx σ2) st
  | .rt v => .ok (.rt v) st
noncomputable def flC (w : Option (Nat × MO)) (G : Gx) (b : Sx) (ds : List D) (σ : Env) (st : Store) : Out Fl := (b σ st).bind (flK w G b ds)
theorem fLoop_nil : fLoop w G b [] σ st = .ok (.nx σ) st := rfl
theorem fLoop_cons {d : D} : fLoop w G b (d :: ds) σ st = (G (.d d) σ st).bind (flC w G b ds) := by
  conv => lhs; unfold fLoop
  congr 1
@[simp] theorem flC_eq : flC w G b ds σ st = (b σ st).bind (flK w G b ds) := (rfl)
@[simp] theorem flK_bk : flK w G b ds (.bk σ) st = .ok (.nx σ) st := (rfl)
@[simp] theorem flK_rt {v : VV} : flK w G b ds (.rt v) st = .ok (.rt v) st := (rfl)
@[simp] theorem flK_nx (h : kept w st = true) : flK w G b ds (.nx σ) st = fLoop w G b ds σ st := by simp [flK, h]
@[simp] theorem flK_ct (h : kept w st = true) : flK w G b ds (.ct σ) st = fLoop w G b ds σ st := by simp [flK, h]
@[simp] theorem kept_none : kept none st = true := (rfl)
theorem kept_of {n : Nat} {o : MO} (h : st[n]? = some o) : kept (some (n, o)) st = true := by simp [kept, h]
/-! ### while -/
def wlK (s : Tx) (b : Sx) (n : Nat) (r : Fl) (st : Store) : Out Fl := match r with
  | .nx σ2 => wLoop s b n σ2 st
  | .ct σ2 => wLoop s b n σ2 st
  | .bk σ2 => .ok (.nx σ2) st
  | .rt v => .ok (.rt v) st
def wlC (s : Tx) (b : Sx) (n : Nat) (σ : Env) (t : Bool) (st : Store) : Out Fl := if t then (b σ st).bind (wlK s b n) else .ok (.nx σ) st
theorem wLoop_succ {n : Nat} : wLoop s b (n + 1) σ st = (s σ st).bind (wlC s b n σ) := by
  conv => lhs; unfold wLoop
  congr 1
@[simp] theorem wlC_t {n : Nat} : wlC s b n σ true st = (b σ st).bind (wlK s b n) := (rfl)
@[simp] theorem wlC_f {n : Nat} : wlC s b n σ false st = .ok (.nx σ) st := (rfl)
@[simp] theorem wlK_nx {n : Nat} : wlK s b n (.nx σ) st = wLoop s b n σ st := (rfl)
@[simp] theorem wlK_ct {n : Nat} : wlK s b n (.ct σ) st = wLoop s b n σ st := (rfl)
@[simp] theorem wlK_bk {n : Nat} : wlK s b n (.bk σ) st = .ok (.nx σ) st := (rfl)
@[simp] theorem wlK_rt {n : Nat} {v : VV} : wlK s b n (.rt v) st = .ok (.rt v) st := (rfl)
theorem wLoop_mono : ∀ {n m : Nat} {σ : Env} {st st' : Store} {r : Fl}, wLoop s b n σ st = .ok r st' → n ≤ m → wLoop s b m σ st = .ok r st'
  | 0, _, _, _, _, _, h, _ => by cases h
  | n + 1, 0, _, _, _, _, _, h => by omega
  | n + 1, m + 1, σ, st, st', r, h, hm => by
    rw [wLoop_succ] at h ⊢
    cases e : s σ st with
    | fail => rw [e] at h; cases h
    | ok t st1 =>
      rw [e] at h
      cases t with
      | false => exact h
      | true =>
        simp only [Out.bind, wlC_t] at h ⊢
        cases e2 : b σ st1 with
        | fail => rw [e2] at h; cases h
        | ok fl st2 =>
          rw [e2] at h
          cases fl with
          | nx σ2 => exact wLoop_mono (n := n) (m := m) h (by omega)
          | ct σ2 => exact wLoop_mono (n := n) (m := m) h (by omega)
          | bk σ2 => exact h
          | rt v => exact h
theorem sWhile_of {n : Nat} {r : Fl} {st' : Store} (h : wLoop s b n σ st = .ok r st') : sWhile s b σ st = .ok r st' := by
  unfold sWhile
  have ex : ∃ n r st', wLoop s b n σ st = .ok r st' := ⟨n, r, st', h⟩
  rw [dif_pos ex]
  obtain ⟨r2, st2, h2⟩ := ex.choose_spec
  rcases Nat.le_total n ex.choose with hh | hh
  · exact wLoop_mono h hh
  · have := wLoop_mono h2 hh
    rw [h] at this; rw [h2]; exact this.symm
/-! ### comprehensions -/
noncomputable def cmC (g : Gx) (t : Tx) (e : Ex) (σ : Env) (p : List D × Option (Nat × MO)) (st : Store) : Out (List D) := cLoop p.2 g t e σ p.1 [] st
def lstD (ds : List D) (st : Store) : Out VV := .ok (.d (.lst ds)) st
noncomputable def cmC0 (g : Gx) (t : Tx) (e : Ex) (σ : Env) (p : List D × Option (Nat × MO)) (st : Store) : Out VV := (cLoop p.2 g t e σ p.1 [] st).bind lstD
@[simp] theorem eComp_eq {vs : List Nat} : eComp vs I G t f σ st = (I σ st).bind (cmC0 G t f (wipeE σ vs)) := (rfl)
@[simp] theorem cmC0_eq {p : List D × Option (Nat × MO)} : cmC0 G t f σ p st = (cLoop p.2 G t f σ p.1 [] st).bind lstD := (rfl)
@[simp] theorem lstD_eq : lstD ds st = .ok (.d (.lst ds)) st := (rfl)
@[simp] theorem wipeE_nil : wipeE σ [] = σ := (rfl)
@[simp] theorem wipeE_cons {v : Nat} {vs : List Nat} : wipeE σ (v :: vs) = (wipeE σ vs).set v none := (rfl)
@[simp] theorem tTrue_eq : tTrue σ st = .ok true st := (rfl)
noncomputable def clK (w : Option (Nat × MO)) (g : Gx) (t : Tx) (e : Ex) (σ : Env) (ds acc : List D) (x : VV) (st : Store) : Out (List D) := match x with
  | .d y => if kept w st && decide (acc.length < sizeLine) then cLoop w g t e σ ds (acc ++ [y]) st else .fail
  | _ => .fail
noncomputable def clC2 (w : Option (Nat × MO)) (g : Gx) (t : Tx) (e : Ex) (σ : Env) (ds acc : List D) (σ1 : Env) (b : Bool) (st : Store) : Out (List D) :=
  if b then (e σ1 st).bind (clK w g t e σ ds acc) else if kept w st then cLoop w g t e σ ds acc st else .fail
noncomputable def clC (w : Option (Nat × MO)) (g : Gx) (t : Tx) (e : Ex) (σ : Env) (ds acc : List D) (σ1 : Env) (st : Store) : Out (List D) := (t σ1 st).bind (clC2 w g t e σ ds acc σ1)
theorem cLoop_nil {acc : List D} : cLoop w G t f σ [] acc st = .ok acc st := rfl
theorem cLoop_cons {d : D} {acc : List D} : cLoop w G t f σ (d :: ds) acc st = (G (.d d) σ st).bind (clC w G t f σ ds acc) := by
  conv => lhs; unfold cLoop
  congr 1
@[simp] theorem clC_eq {acc : List D} {σ1 : Env} : clC w G t f σ ds acc σ1 st = (t σ1 st).bind (clC2 w G t f σ ds acc σ1) := (rfl)
@[simp] theorem clC2_t {acc : List D} {σ1 : Env} : clC2 w G t f σ ds acc σ1 true st = (f σ1 st).bind (clK w G t f σ ds acc) := (rfl)
@[simp] theorem clC2_f {acc : List D} {σ1 : Env} (h : kept w st = true) : clC2 w G t f σ ds acc σ1 false st = cLoop w G t f σ ds acc st := by simp [clC2, h]
@[simp] theorem clK_eq {acc : List D} {y : D} (h : kept w st = true) (hl : acc.length < 16777216) : clK w G t f σ ds acc (.d y) st = cLoop w G t f σ ds (acc ++ [y]) st := by
  have : acc.length < sizeLine := hl
  simp [clK, h, this]
/-- a comprehension that changes nothing -/
theorem cLoop_pure {α : Type} (ι : α → D) (p : α → Bool) (q : α → D) (hk : kept w st = true) : ∀ (xs : List α) (acc : List D), (∀ a ∈ xs, ∃ σ1, G (.d (ι a)) σ st = .ok σ1 st ∧ t σ1 st = .ok (p a) st ∧ (p a = true → f σ1 st = .ok (.d (q a)) st)) → acc.length + xs.length ≤ 16777216 →
    cLoop w G t f σ (xs.map ι) acc st = .ok (acc ++ (xs.filter p).map q) st
  | [], acc, _, _ => by simp [cLoop_nil]
  | a :: r, acc, h, hl => by
    obtain ⟨σ1, h1, h2, h3⟩ := h a (by simp)
    simp only [List.map_cons, cLoop_cons, h1, Out.bind, clC_eq, h2]
    simp only [List.length_cons] at hl
    cases e : p a with
    | false =>
      rw [clC2_f hk, cLoop_pure ι p q hk r acc (fun b hb => h b (by simp [hb])) (by omega)]
      simp [List.filter_cons, e]
    | true =>
      rw [clC2_t, h3 e]
      simp only [Out.bind]
      rw [clK_eq hk (by omega), cLoop_pure ι p q hk r _ (fun b hb => h b (by simp [hb])) (by simp; omega)]
      simp [List.filter_cons, e]
/-! ### defs -/
def callC (F : Fun) (xs : List VV) (st : Store) : Out VV := F xs st
@[simp] theorem eCall_eq {F : Fun} : eCall F fs σ st = (eArgs fs σ st).bind F := (rfl)
def callKC2 (F : Fun) (perm : List Nat) (xs ys : List VV) (st : Store) : Out VV := F (permV perm (xs ++ ys)) st
def callKC (F : Fun) (perm : List Nat) (gs : List Ex) (σ : Env) (xs : List VV) (st : Store) : Out VV := (eArgs gs σ st).bind (callKC2 F perm xs)
@[simp] theorem eCallK_eq {F : Fun} {perm : List Nat} {gs : List Ex} : eCallK F perm fs gs σ st = (eArgs fs σ st).bind (callKC F perm gs σ) := (rfl)
@[simp] theorem callKC_eq {F : Fun} {perm : List Nat} {gs : List Ex} {xs : List VV} : callKC F perm gs σ xs st = (eArgs gs σ st).bind (callKC2 F perm xs) := (rfl)
@[simp] theorem callKC2_eq {F : Fun} {perm : List Nat} {xs ys : List VV} : callKC2 F perm xs ys st = F (permV perm (xs ++ ys)) st := (rfl)
def leaveC (n : Nat) (f : Fl) (st : Store) : Out VV := match f with
  | .rt (.d x) => .ok (.d x) (st.take n)
  | .rt (.loc m) => if m < n then .ok (.loc m) (st.take n) else match st[m]? with
    | some o => .ok (.loc n) (st.take n ++ [o])
    | none => .fail
  | .nx _ => .ok (.d .non) (st.take n)
  | _ => .fail
theorem leave_eq {n : Nat} {r : Out Fl} : leave n r = r.bind (leaveC n) := by
  unfold leave; congr 1
@[simp] theorem leaveC_d {n : Nat} {d : D} : leaveC n (.rt (.d d)) st = .ok (.d d) (st.take n) := (rfl)
@[simp] theorem leaveC_nx {n : Nat} : leaveC n (.nx σ) st = .ok (.d .non) (st.take n) := (rfl)
theorem runF_eq {n m : Nat} {xs : List VV} (h : xs.length = n) : runF n m b xs st = (b (enter m xs) st).bind (leaveC st.length) := by
  unfold runF; rw [if_pos h, leave_eq]
@[simp] theorem runF_0 {m : Nat} : runF 0 m b [] st = (b (List.replicate (m - 0) none) st).bind (leaveC st.length) := runF_eq rfl
@[simp] theorem runF_1 {m : Nat} {x1 : VV} : runF 1 m b [x1] st = (b (some x1 :: List.replicate (m - 1) none) st).bind (leaveC st.length) := runF_eq rfl
@[simp] theorem runF_2 {m : Nat} {x1 x2 : VV} : runF 2 m b [x1, x2] st = (b (some x1 :: some x2 :: List.replicate (m - 2) none) st).bind (leaveC st.length) := runF_eq rfl
@[simp] theorem runF_3 {m : Nat} {x1 x2 x3 : VV} : runF 3 m b [x1, x2, x3] st = (b (some x1 :: some x2 :: some x3 :: List.replicate (m - 3) none) st).bind (leaveC st.length) := runF_eq rfl
@[simp] theorem runF_4 {m : Nat} {x1 x2 x3 x4 : VV} : runF 4 m b [x1, x2, x3, x4] st = (b (some x1 :: some x2 :: some x3 :: some x4 :: List.replicate (m - 4) none) st).bind (leaveC st.length) := runF_eq rfl
@[simp] theorem runF_5 {m : Nat} {x1 x2 x3 x4 x5 : VV} : runF 5 m b [x1, x2, x3, x4, x5] st = (b (some x1 :: some x2 :: some x3 :: some x4 :: some x5 :: List.replicate (m - 5) none) st).bind (leaveC st.length) := runF_eq rfl
@[simp] theorem runF_6 {m : Nat} {x1 x2 x3 x4 x5 x6 : VV} : runF 6 m b [x1, x2, x3, x4, x5, x6] st = (b (some x1 :: some x2 :: some x3 :: some x4 :: some x5 :: some x6 :: List.replicate (m - 6) none) st).bind (leaveC st.length) := runF_eq rfl
@[simp] theorem runF_7 {m : Nat} {x1 x2 x3 x4 x5 x6 x7 : VV} : runF 7 m b [x1, x2, x3, x4, x5, x6, x7] st = (b (some x1 :: some x2 :: some x3 :: some x4 :: some x5 :: some x6 :: some x7 :: List.replicate (m - 7) none) st).bind (leaveC st.length) := runF_eq rfl
/-- a comprehension over the signs of a text -/
theorem comp_str (p : Nat → Bool) (q : Nat → D) (z : List Nat) (hk : kept w st = true) (h : ∀ c ∈ z, ∃ σ1, G (.d (.str [c])) σ st = .ok σ1 st ∧ t σ1 st = .ok (p c) st ∧ (p c = true → f σ1 st = .ok (.d (q c)) st)) (hl : z.length ≤ 16777216) :
    cLoop w G t f σ (signs z) [] st = .ok ((z.filter p).map q) st := by
  have := cLoop_pure (w := w) (G := G) (t := t) (f := f) (σ := σ) (st := st) (fun c => D.str [c]) p q hk z [] h (by simpa using hl)
  simpa [signs] using this
/-- a comprehension over data -/
theorem comp_lst (p : D → Bool) (q : D → D) (xs : List D) (hk : kept w st = true) (h : ∀ c ∈ xs, ∃ σ1, G (.d c) σ st = .ok σ1 st ∧ t σ1 st = .ok (p c) st ∧ (p c = true → f σ1 st = .ok (.d (q c)) st)) (hl : xs.length ≤ 16777216) :
    cLoop w G t f σ xs [] st = .ok ((xs.filter p).map q) st := by
  have := cLoop_pure (w := w) (G := G) (t := t) (f := f) (σ := σ) (st := st) id p q hk xs [] h (by simpa using hl)
  simpa using this
/-- over mapped data -/
theorem comp_map {α : Type} (ι : α → D) (p : α → Bool) (q : α → D) (xs : List α) (hk : kept w st = true) (h : ∀ c ∈ xs, ∃ σ1, G (.d (ι c)) σ st = .ok σ1 st ∧ t σ1 st = .ok (p c) st ∧ (p c = true → f σ1 st = .ok (.d (q c)) st)) (hl : xs.length ≤ 16777216) :
    cLoop w G t f σ (xs.map ι) [] st = .ok ((xs.filter p).map q) st := by
  have := cLoop_pure (w := w) (G := G) (t := t) (f := f) (σ := σ) (st := st) ι p q hk xs [] h (by simpa using hl)
  simpa using this
theorem comp_str1 (q : Nat → D) (z : List Nat) (hk : kept w st = true) (h : ∀ c ∈ z, ∃ σ1, G (.d (.str [c])) σ st = .ok σ1 st ∧ t σ1 st = .ok true st ∧ f σ1 st = .ok (.d (q c)) st) (hl : z.length ≤ 16777216) :
    cLoop w G t f σ (signs z) [] st = .ok (z.map q) st := by
  have := comp_str (w := w) (G := G) (t := t) (f := f) (σ := σ) (st := st) (fun _ => true) q z hk (fun c hc => by obtain ⟨a, b, c, d⟩ := h c hc; exact ⟨a, b, c, fun _ => d⟩) hl
  rw [this, List.filter_eq_self.mpr (fun _ _ => rfl)]
theorem comp_lst1 (q : D → D) (xs : List D) (hk : kept w st = true) (h : ∀ c ∈ xs, ∃ σ1, G (.d c) σ st = .ok σ1 st ∧ t σ1 st = .ok true st ∧ f σ1 st = .ok (.d (q c)) st) (hl : xs.length ≤ 16777216) :
    cLoop w G t f σ xs [] st = .ok (xs.map q) st := by
  have := comp_lst (w := w) (G := G) (t := t) (f := f) (σ := σ) (st := st) (fun _ => true) q xs hk (fun c hc => by obtain ⟨a, b, c, d⟩ := h c hc; exact ⟨a, b, c, fun _ => d⟩) hl
  rw [this, List.filter_eq_self.mpr (fun _ _ => rfl)]
theorem comp_map1 {α : Type} (ι : α → D) (q : α → D) (xs : List α) (hk : kept w st = true) (h : ∀ c ∈ xs, ∃ σ1, G (.d (ι c)) σ st = .ok σ1 st ∧ t σ1 st = .ok true st ∧ f σ1 st = .ok (.d (q c)) st) (hl : xs.length ≤ 16777216) :
    cLoop w G t f σ (xs.map ι) [] st = .ok (xs.map q) st := by
  have := comp_map (w := w) (G := G) (t := t) (f := f) (σ := σ) (st := st) ι (fun _ => true) q xs hk (fun c hc => by obtain ⟨a, b, c, d⟩ := h c hc; exact ⟨a, b, c, fun _ => d⟩) hl
  rw [this, List.filter_eq_self.mpr (fun _ _ => rfl)]
@[simp] theorem set_last {α : Type} {l : List α} {a b : α} : (l ++ [a]).set l.length b = l ++ [b] := by simp
@[simp] theorem take_last {α : Type} {l : List α} {a : α} : (l ++ [a]).take l.length = l := by simp
@[simp] theorem take_set_len {α : Type} {l : List α} {i : Nat} {a : α} : (l.set i a).take l.length = l.set i a := List.take_of_length_le (by simp)
theorem irange0 {n : Nat} : irange 0 n 1 = (List.range' 0 n).map fun (k : Nat) => D.int (k : Int) := by
  unfold irange; rw [List.range_eq_range']; apply List.map_congr_left; intro k _; congr 1; omega
theorem range'_cons {a n : Nat} : List.range' a (n + 1) = a :: List.range' (a + 1) n := by simp [List.range'_succ]
theorem irange_eq {lo c : Int} {n : Nat} : irange lo n c = (List.range n).map fun (k : Nat) => D.int (lo + (k : Int) * c) := rfl
/-- a loop with an invariant of the pure state: each turn takes the state a to step a -/
theorem fLoop_fold {α S : Type} (ι : α → D) (step : S → α → S) (E : S → Env) (Y : S → Store) (I : S → Prop)
    (h : ∀ s a, I s → ∃ σ1, G (.d (ι a)) (E s) (Y s) = .ok σ1 (Y s) ∧ (b σ1 (Y s) = .ok (.nx (E (step s a))) (Y (step s a)) ∨ b σ1 (Y s) = .ok (.ct (E (step s a))) (Y (step s a))) ∧ kept w (Y (step s a)) = true ∧ I (step s a)) :
    ∀ (xs : List α) (s : S), I s → fLoop w G b (xs.map ι) (E s) (Y s) = .ok (.nx (E (xs.foldl step s))) (Y (xs.foldl step s)) ∧ I (xs.foldl step s)
  | [], s, hi => ⟨rfl, hi⟩
  | a :: r, s, hi => by
    obtain ⟨σ1, h1, h2, h3, h4⟩ := h s a hi
    have ih := fLoop_fold ι step E Y I h r (step s a) h4
    refine ⟨?_, ih.2⟩
    rw [List.map_cons, fLoop_cons, h1]
    simp only [Out.bind, flC_eq]
    rcases h2 with h2 | h2 <;> rw [h2] <;> simp only [Out.bind]
    · rw [flK_nx h3]; exact ih.1
    · rw [flK_ct h3]; exact ih.1
/-! ### list(range), keywords -/
def lrC (p : List D × Option (Nat × MO)) (st : Store) : Out VV := if line p.1.length then .ok (.d (.lst p.1)) st else .fail
@[simp] theorem eLRange_eq : eLRange fs σ st = (iRange fs σ st).bind lrC := (rfl)
@[simp] theorem lrC_eq (h : ds.length ≤ 16777216) : lrC (ds, w) st = .ok (.d (.lst ds)) st := by
  unfold lrC; simp [line_of h]
def ck1K (F : List D → List D → Option D) (a b : Option (List D)) (st : Store) : Out VV := match a, b with
  | some ds, some es => ofO (F ds es) st
  | _, _ => .fail
def ck1C2 (F : List D → List D → Option D) (xs ys : List VV) (st : Store) : Out VV := ck1K F (rdAll st xs) (rdAll st ys) st
def ck1C (F : List D → List D → Option D) (gs : List Ex) (σ : Env) (xs : List VV) (st : Store) : Out VV := (eArgs gs σ st).bind (ck1C2 F xs)
@[simp] theorem eCallK1_eq {F : List D → List D → Option D} {gs : List Ex} : eCallK1 F fs gs σ st = (eArgs fs σ st).bind (ck1C F gs σ) := by
  unfold eCallK1; congr 1
@[simp] theorem ck1C_eq {F : List D → List D → Option D} {gs : List Ex} {xs : List VV} : ck1C F gs σ xs st = (eArgs gs σ st).bind (ck1C2 F xs) := (rfl)
@[simp] theorem ck1C2_eq {F : List D → List D → Option D} {xs ys : List VV} : ck1C2 F xs ys st = ck1K F (rdAll st xs) (rdAll st ys) st := (rfl)
@[simp] theorem ck1K_eq {F : List D → List D → Option D} {a b : List D} : ck1K F (some a) (some b) st = ofO (F a b) st := (rfl)
end
end PX

/-! PXN: slices, places and the decimal signs of numbers. -/
namespace PX
open PySem
theorem cut_nn {α : Type} (xs : List α) (a b : Nat) : cut xs (some (a : Int)) (some (b : Int)) = (xs.drop a).take (b - a) := by
  unfold cut
  rw [HT.sIx_nat, HT.sIx_nat]
  apply List.ext_getElem?
  intro i
  simp only [List.getElem?_take, List.getElem?_drop]
  by_cases h1 : i < min b xs.length - min a xs.length <;> by_cases h2 : i < b - a <;> simp only [h1, h2, if_true, if_false]
  · congr 1; omega
  · omega
  · symm; apply List.getElem?_eq_none; omega
theorem cut_xn {α : Type} (xs : List α) (b : Nat) : cut xs none (some (b : Int)) = xs.take b := by
  unfold cut
  rw [HT.sIx_nat, HT.sIx_none]
  simp only [List.drop_zero, Nat.sub_zero]
  apply List.ext_getElem?
  intro i
  simp only [List.getElem?_take]
  by_cases h1 : i < min b xs.length <;> by_cases h2 : i < b <;> simp only [h1, h2, if_true, if_false]
  · omega
  · symm; apply List.getElem?_eq_none; omega
theorem cut_nx {α : Type} (xs : List α) (a : Nat) : cut xs (some (a : Int)) none = xs.drop a := by
  unfold cut
  rw [HT.sIx_nat, HT.sIx_none]
  apply List.ext_getElem?
  intro i
  simp only [List.getElem?_take, List.getElem?_drop]
  by_cases h1 : i < xs.length - min a xs.length <;> simp only [h1, if_true, if_false]
  · congr 1; omega
  · symm; apply List.getElem?_eq_none; omega
theorem cut_xx {α : Type} (xs : List α) : cut xs none none = xs := by
  unfold cut; simp [HT.sIx_none]
/-- xs[-k:] -/
theorem cut_mx {α : Type} (xs : List α) (k : Nat) (hk : 0 < k) (h : k ≤ xs.length) : cut xs (some (-(k : Int))) none = xs.drop (xs.length - k) := by
  unfold cut
  have : HT.sIx xs.length 0 (some (-(k : Int))) = xs.length - k := by
    show (if (-(k : Int)) < 0 then ((-(k : Int)) + (xs.length : Int)).toNat else _) = _
    rw [if_pos (by omega)]; omega
  rw [this, HT.sIx_none]
  apply List.take_of_length_le
  simp
/-- literals -/
theorem cut_lit {α : Type} (xs : List α) (a b : Int) (ha : 0 ≤ a) (hb : 0 ≤ b) : cut xs (some a) (some b) = (xs.drop a.toNat).take (b.toNat - a.toNat) := by
  obtain ⟨a, rfl⟩ := Int.eq_ofNat_of_zero_le ha
  obtain ⟨b, rfl⟩ := Int.eq_ofNat_of_zero_le hb
  exact cut_nn xs a b
theorem cut_litx {α : Type} (xs : List α) (a : Int) (ha : 0 ≤ a) : cut xs (some a) none = xs.drop a.toNat := by
  obtain ⟨a, rfl⟩ := Int.eq_ofNat_of_zero_le ha
  exact cut_nx xs a
theorem cut_xlit {α : Type} (xs : List α) (b : Int) (hb : 0 ≤ b) : cut xs none (some b) = xs.take b.toNat := by
  obtain ⟨b, rfl⟩ := Int.eq_ofNat_of_zero_le hb
  exact cut_xn xs b
theorem ixI_nat {n j : Nat} (h : j < n) : ixI n (j : Int) = some j := by
  unfold ixI L2.ixN
  rw [if_pos (by omega), if_pos (by omega)]; simp
theorem ixI_int {n : Nat} {i : Int} (h : 0 ≤ i ∧ i < n) : ixI n i = some i.toNat := by
  obtain ⟨i, rfl⟩ := Int.eq_ofNat_of_zero_le h.1
  exact ixI_nat (by omega)
theorem Fix_str_at {s : List Nat} {j c : Nat} (hl : s.length ≤ 16777216) (h : s[j]? = some c) : Fix (.str s) (.int (j : Int)) = some (.str [c]) := by
  have : j < s.length := (List.getElem?_eq_some_iff.mp h).1
  rw [Fix_str hl, ixI_nat this]; simp [h]
theorem Fix_lst_at {s : List D} {j : Nat} {c : D} (h : s[j]? = some c) : Fix (.lst s) (.int (j : Int)) = some c := by
  have : j < s.length := (List.getElem?_eq_some_iff.mp h).1
  rw [Fix_lst, ixI_nat this]; simp [h]
theorem Fix_tup_at {s : List D} {j : Nat} {c : D} (h : s[j]? = some c) : Fix (.tup s) (.int (j : Int)) = some c := by
  have : j < s.length := (List.getElem?_eq_some_iff.mp h).1
  rw [Fix_tup, ixI_nat this]; simp [h]
theorem Fix_scr_at {s : List Int} {j : Nat} {c : Int} (h : s[j]? = some c) : Fix (.scr s) (.int (j : Int)) = some (.int c) := by
  have : j < s.length := (List.getElem?_eq_some_iff.mp h).1
  rw [Fix_scr, ixI_nat this]; simp [h]
/-- literal places -/
@[simp] theorem ixI_0 {n : Nat} : ixI (n + 1) 0 = some 0 := ixI_nat (j := 0) (by omega)
@[simp] theorem ixI_1 {n : Nat} : ixI (n + 1 + 1) 1 = some 1 := ixI_nat (j := 1) (by omega)
@[simp] theorem ixI_2 {n : Nat} : ixI (n + 1 + 1 + 1) 2 = some 2 := ixI_nat (j := 2) (by omega)
theorem joinT_nil : ∀ ts : List (List Nat), joinT [] ts = ts.flatten
  | [] => rfl
  | [a] => by simp [joinT]
  | a :: b :: r => by
    unfold joinT; rw [joinT_nil (b :: r)]; simp
/-! ### decimal signs -/
theorem numT_eq (n : Nat) : numT n = TL.numL n := rfl
theorem numT_digits (n : Nat) : ∀ c ∈ numT n, 48 ≤ c ∧ c ≤ 57 := TL.numL_digits n
theorem numT_ne (n : Nat) : numT n ≠ [] := TL.numL_ne n
theorem numT_len {n k : Nat} (hk : 0 < k) (h : n < 10 ^ k) : (numT n).length ≤ k := TL.numL_len hk h
theorem numT_val (n : Nat) : NumText.digitsVal (numT n) = n := TL.numL_val n
theorem intT_nat (n : Nat) : intT (n : Int) = numT n := by
  unfold intT; rw [if_neg (by omega)]; rfl
theorem intT_int {i : Int} (h : 0 ≤ i) : intT i = numT i.toNat := by
  obtain ⟨n, rfl⟩ := Int.eq_ofNat_of_zero_le h
  exact intT_nat n
theorem Fstr_int {i : Int} (h : 0 ≤ i ∧ i < 18446744073709551616) : Fstr [.int i] = some (.str (numT i.toNat)) := by
  have : i.natAbs.log2 < 1920 := by
    by_cases h0 : i.natAbs = 0
    · rw [h0]; decide
    · have := (Nat.log2_lt (n := i.natAbs) (k := 64) h0).mpr (by omega)
      omega
  simp [Fstr, this, intT_int h.1]
/-- to w signs with leading zeros -/
def pad (w n : Nat) : List Nat := List.replicate (w - (numT n).length) 48 ++ numT n
theorem pad_len {w n : Nat} (hw : 0 < w) (h : n < 10 ^ w) : (pad w n).length = w := by
  have := numT_len hw h
  unfold pad; simp; omega
theorem pad_digits {w n : Nat} : ∀ c ∈ pad w n, 48 ≤ c ∧ c ≤ 57 := fun c hc => by
  rcases List.mem_append.mp hc with hc | hc
  · have := (List.mem_replicate.mp hc).2; omega
  · exact numT_digits n c hc
theorem foldl_zeros (k : Nat) : ∀ (a : Nat), a = 0 → (List.replicate k 48).foldl (fun acc c => acc * 10 + (c - 48)) a = 0 := by
  induction k with
  | zero => intro a h; simpa using h
  | succ k ih => intro a h; rw [List.replicate_succ, List.foldl_cons]; exact ih _ (by omega)
theorem pad_val (w n : Nat) : NumText.digitsVal (pad w n) = n := by
  have := numT_val n
  unfold NumText.digitsVal at this ⊢
  unfold pad
  rw [List.foldl_append, foldl_zeros _ 0 rfl]; exact this
theorem digits_inj : ∀ {a b : List Nat}, a.length = b.length → (∀ c ∈ a, 48 ≤ c ∧ c ≤ 57) → (∀ c ∈ b, 48 ≤ c ∧ c ≤ 57) → NumText.digitsVal a = NumText.digitsVal b → a = b := by
  have key : ∀ (a b : List Nat), a.length = b.length → (∀ c ∈ a, 48 ≤ c ∧ c ≤ 57) → (∀ c ∈ b, 48 ≤ c ∧ c ≤ 57) → ∀ x y : Nat, a.foldl (fun acc c => acc * 10 + (c - 48)) x = b.foldl (fun acc c => acc * 10 + (c - 48)) y → a = b ∧ x = y := by
    intro a
    induction a with
    | nil =>
      intro b hl _ _ x y h
      cases b with
      | nil => exact ⟨rfl, h⟩
      | cons _ _ => simp at hl
    | cons c r ih =>
      intro b hl h1 h2 x y h
      cases b with
      | nil => simp at hl
      | cons d s =>
        rw [List.foldl_cons, List.foldl_cons] at h
        obtain ⟨e, e2⟩ := ih s (by simpa using hl) (fun c hc => h1 c (by simp [hc])) (fun c hc => h2 c (by simp [hc])) _ _ h
        have a1 := h1 c (by simp)
        have a2 := h2 d (by simp)
        have : c = d ∧ x = y := by omega
        exact ⟨by rw [e, this.1], this.2⟩
  intro a b hl h1 h2 h
  exact (key a b hl h1 h2 0 0 h).1
theorem pad_of {w : Nat} {a : List Nat} (hw : 0 < w) (hl : a.length = w) (h : ∀ c ∈ a, 48 ≤ c ∧ c ≤ 57) (hv : NumText.digitsVal a < 10 ^ w) : pad w (NumText.digitsVal a) = a :=
  digits_inj (by rw [pad_len hw hv, hl]) pad_digits h (pad_val _ _)
theorem Fint_digits {s : List Nat} (h : ∀ c ∈ s, 48 ≤ c ∧ c ≤ 57) (hne : s ≠ []) (hl : s.length ≤ 640) : Fint [.str s] = some (.int (NumText.digitsVal s : Nat)) := by
  have := intText_digits (x := ⟨s.toArray⟩) (by simpa [NumText.AllDigits] using h) (by simpa using hne) (by rw [len_mk]; omega)
  simp only [Fint, this]
  simp [hl]
theorem digits_lt : ∀ (a : List Nat), (∀ c ∈ a, 48 ≤ c ∧ c ≤ 57) → NumText.digitsVal a < 10 ^ a.length := by
  have key : ∀ (a : List Nat), (∀ c ∈ a, 48 ≤ c ∧ c ≤ 57) → ∀ x : Nat, a.foldl (fun acc c => acc * 10 + (c - 48)) x < (x + 1) * 10 ^ a.length := by
    intro a
    induction a with
    | nil => intro _ x; simp
    | cons c r ih =>
      intro h x
      have h1 := h c (by simp)
      have := ih (fun c hc => h c (by simp [hc])) (x * 10 + (c - 48))
      rw [List.foldl_cons, List.length_cons, Nat.pow_succ]
      refine Nat.lt_of_lt_of_le this ?_
      have h2 : x * 10 + (c - 48) + 1 ≤ (x + 1) * 10 := by omega
      calc (x * 10 + (c - 48) + 1) * 10 ^ r.length ≤ ((x + 1) * 10) * 10 ^ r.length := Nat.mul_le_mul_right _ h2
        _ = (x + 1) * (10 ^ r.length * 10) := by rw [Nat.mul_assoc, Nat.mul_comm 10]
  intro a h
  have := key a h 0
  simpa [NumText.digitsVal] using this
theorem Mzfill_num {n : Nat} {w : Int} (h : 0 ≤ w ∧ w ≤ 1000) : Mzfill (.str (numT n)) [.int w] = some (.str (pad w.toNat n)) := by
  have h1 : ∀ z, (numT n).head? = some z → 48 ≤ z ∧ z ≤ 57 := fun z hz => numT_digits n z (List.mem_of_head? hz)
  have h2 : ((numT n).head? == some 43) = false := by
    apply beq_eq_false_iff_ne.mpr; intro e; have := h1 _ e; omega
  have h3 : ((numT n).head? == some 45) = false := by
    apply beq_eq_false_iff_ne.mpr; intro e; have := h1 _ e; omega
  simp only [Mzfill, h2, h3]
  simp [h.1, h.2, pad]
end PX

/-! ### the defs of the text, as plain functions -/
namespace LW
open PX
def S3338f9 : List Nat := [32, 40, 41, 91, 93, 123, 125, 44, 45, 46, 47, 48, 49, 50, 51, 52, 53, 54, 55, 56, 57, 60, 61, 62, 63, 42, 97, 98, 99, 100, 101, 102, 103, 104, 105, 106, 107, 108, 109, 110, 111, 112, 113, 114, 115, 116, 117, 118, 119, 120, 121, 122]
def S9e2cd3 : List Nat := [116, 114, 105, 109]
def S34ec78 : List Nat := [97, 100, 100]
def S781e5e : List Nat := [48, 49, 50, 51, 52, 53, 54, 55, 56, 57]
def S4a7d1e : List Nat := [48, 48, 48, 48]
def S485b39 : List Nat := [32, 118, 111, 105, 100, 32, 116]
def Sf10ca9 : List Nat := [32, 109, 97, 107, 101, 32, 116, 32, 49]
def S8078ba : List Nat := [100, 32, 112, 109, 111, 98, 32, 123, 125, 46]
def S94f0af : List Nat := [109, 32, 116, 32, 48]
def Sc872f1 : List Nat := [100, 32, 55, 32, 118, 111, 105, 100, 32, 117]
def S18bfb0 : List Nat := [48, 49, 53, 32, 100, 122, 123]
def Sd82ee8 : List Nat := [111, 32, 116, 32, 49]
def S8b6550 : List Nat := [100, 32, 49, 32, 120]
def S687a61 : List Nat := [100, 32, 49, 32, 118, 111, 105, 100, 32, 116]
def S0426fb : List Nat := [103, 32, 116, 32, 48]
def Seb819f : List Nat := [100, 32, 50]
inductive Fn where
  | f_is_whole | f_is_between | f_is_tuple_of | f_is_text_of | f_is_signed | f_check_text | f_check_signs | f_is_write_of | f_signs_of | f_check_of | f_frame_of | f_text_at | f_frames_by | f_torn_by | f_written_by | f_is_end | f_whole_notes | f_end_of | f_trim_writes | f_opened_by | f_check_write | f_torn | f_behind_writes | f_opened | f_frame | f_frames_in | f__law_well | f__law_take | f__law_pick | f__law_same | f__law_check | f__law_digits | f__law_frame | f__law_stream | f__law_frames_in | f__law_opened | f__law_text | f__law_right | f_law
  deriving DecidableEq
noncomputable def d_is_whole (c : Fn → PX.Fun) : PX.Fun := runF 1 1 ((sRet (eAnd (eIs (eVar 0) .int) (eNot (eIs (eVar 0) .bool)))))
noncomputable def d_is_between (c : Fn → PX.Fun) : PX.Fun := runF 3 3 ((sRet (eAnd (eCall (c .f_is_whole) [(eVar 0)]) (eChain Fle Fle (eVar 1) (eVar 0) (eVar 2)))))
noncomputable def d_is_tuple_of (c : Fn → PX.Fun) : PX.Fun := runF 2 2 ((sRet (eAnd (eIs (eVar 0) .tuple) (eBin Feq (eCall1 Flen [(eVar 0)]) (eVar 1)))))
noncomputable def d_is_text_of (c : Fn → PX.Fun) : PX.Fun := runF 2 3 ((sRet (eAnd (eIs (eVar 0) .str) (eCall1 Fall [(eComp [2] (iE (eVar 0)) (gN 2) tTrue (eBin Fin (eVar 2) (eVar 1)))]))))
noncomputable def d_is_signed (c : Fn → PX.Fun) : PX.Fun := runF 1 1 ((sRet (eCall (c .f_is_text_of) [(eVar 0), (eC (.str S3338f9))])))
noncomputable def d_check_text (c : Fn → PX.Fun) : PX.Fun := runF 1 1 ((sIf (tNot' (tE (eIs (eVar 0) .str))) sFail sNil))
noncomputable def d_check_signs (c : Fn → PX.Fun) : PX.Fun := runF 1 1 ((sIf (tNot' (tE (eCall (c .f_is_signed) [(eVar 0)]))) sFail sNil))
noncomputable def d_is_write_of (c : Fn → PX.Fun) : PX.Fun := runF 2 2 ((sSeq (sIf (tNot' (tE (eCall (c .f_is_tuple_of) [(eVar 1), (eC (.int 2))]))) (sRet (eC (.bl false))) sNil)
  (sSeq (sIf (tE (eBin Feq (eBin Fix (eVar 1) (eC (.int 0))) (eC (.str S9e2cd3)))) (sRet (eCall (c .f_is_between) [(eBin Fix (eVar 1) (eC (.int 1))), (eC (.int 0)), (eCall1 Flen [(eVar 0)])])) sNil)
  (sRet (eAnd (eBin Feq (eBin Fix (eVar 1) (eC (.int 0))) (eC (.str S34ec78))) (eAnd (eCall (c .f_is_signed) [(eBin Fix (eVar 1) (eC (.int 1)))]) (eChain Fle Fle (eC (.int 1)) (eCall1 Flen [(eBin Fix (eVar 1) (eC (.int 1)))]) (eC (.int 40000)))))))))
noncomputable def d_signs_of (c : Fn → PX.Fun) : PX.Fun := runF 1 1 ((sRet (eIf (tE (eBin Feq (eBin Fix (eVar 0) (eC (.int 0))) (eC (.str S34ec78)))) (eCall1 Flen [(eBin Fix (eVar 0) (eC (.int 1)))]) (eC (.int 1)))))
noncomputable def d_check_of (c : Fn → PX.Fun) : PX.Fun := runF 1 3 ((sRet (eBin Fmod (eCall1 Fsum [(eComp [1, 2] (iEnum 1 (eVar 0)) (gT [(gN 1), (gN 2)]) tTrue (eBin Fmul (eVar 1) (eBin Fadd (eMeth .str MidxS (eC (.str S3338f9)) [(eVar 2)]) (eC (.int 1)))))]) (eC (.int 997)))))
noncomputable def d_frame_of (c : Fn → PX.Fun) : PX.Fun := runF 1 1 ((sRet (eBin Fadd (eBin Fadd (eMeth .str Mzfill (eCall1 Fstr [(eCall1 Flen [(eVar 0)])]) [(eC (.int 4))]) (eMeth .str Mzfill (eCall1 Fstr [(eCall (c .f_check_of) [(eVar 0)])]) [(eC (.int 3))])) (eVar 0))))
noncomputable def d_text_at (c : Fn → PX.Fun) : PX.Fun := runF 2 6 ((sSeq (sAsg (eCut (eVar 0) (pSome (eVar 1)) (pSome (eBin Fadd (eVar 1) (eC (.int 7))))) (gN 2))
  (sSeq (sIf (tOr' (tE (eBin Flt (eCall1 Flen [(eVar 2)]) (eC (.int 7)))) (tNot' (tE (eCall (c .f_is_text_of) [(eVar 2), (eC (.str S781e5e))])))) (sRet (eC .non)) sNil)
  (sSeq (sPar [3, 4] [(eCall1 Fint [(eCut (eVar 2) pNone (pSome (eC (.int 4))))]), (eCall1 Fint [(eCut (eVar 2) (pSome (eC (.int 4))) pNone)])])
  (sSeq (sAsg (eCut (eVar 0) (pSome (eBin Fadd (eVar 1) (eC (.int 7)))) (pSome (eBin Fadd (eBin Fadd (eVar 1) (eC (.int 7))) (eVar 3)))) (gN 5))
  (sSeq (sIf (tOr' (tE (eBin Feq (eVar 3) (eC (.int 0)))) (tOr' (tE (eBin Flt (eCall1 Flen [(eVar 5)]) (eVar 3))) (tNot' (tE (eCall (c .f_is_text_of) [(eVar 5), (eC (.str S3338f9))]))))) (sRet (eC .non)) sNil)
  (sRet (eIf (tE (eBin Feq (eCall (c .f_check_of) [(eVar 5)]) (eVar 4))) (eVar 5) (eC .non)))))))))
noncomputable def L1_frames_by (c : Fn → PX.Fun) : PX.Sx := (sSeq (sExpr (eApp (eVar 1) (eVar 3)))
  (sSeq (sAsg (eBin Fadd (eBin Fadd (eVar 2) (eC (.int 7))) (eCall1 Flen [(eVar 3)])) (gN 2))
  (sAsg (eCall (c .f_text_at) [(eVar 0), (eVar 2)]) (gN 3))))
noncomputable def L2_frames_by (c : Fn → PX.Fun) : PX.Tx := (tE (eNotN (eVar 3)))
noncomputable def d_frames_by (c : Fn → PX.Fun) : PX.Fun := runF 1 4 ((sSeq (sPar [1, 2, 3] [(eNew []), (eC (.int 0)), (eCall (c .f_text_at) [(eVar 0), (eC (.int 0))])])
  (sSeq (sWhile (L2_frames_by c) (L1_frames_by c))
  (sRet (eTup [(eFrz 1), (eVar 2)])))))
noncomputable def d_torn_by (c : Fn → PX.Fun) : PX.Fun := runF 3 3 ((sSeq (sIf (tE (eBin Feq (eBin Fix (eVar 1) (eC (.int 0))) (eC (.str S34ec78)))) (sRet (eBin Fadd (eVar 0) (eCut (eBin Fix (eVar 1) (eC (.int 1))) pNone (pSome (eVar 2))))) sNil)
  (sRet (eIf (tE (eBin Fgt (eVar 2) (eC (.int 0)))) (eCut (eVar 0) pNone (pSome (eBin Fix (eVar 1) (eC (.int 1))))) (eVar 0)))))
noncomputable def d_written_by (c : Fn → PX.Fun) : PX.Fun := runF 2 2 ((sRet (eCall (c .f_torn_by) [(eVar 0), (eVar 1), (eCall (c .f_signs_of) [(eVar 1)])])))
noncomputable def d_is_end (c : Fn → PX.Fun) : PX.Fun := runF 1 1 ((sRet (eMeth .str Mstarts (eVar 0) [(eBin Fadd (eC (.str [100])) (eC (.str [32])))])))
noncomputable def d_whole_notes (c : Fn → PX.Fun) : PX.Fun := runF 1 5 ((sSeq (sAsg (eCall (c .f_frames_by) [(eVar 0)]) (gT [(gN 1), (gN 2)]))
  (sRet (eCut (eVar 1) pNone (pSome (eCallK1 FmaxD [(eComp [3, 4] (iEnum 1 (eVar 1)) (gT [(gN 3), (gN 4)]) (tE (eCall (c .f_is_end) [(eVar 4)])) (eVar 3))] [(eC (.int 0))]))))))
noncomputable def d_end_of (c : Fn → PX.Fun) : PX.Fun := runF 1 2 ((sRet (eCall1 Fsum [(eComp [1] (iE (eVar 0)) (gN 1) tTrue (eBin Fadd (eC (.int 7)) (eCall1 Flen [(eVar 1)])))])))
noncomputable def d_trim_writes (c : Fn → PX.Fun) : PX.Fun := runF 2 2 ((sRet (eIf (tE (eBin Flt (eVar 1) (eCall1 Flen [(eVar 0)]))) (eLst [(eTup [(eC (.str S9e2cd3)), (eVar 1)])]) (eLst []))))
noncomputable def d_opened_by (c : Fn → PX.Fun) : PX.Fun := runF 1 2 ((sSeq (sAsg (eCall (c .f_whole_notes) [(eVar 0)]) (gN 1))
  (sRet (eTup [(eVar 1), (eCall (c .f_end_of) [(eVar 1)]), (eCall (c .f_trim_writes) [(eVar 0), (eCall (c .f_end_of) [(eVar 1)])])]))))
noncomputable def d_check_write (c : Fn → PX.Fun) : PX.Fun := runF 2 2 ((sIf (tNot' (tE (eCall (c .f_is_write_of) [(eVar 0), (eVar 1)]))) sFail sNil))
noncomputable def d_torn (c : Fn → PX.Fun) : PX.Fun := runF 3 3 ((sSeq (sExpr (eCall (c .f_check_signs) [(eVar 0)]))
  (sSeq (sExpr (eCall (c .f_check_write) [(eVar 0), (eVar 1)]))
  (sSeq (sIf (tNot' (tE (eCall (c .f_is_between) [(eVar 2), (eC (.int 0)), (eCall (c .f_signs_of) [(eVar 1)])]))) sFail sNil)
  (sRet (eCall (c .f_torn_by) [(eVar 0), (eVar 1), (eVar 2)]))))))
noncomputable def L1_behind_writes (c : Fn → PX.Fun) : PX.Sx := (sSeq (sExpr (eCall (c .f_check_write) [(eVar 2), (eVar 3)]))
  (sAsg (eCall (c .f_written_by) [(eVar 2), (eVar 3)]) (gN 2)))
noncomputable def d_behind_writes (c : Fn → PX.Fun) : PX.Fun := runF 2 4 ((sSeq (sExpr (eCall (c .f_check_signs) [(eVar 0)]))
  (sSeq (sIf (tNot' (tE (eIs (eVar 1) .tuple))) sFail sNil)
  (sSeq (sAsg (eVar 0) (gN 2))
  (sSeq (sFor (iE (eVar 1)) (gN 3) (L1_behind_writes c))
  (sRet (eVar 2)))))))
noncomputable def d_opened (c : Fn → PX.Fun) : PX.Fun := runF 1 4 ((sSeq (sExpr (eCall (c .f_check_signs) [(eVar 0)]))
  (sSeq (sAsg (eCall (c .f_opened_by) [(eVar 0)]) (gT [(gN 1), (gN 2), (gN 3)]))
  (sRet (eTup [(eCall1 Ftuple [(eVar 1)]), (eVar 2), (eCall1 Ftuple [(eVar 3)])])))))
noncomputable def d_frame (c : Fn → PX.Fun) : PX.Fun := runF 1 1 ((sSeq (sExpr (eCall (c .f_check_signs) [(eVar 0)]))
  (sSeq (sIf (tNot' (tE (eChain Fle Fle (eC (.int 1)) (eCall1 Flen [(eVar 0)]) (eC (.int 999))))) sFail sNil)
  (sRet (eCall (c .f_frame_of) [(eVar 0)])))))
noncomputable def d_frames_in (c : Fn → PX.Fun) : PX.Fun := runF 1 3 ((sSeq (sExpr (eCall (c .f_check_text) [(eVar 0)]))
  (sSeq (sAsg (eCall (c .f_frames_by) [(eVar 0)]) (gT [(gN 1), (gN 2)]))
  (sRet (eTup [(eCall1 Ftuple [(eVar 1)]), (eVar 2)])))))
noncomputable def L1__law_well (c : Fn → PX.Fun) : PX.Sx := (sAsg (eBin Fmod (eCall1 Fint [(eBin Fadd (eBin Fadd (eBin Fmul (eVar 3) (eC (.int 45013))) (eBin Fmod (eCall1 Fint [(eVar 4)]) (eC (.int 2147483399)))) (eC (.int 37)))]) (eC (.int 2147483563))) (gN 3))
noncomputable def d__law_well (c : Fn → PX.Fun) : PX.Fun := runF 2 5 ((sSeq (sAsg (eIf (tE (eBin Flt (eVar 1) (eCall1 Flen [(eVar 0)]))) (eCall1 Fint [(eBin Fix (eVar 0) (eVar 1))]) (eBin Fadd (eBin Fadd (eBin Fmul (eC (.int 9311)) (eVar 1)) (eBin Fmod (eCall1 Fint [(eCall1 Fsum [(eCut (eVar 0) pNone (pSome (eC (.int 2))))])]) (eC (.int 1000003)))) (eC (.int 71)))) (gN 2))
  (sSeq (sAsg (eBin Fadd (eC (.int 50021)) (eBin Fmul (eC (.int 1013)) (eVar 1))) (gN 3))
  (sSeq (sFor (iE (eBin Fadd (eCut (eVar 0) pNone (pSome (eC (.int 5)))) (eLst [(eVar 2)]))) (gN 4) (L1__law_well c))
  (sRet (eNew [(eIf (tOr' (tE (eBin Flt (eVar 2) (eC (.int 0)))) (tE (eBin Fge (eVar 2) (eBin Fpow (eC (.int 10)) (eC (.int 17)))))) (eCall1 Fabs [(eVar 2)]) (eC (.int 0))), (eVar 3), (eC (.int 0))]))))))
noncomputable def d__law_take (c : Fn → PX.Fun) : PX.Fun := runF 2 4 ((sSeq (sIf (tE (eBin Fgt (eBin Fix (eVar 0) (eC (.int 0))) (eC (.int 0)))) (sSeq (sAsg (eCall1 Fdivmod [(eBin Fix (eVar 0) (eC (.int 0))), (eVar 1)]) (gT [(gS (eVar 0) (eC (.int 0))), (gN 2)]))
  (sRet (eVar 2))) sNil)
  (sSeq (sAsg (eBin Fadd (eBin Fix (eVar 0) (eC (.int 2))) (eC (.int 1))) (gS (eVar 0) (eC (.int 2))))
  (sSeq (sAsg (eBin Fadd (eBin Fmod (eCall1 Fint [(eBin Fix (eVar 0) (eC (.int 1)))]) (eC (.int 28657))) (eC (.int 40009))) (gN 3))
  (sSeq (sAsg (eBin Fmod (eCall1 Fint [(eBin Fadd (eBin Fadd (eBin Fmul (eBin Fix (eVar 0) (eC (.int 1))) (eVar 3)) (eBin Fmul (eC (.int 50023)) (eBin Fix (eVar 0) (eC (.int 2))))) (eC (.int 17)))]) (eC (.int 2147483563))) (gS (eVar 0) (eC (.int 1))))
  (sRet (eBin Fmod (eCall1 Fint [(eBin Fdiv (eBin Fix (eVar 0) (eC (.int 1))) (eC (.int 83)))]) (eVar 1))))))))
noncomputable def d__law_pick (c : Fn → PX.Fun) : PX.Fun := runF 2 2 ((sRet (eBin Fix (eVar 1) (eCall (c .f__law_take) [(eVar 0), (eCall1 Flen [(eVar 1)])]))))
noncomputable def d__law_same (c : Fn → PX.Fun) : PX.Fun := runF 2 3 ((sSeq (sIf (tOr' (tE (eIs (eVar 1) .tuple)) (tE (eIs (eVar 1) .list))) (sSeq (sIf (tOr' (tE (eBin Fne (eIs (eVar 0) .tuple) (eIs (eVar 1) .tuple))) (tE (eBin Fne (eIs (eVar 0) .list) (eIs (eVar 1) .list)))) (sRet (eC (.bl false))) sNil)
  (sRet (eAnd (eBin Feq (eCall1 Flen [(eVar 0)]) (eCall1 Flen [(eVar 1)])) (eCall1 Fall [(eComp [2] (iRange [(eCall1 Flen [(eVar 1)])]) (gN 2) tTrue (eCall (c .f__law_same) [(eBin Fix (eVar 0) (eVar 2)), (eBin Fix (eVar 1) (eVar 2))]))])))) sNil)
  (sSeq (sIf (tE (eIsN (eVar 1))) (sRet (eIsN (eVar 0))) sNil)
  (sSeq (sIf (tE (eIs (eVar 1) .bool)) (sRet (eAnd (eIs (eVar 0) .bool) (eBin Feq (eVar 0) (eVar 1)))) sNil)
  (sSeq (sIf (tE (eIs (eVar 1) .int)) (sRet (eAnd (eIs (eVar 0) .int) (eAnd (eNot (eIs (eVar 0) .bool)) (eBin Feq (eVar 0) (eVar 1))))) sNil)
  (sRet (eAnd (eIs (eVar 0) .str) (eBin Feq (eVar 0) (eVar 1)))))))))
noncomputable def L1__law_check (c : Fn → PX.Fun) : PX.Sx := (sAsg (eBin Fadd (eVar 2) (eBin Fmul (eBin Fadd (eVar 3) (eC (.int 1))) (eBin Fadd (eMeth .str MidxS (eVar 1) [(eBin Fix (eVar 0) (eVar 3))]) (eC (.int 1))))) (gN 2))
noncomputable def d__law_check (c : Fn → PX.Fun) : PX.Fun := runF 1 4 ((sSeq (sAsg (eTup [(eC (.str S3338f9)), (eC (.int 0))]) (gT [(gN 1), (gN 2)]))
  (sSeq (sFor (iRange [(eCall1 Flen [(eVar 0)])]) (gN 3) (L1__law_check c))
  (sRet (eBin Fmod (eCall1 Fint [(eVar 2)]) (eC (.int 997)))))))
noncomputable def d__law_digits (c : Fn → PX.Fun) : PX.Fun := runF 2 2 ((sRet (eCut (eBin Fadd (eC (.str S4a7d1e)) (eCall1 Fstr [(eVar 0)])) (pSome (eUn Fneg (eVar 1))) pNone)))
noncomputable def d__law_frame (c : Fn → PX.Fun) : PX.Fun := runF 1 1 ((sRet (eBin Fadd (eBin Fadd (eCall (c .f__law_digits) [(eCall1 Flen [(eVar 0)]), (eC (.int 4))]) (eCall (c .f__law_digits) [(eCall (c .f__law_check) [(eVar 0)]), (eC (.int 3))])) (eVar 0))))
noncomputable def d__law_stream (c : Fn → PX.Fun) : PX.Fun := runF 1 2 ((sRet (eMeth .str Mjoin (eC (.str [])) [(eComp [1] (iE (eVar 0)) (gN 1) tTrue (eCall (c .f__law_frame) [(eVar 1)]))])))
noncomputable def L1__law_frames_in (c : Fn → PX.Fun) : PX.Sx := (sSeq (sAsg (eCut (eVar 0) (pSome (eVar 2)) (pSome (eBin Fadd (eVar 2) (eC (.int 7))))) (gN 4))
  (sSeq (sIf (tOr' (tE (eBin Flt (eCall1 Flen [(eVar 4)]) (eC (.int 7)))) (tE (eBin Fne (eComp [7] (iE (eVar 4)) (gN 7) (tE (eBin Fnin (eVar 7) (eC (.str S781e5e)))) (eVar 7)) (eLst [])))) (sRet (eTup [(eVar 1), (eVar 2)])) sNil)
  (sSeq (sAsg (eCall1 Fint [(eCut (eVar 4) pNone (pSome (eC (.int 4))))]) (gN 5))
  (sSeq (sAsg (eCut (eVar 0) (pSome (eBin Fadd (eVar 2) (eC (.int 7)))) (pSome (eBin Fadd (eBin Fadd (eVar 2) (eC (.int 7))) (eVar 5)))) (gN 6))
  (sSeq (sIf (tOr' (tE (eBin Feq (eVar 5) (eC (.int 0)))) (tOr' (tE (eBin Flt (eCall1 Flen [(eVar 6)]) (eVar 5))) (tE (eBin Fne (eComp [7] (iE (eVar 6)) (gN 7) (tE (eBin Fnin (eVar 7) (eC (.str S3338f9)))) (eVar 7)) (eLst []))))) (sRet (eTup [(eVar 1), (eVar 2)])) sNil)
  (sSeq (sIf (tE (eBin Fne (eCall (c .f__law_digits) [(eCall (c .f__law_check) [(eVar 6)]), (eC (.int 3))]) (eCut (eVar 4) (pSome (eC (.int 4))) pNone))) (sRet (eTup [(eVar 1), (eVar 2)])) sNil)
  (sPar [1, 2] [(eBin Fadd (eVar 1) (eTup [(eVar 6)])), (eBin Fadd (eBin Fadd (eVar 2) (eC (.int 7))) (eVar 5))])))))))
noncomputable def d__law_frames_in (c : Fn → PX.Fun) : PX.Fun := runF 1 8 ((sSeq (sAsg (eTup [(eTup []), (eC (.int 0))]) (gT [(gN 1), (gN 2)]))
  (sSeq (sFor (iRange [(eCall1 Flen [(eVar 0)])]) (gN 3) (L1__law_frames_in c))
  (sRet (eTup [(eVar 1), (eVar 2)])))))
noncomputable def d__law_opened (c : Fn → PX.Fun) : PX.Fun := runF 1 5 ((sSeq (sAsg (eBin Fix (eCall (c .f__law_frames_in) [(eVar 0)]) (eC (.int 0))) (gN 1))
  (sSeq (sAsg (eCall1 Fmax [(eBin Fadd (eComp [4] (iRange [(eCall1 Flen [(eVar 1)])]) (gN 4) (tE (eBin Feq (eCut (eBin Fix (eVar 1) (eVar 4)) pNone (pSome (eC (.int 2)))) (eC (.str [100, 32])))) (eBin Fadd (eVar 4) (eC (.int 1)))) (eLst [(eC (.int 0))]))]) (gN 2))
  (sSeq (sAsg (eCall1 Flen [(eCall (c .f__law_stream) [(eCut (eVar 1) pNone (pSome (eVar 2)))])]) (gN 3))
  (sRet (eTup [(eCut (eVar 1) pNone (pSome (eVar 2))), (eVar 3), (eIf (tE (eBin Flt (eVar 3) (eCall1 Flen [(eVar 0)]))) (eTup [(eTup [(eC (.str S9e2cd3)), (eVar 3)])]) (eTup []))]))))))
noncomputable def d__law_text (c : Fn → PX.Fun) : PX.Fun := runF 2 6 ((sSeq (sPar [2, 3] [(eCall (c .f__law_take) [(eVar 0), (eC (.int 4))]), (eBin Fadd (eC (.int 1)) (eCall (c .f__law_take) [(eVar 0), (eVar 1)]))])
  (sSeq (sIf (tE (eBin Feq (eVar 2) (eC (.int 3)))) (sRet (eBin Fadd (eBin Fadd (eC (.str [100, 32])) (eCall1 Fstr [(eBin Fadd (eC (.int 1)) (eCall (c .f__law_take) [(eVar 0), (eC (.int 9))]))])) (eCall (c .f__law_pick) [(eVar 0), (eLst [(eC (.str [])), (eC (.str S485b39)), (eC (.str Sf10ca9)), (eC (.str [32]))])]))) sNil)
  (sSeq (sAsg (eBin Fix (eLst [(eC (.str S3338f9)), (eC (.str S781e5e)), (eC (.str S8078ba))]) (eVar 2)) (gN 4))
  (sRet (eMeth .str Mjoin (eC (.str [])) [(eComp [5] (iRange [(eVar 3)]) (gN 5) tTrue (eCall (c .f__law_pick) [(eVar 0), (eVar 4)]))]))))))
noncomputable def L1__law_right (c : Fn → PX.Fun) : PX.Sx := (sIf (tE (eBin Feq (eCut (eBin Fix (eVar 1) (eVar 4)) pNone (pSome (eC (.int 2)))) (eC (.str [100, 32])))) (sExpr (eApp (eVar 3) (eTup [(eBin Fadd (eVar 4) (eC (.int 1))), (eCall1 Flen [(eCall (c .f__law_stream) [(eCut (eVar 1) pNone (pSome (eBin Fadd (eVar 4) (eC (.int 1)))))])])]))) sNil)
noncomputable def L2__law_right (c : Fn → PX.Fun) : PX.Sx := (sSeq (sAsg (eCall (c .f_torn) [(eVar 8), (eVar 10), (eVar 9)]) (gN 11))
  (sIf (tOr' (tNot' (tE (eCall (c .f__law_same) [(eCut (eCall (c .f_opened) [(eVar 11)]) pNone (pSome (eC (.int 2)))), (eCut (eVar 7) pNone (pSome (eC (.int 2))))]))) (tAnd' (tE (eBin Feq (eVar 9) (eC (.int 1)))) (tE (eBin Fne (eBin Fix (eCall (c .f_opened) [(eVar 11)]) (eC (.int 2))) (eTup []))))) (sRet (eC (.bl false))) sNil))
noncomputable def L3__law_right (c : Fn → PX.Fun) : PX.Sx := (sFor (iE (eBin Fix (eVar 7) (eC (.int 2)))) (gN 10) (L2__law_right c))
noncomputable def L4__law_right (c : Fn → PX.Fun) : PX.Sx := (sSeq (sAsg (eBin Fix (eComp [16] (iE (eVar 3)) (gN 16) (tE (eBin Fle (eBin Fix (eVar 16) (eC (.int 1))) (eVar 4))) (eVar 16)) (eUn Fneg (eC (.int 1)))) (gT [(gN 5), (gN 6)]))
  (sSeq (sAsg (eTup [(eCut (eVar 1) pNone (pSome (eVar 5))), (eVar 6), (eIf (tE (eBin Flt (eVar 6) (eVar 4))) (eTup [(eTup [(eC (.str S9e2cd3)), (eVar 6)])]) (eTup []))]) (gN 7))
  (sSeq (sAsg (eCut (eVar 2) pNone (pSome (eVar 4))) (gN 8))
  (sSeq (sIf (tNot' (tE (eCall (c .f__law_same) [(eCall (c .f_opened) [(eVar 8)]), (eVar 7)]))) (sRet (eC (.bl false))) sNil)
  (sIf (tE (eBin Feq (eCall (c .f__law_take) [(eVar 0), (eC (.int 12))]) (eC (.int 0)))) (sSeq (sFor (iE (eLst [(eC (.int 0)), (eC (.int 1))])) (gN 9) (L3__law_right c))
  (sSeq (sAsg (eCall (c .f_behind_writes) [(eVar 8), (eBin Fix (eVar 7) (eC (.int 2)))]) (gN 12))
  (sSeq (sAsg (eBin Fadd (eBin Fadd (eVar 12) (eCall (c .f_frame) [(eC (.str S94f0af))])) (eCall (c .f_frame) [(eC (.str Sc872f1))])) (gN 13))
  (sIf (tOr' (tNot' (tE (eCall (c .f__law_same) [(eCall (c .f_opened) [(eVar 13)]), (eTup [(eBin Fadd (eCut (eVar 1) pNone (pSome (eVar 5))) (eTup [(eC (.str S94f0af)), (eC (.str Sc872f1))])), (eCall1 Flen [(eVar 13)]), (eTup [])])]))) (tE (eBin Fne (eBin Fix (eCall (c .f_frames_in) [(eVar 12)]) (eC (.int 1))) (eCall1 Flen [(eVar 12)])))) (sRet (eC (.bl false))) sNil)))) sNil)))))
noncomputable def L5__law_right (c : Fn → PX.Fun) : PX.Sx := (sSeq (sAsg (eCall (c .f__law_take) [(eVar 0), (eCall1 Fmax [(eC (.int 1)), (eCall1 Flen [(eVar 2)])])]) (gN 4))
  (sSeq (sAsg (eBin Fadd (eBin Fadd (eBin Fadd (eCut (eVar 2) pNone (pSome (eVar 4))) (eCall (c .f__law_pick) [(eVar 0), (eC (.str S18bfb0))])) (eCut (eVar 2) (pSome (eBin Fadd (eVar 4) (eC (.int 1)))) pNone)) (eCall (c .f__law_pick) [(eVar 0), (eLst [(eC (.str [])), (eC (.str [48])), (eCall (c .f__law_frame) [(eC (.str Sd82ee8))]), (eBin Fadd (eCall (c .f__law_frame) [(eC (.str [100]))]) (eCall (c .f__law_frame) [(eC (.str S8b6550))]))])])) (gN 15))
  (sIf (tNot' (tE (eCall (c .f__law_same) [(eLst [(eCall (c .f_opened) [(eVar 15)]), (eCallK (c .f_opened) [0] [] [(eVar 15)])]), (eBin Fmul (eLst [(eCall (c .f__law_opened) [(eVar 15)])]) (eC (.int 2)))]))) (sRet (eC (.bl false))) sNil)))
noncomputable def d__law_right (c : Fn → PX.Fun) : PX.Fun := runF 2 17 ((sSeq (sPar [2, 3] [(eCall (c .f__law_stream) [(eVar 1)]), (eNew [(eTup [(eC (.int 0)), (eC (.int 0))])])])
  (sSeq (sFor (iRange [(eCall1 Flen [(eVar 1)])]) (gN 4) (L1__law_right c))
  (sSeq (sFor (iRange [(eC (.int 0)), (eBin Fadd (eCall1 Flen [(eVar 2)]) (eC (.int 1))), (eBin Fadd (eC (.int 1)) (eBin Fdiv (eCall1 Flen [(eVar 2)]) (eC (.int 20))))]) (gN 4) (L4__law_right c))
  (sSeq (sFor (iRange [(eC (.int 4))]) (gN 14) (L5__law_right c))
  (sRet (eC (.bl true))))))))
noncomputable def L1_law (c : Fn → PX.Fun) : PX.Sx := (sSeq (sAsg (eCall1 Ftuple [(eComp [5] (iRange [(eVar 3)]) (gN 5) tTrue (eCall (c .f__law_text) [(eVar 2), (eC (.int 25))]))]) (gN 4))
  (sIf (tOr' (tNot' (tE (eCall (c .f__law_right) [(eVar 2), (eVar 4)]))) (tNot' (tE (eCall (c .f__law_right) [(eVar 2), (eBin Fadd (eVar 4) (eTup [(eC (.str S687a61)), (eC (.str S0426fb)), (eC (.str Seb819f))]))])))) (sRet (eC (.bl false))) sNil))
noncomputable def L2_law (c : Fn → PX.Fun) : PX.Sx := (sSeq (sAsg (eCall (c .f__law_well) [(eVar 0), (eVar 1)]) (gN 2))
  (sFor (iE (eLst [(eC (.int 0)), (eC (.int 1)), (eC (.int 3)), (eC (.int 6))])) (gN 3) (L1_law c)))
noncomputable def d_law (c : Fn → PX.Fun) : PX.Fun := runF 1 6 ((sSeq (sFor (iRange [(eCall1 Fmax [(eC (.int 2)), (eCall1 Fmin [(eCall1 Flen [(eVar 0)]), (eC (.int 4))])])]) (gN 1) (L2_law c))
  (sRet (eC (.bl true)))))
noncomputable def body (c : Fn → PX.Fun) : Fn → PX.Fun
  | .f_is_whole => d_is_whole c
  | .f_is_between => d_is_between c
  | .f_is_tuple_of => d_is_tuple_of c
  | .f_is_text_of => d_is_text_of c
  | .f_is_signed => d_is_signed c
  | .f_check_text => d_check_text c
  | .f_check_signs => d_check_signs c
  | .f_is_write_of => d_is_write_of c
  | .f_signs_of => d_signs_of c
  | .f_check_of => d_check_of c
  | .f_frame_of => d_frame_of c
  | .f_text_at => d_text_at c
  | .f_frames_by => d_frames_by c
  | .f_torn_by => d_torn_by c
  | .f_written_by => d_written_by c
  | .f_is_end => d_is_end c
  | .f_whole_notes => d_whole_notes c
  | .f_end_of => d_end_of c
  | .f_trim_writes => d_trim_writes c
  | .f_opened_by => d_opened_by c
  | .f_check_write => d_check_write c
  | .f_torn => d_torn c
  | .f_behind_writes => d_behind_writes c
  | .f_opened => d_opened c
  | .f_frame => d_frame c
  | .f_frames_in => d_frames_in c
  | .f__law_well => d__law_well c
  | .f__law_take => d__law_take c
  | .f__law_pick => d__law_pick c
  | .f__law_same => d__law_same c
  | .f__law_check => d__law_check c
  | .f__law_digits => d__law_digits c
  | .f__law_frame => d__law_frame c
  | .f__law_stream => d__law_stream c
  | .f__law_frames_in => d__law_frames_in c
  | .f__law_opened => d__law_opened c
  | .f__law_text => d__law_text c
  | .f__law_right => d__law_right c
  | .f_law => d_law c
noncomputable def callN : Nat → Fn → PX.Fun
  | 0, _ => fun _ _ => .fail
  | k + 1, f => body (callN k) f
theorem un_is_whole (k : Nat) : callN (k + 1) .f_is_whole = d_is_whole (callN k) := (rfl)
theorem un_is_between (k : Nat) : callN (k + 1) .f_is_between = d_is_between (callN k) := (rfl)
theorem un_is_tuple_of (k : Nat) : callN (k + 1) .f_is_tuple_of = d_is_tuple_of (callN k) := (rfl)
theorem un_is_text_of (k : Nat) : callN (k + 1) .f_is_text_of = d_is_text_of (callN k) := (rfl)
theorem un_is_signed (k : Nat) : callN (k + 1) .f_is_signed = d_is_signed (callN k) := (rfl)
theorem un_check_text (k : Nat) : callN (k + 1) .f_check_text = d_check_text (callN k) := (rfl)
theorem un_check_signs (k : Nat) : callN (k + 1) .f_check_signs = d_check_signs (callN k) := (rfl)
theorem un_is_write_of (k : Nat) : callN (k + 1) .f_is_write_of = d_is_write_of (callN k) := (rfl)
theorem un_signs_of (k : Nat) : callN (k + 1) .f_signs_of = d_signs_of (callN k) := (rfl)
theorem un_check_of (k : Nat) : callN (k + 1) .f_check_of = d_check_of (callN k) := (rfl)
theorem un_frame_of (k : Nat) : callN (k + 1) .f_frame_of = d_frame_of (callN k) := (rfl)
theorem un_text_at (k : Nat) : callN (k + 1) .f_text_at = d_text_at (callN k) := (rfl)
theorem un_frames_by (k : Nat) : callN (k + 1) .f_frames_by = d_frames_by (callN k) := (rfl)
theorem un_torn_by (k : Nat) : callN (k + 1) .f_torn_by = d_torn_by (callN k) := (rfl)
theorem un_written_by (k : Nat) : callN (k + 1) .f_written_by = d_written_by (callN k) := (rfl)
theorem un_is_end (k : Nat) : callN (k + 1) .f_is_end = d_is_end (callN k) := (rfl)
theorem un_whole_notes (k : Nat) : callN (k + 1) .f_whole_notes = d_whole_notes (callN k) := (rfl)
theorem un_end_of (k : Nat) : callN (k + 1) .f_end_of = d_end_of (callN k) := (rfl)
theorem un_trim_writes (k : Nat) : callN (k + 1) .f_trim_writes = d_trim_writes (callN k) := (rfl)
theorem un_opened_by (k : Nat) : callN (k + 1) .f_opened_by = d_opened_by (callN k) := (rfl)
theorem un_check_write (k : Nat) : callN (k + 1) .f_check_write = d_check_write (callN k) := (rfl)
theorem un_torn (k : Nat) : callN (k + 1) .f_torn = d_torn (callN k) := (rfl)
theorem un_behind_writes (k : Nat) : callN (k + 1) .f_behind_writes = d_behind_writes (callN k) := (rfl)
theorem un_opened (k : Nat) : callN (k + 1) .f_opened = d_opened (callN k) := (rfl)
theorem un_frame (k : Nat) : callN (k + 1) .f_frame = d_frame (callN k) := (rfl)
theorem un_frames_in (k : Nat) : callN (k + 1) .f_frames_in = d_frames_in (callN k) := (rfl)
theorem un__law_well (k : Nat) : callN (k + 1) .f__law_well = d__law_well (callN k) := (rfl)
theorem un__law_take (k : Nat) : callN (k + 1) .f__law_take = d__law_take (callN k) := (rfl)
theorem un__law_pick (k : Nat) : callN (k + 1) .f__law_pick = d__law_pick (callN k) := (rfl)
theorem un__law_same (k : Nat) : callN (k + 1) .f__law_same = d__law_same (callN k) := (rfl)
theorem un__law_check (k : Nat) : callN (k + 1) .f__law_check = d__law_check (callN k) := (rfl)
theorem un__law_digits (k : Nat) : callN (k + 1) .f__law_digits = d__law_digits (callN k) := (rfl)
theorem un__law_frame (k : Nat) : callN (k + 1) .f__law_frame = d__law_frame (callN k) := (rfl)
theorem un__law_stream (k : Nat) : callN (k + 1) .f__law_stream = d__law_stream (callN k) := (rfl)
theorem un__law_frames_in (k : Nat) : callN (k + 1) .f__law_frames_in = d__law_frames_in (callN k) := (rfl)
theorem un__law_opened (k : Nat) : callN (k + 1) .f__law_opened = d__law_opened (callN k) := (rfl)
theorem un__law_text (k : Nat) : callN (k + 1) .f__law_text = d__law_text (callN k) := (rfl)
theorem un__law_right (k : Nat) : callN (k + 1) .f__law_right = d__law_right (callN k) := (rfl)
theorem un_law (k : Nat) : callN (k + 1) .f_law = d_law (callN k) := (rfl)
end LW

/-! ### the text reads as these functions -/
namespace LW
open PySem PySem.Spec PyProof.Rows L2 TL PX
abbrev topS (i : Nat) : Stmt := PySem.Challenge.pw_patchforms_k45_opening_cut_anywhere.main.body.getD i (.Pass ⟨0, 0, 0, 0⟩)
section
variable {P : Program} {w : World} {K : PySem.W.Frag} {mg : Str → Option Value} {base : Heap} {k : Nat}
abbrev s_is_whole : Stmt := topS 1
abbrev n_is_whole : List Str := ["value"]
abbrev p_is_whole : List Str := ["value"]
abbrev s_is_between : Stmt := topS 2
abbrev n_is_between : List Str := ["value", "low", "high"]
abbrev p_is_between : List Str := ["value", "low", "high"]
abbrev s_is_tuple_of : Stmt := topS 3
abbrev n_is_tuple_of : List Str := ["value", "many"]
abbrev p_is_tuple_of : List Str := ["value", "many"]
abbrev s_is_text_of : Stmt := topS 4
abbrev n_is_text_of : List Str := ["value", "signs", "sign"]
abbrev p_is_text_of : List Str := ["value", "signs"]
abbrev s_is_signed : Stmt := topS 8
abbrev n_is_signed : List Str := ["value"]
abbrev p_is_signed : List Str := ["value"]
abbrev s_check_text : Stmt := topS 15
abbrev n_check_text : List Str := ["text"]
abbrev p_check_text : List Str := ["text"]
abbrev s_check_signs : Stmt := topS 16
abbrev n_check_signs : List Str := ["text"]
abbrev p_check_signs : List Str := ["text"]
abbrev s_is_write_of : Stmt := topS 21
abbrev n_is_write_of : List Str := ["log", "value"]
abbrev p_is_write_of : List Str := ["log", "value"]
abbrev s_signs_of : Stmt := topS 22
abbrev n_signs_of : List Str := ["write"]
abbrev p_signs_of : List Str := ["write"]
abbrev s_check_of : Stmt := topS 28
abbrev n_check_of : List Str := ["text", "place", "sign"]
abbrev p_check_of : List Str := ["text"]
abbrev s_frame_of : Stmt := topS 29
abbrev n_frame_of : List Str := ["text"]
abbrev p_frame_of : List Str := ["text"]
abbrev s_text_at : Stmt := topS 30
abbrev n_text_at : List Str := ["stream", "start", "head", "length", "check", "text"]
abbrev p_text_at : List Str := ["stream", "start"]
abbrev s_frames_by : Stmt := topS 31
abbrev n_frames_by : List Str := ["stream", "found", "end", "text"]
abbrev p_frames_by : List Str := ["stream"]
abbrev s_torn_by : Stmt := topS 35
abbrev n_torn_by : List Str := ["log", "write", "number"]
abbrev p_torn_by : List Str := ["log", "write", "number"]
abbrev s_written_by : Stmt := topS 36
abbrev n_written_by : List Str := ["log", "write"]
abbrev p_written_by : List Str := ["log", "write"]
abbrev s_is_end : Stmt := topS 37
abbrev n_is_end : List Str := ["note"]
abbrev p_is_end : List Str := ["note"]
abbrev s_whole_notes : Stmt := topS 38
abbrev n_whole_notes : List Str := ["log", "notes", "_", "index", "note"]
abbrev p_whole_notes : List Str := ["log"]
abbrev s_end_of : Stmt := topS 39
abbrev n_end_of : List Str := ["notes", "note"]
abbrev p_end_of : List Str := ["notes"]
abbrev s_trim_writes : Stmt := topS 40
abbrev n_trim_writes : List Str := ["log", "end"]
abbrev p_trim_writes : List Str := ["log", "end"]
abbrev s_opened_by : Stmt := topS 41
abbrev n_opened_by : List Str := ["log", "notes"]
abbrev p_opened_by : List Str := ["log"]
abbrev s_check_write : Stmt := topS 43
abbrev n_check_write : List Str := ["log", "write"]
abbrev p_check_write : List Str := ["log", "write"]
abbrev s_torn : Stmt := topS 44
abbrev n_torn : List Str := ["log", "write", "number"]
abbrev p_torn : List Str := ["log", "write", "number"]
abbrev s_behind_writes : Stmt := topS 45
abbrev n_behind_writes : List Str := ["log", "writes", "found", "write"]
abbrev p_behind_writes : List Str := ["log", "writes"]
abbrev s_opened : Stmt := topS 46
abbrev n_opened : List Str := ["log", "notes", "end", "writes"]
abbrev p_opened : List Str := ["log"]
abbrev s_frame : Stmt := topS 49
abbrev n_frame : List Str := ["text"]
abbrev p_frame : List Str := ["text"]
abbrev s_frames_in : Stmt := topS 50
abbrev n_frames_in : List Str := ["text", "texts", "end"]
abbrev p_frames_in : List Str := ["text"]
abbrev s__law_well : Stmt := topS 52
abbrev n__law_well : List Str := ["script", "turn", "own", "stir", "cell"]
abbrev p__law_well : List Str := ["script", "turn"]
abbrev s__law_take : Stmt := topS 53
abbrev n__law_take : List Str := ["well", "many", "figure", "by"]
abbrev p__law_take : List Str := ["well", "many"]
abbrev s__law_pick : Stmt := topS 54
abbrev n__law_pick : List Str := ["well", "some"]
abbrev p__law_pick : List Str := ["well", "some"]
abbrev s__law_same : Stmt := topS 55
abbrev n__law_same : List Str := ["given", "due", "at"]
abbrev p__law_same : List Str := ["given", "due"]
abbrev s__law_check : Stmt := topS 56
abbrev n__law_check : List Str := ["text", "row", "total", "at"]
abbrev p__law_check : List Str := ["text"]
abbrev s__law_digits : Stmt := topS 57
abbrev n__law_digits : List Str := ["number", "many"]
abbrev p__law_digits : List Str := ["number", "many"]
abbrev s__law_frame : Stmt := topS 58
abbrev n__law_frame : List Str := ["text"]
abbrev p__law_frame : List Str := ["text"]
abbrev s__law_stream : Stmt := topS 59
abbrev n__law_stream : List Str := ["texts", "text"]
abbrev p__law_stream : List Str := ["texts"]
abbrev s__law_frames_in : Stmt := topS 60
abbrev n__law_frames_in : List Str := ["stream", "texts", "end", "turn", "head", "size", "text", "sign"]
abbrev p__law_frames_in : List Str := ["stream"]
abbrev s__law_opened : Stmt := topS 61
abbrev n__law_opened : List Str := ["log", "texts", "many", "end", "at"]
abbrev p__law_opened : List Str := ["log"]
abbrev s__law_text : Stmt := topS 62
abbrev n__law_text : List Str := ["well", "most", "manner", "many", "signs", "at"]
abbrev p__law_text : List Str := ["well", "most"]
abbrev s__law_right : Stmt := topS 63
abbrev n__law_right : List Str := ["well", "texts", "log", "ends", "at", "many", "end", "due", "cut", "number", "write", "here", "ready", "more", "turn", "bent", "each"]
abbrev p__law_right : List Str := ["well", "texts"]
abbrev s_law : Stmt := topS 64
abbrev n_law : List Str := ["script", "turn", "well", "many", "texts", "at"]
abbrev p_law : List Str := ["script"]
def nm : Fn → Str
  | .f_is_whole => "is_whole"
  | .f_is_between => "is_between"
  | .f_is_tuple_of => "is_tuple_of"
  | .f_is_text_of => "is_text_of"
  | .f_is_signed => "is_signed"
  | .f_check_text => "check_text"
  | .f_check_signs => "check_signs"
  | .f_is_write_of => "is_write_of"
  | .f_signs_of => "signs_of"
  | .f_check_of => "check_of"
  | .f_frame_of => "frame_of"
  | .f_text_at => "text_at"
  | .f_frames_by => "frames_by"
  | .f_torn_by => "torn_by"
  | .f_written_by => "written_by"
  | .f_is_end => "is_end"
  | .f_whole_notes => "whole_notes"
  | .f_end_of => "end_of"
  | .f_trim_writes => "trim_writes"
  | .f_opened_by => "opened_by"
  | .f_check_write => "check_write"
  | .f_torn => "torn"
  | .f_behind_writes => "behind_writes"
  | .f_opened => "opened"
  | .f_frame => "frame"
  | .f_frames_in => "frames_in"
  | .f__law_well => "_law_well"
  | .f__law_take => "_law_take"
  | .f__law_pick => "_law_pick"
  | .f__law_same => "_law_same"
  | .f__law_check => "_law_check"
  | .f__law_digits => "_law_digits"
  | .f__law_frame => "_law_frame"
  | .f__law_stream => "_law_stream"
  | .f__law_frames_in => "_law_frames_in"
  | .f__law_opened => "_law_opened"
  | .f__law_text => "_law_text"
  | .f__law_right => "_law_right"
  | .f_law => "law"
def sm : Fn → Stmt
  | .f_is_whole => s_is_whole
  | .f_is_between => s_is_between
  | .f_is_tuple_of => s_is_tuple_of
  | .f_is_text_of => s_is_text_of
  | .f_is_signed => s_is_signed
  | .f_check_text => s_check_text
  | .f_check_signs => s_check_signs
  | .f_is_write_of => s_is_write_of
  | .f_signs_of => s_signs_of
  | .f_check_of => s_check_of
  | .f_frame_of => s_frame_of
  | .f_text_at => s_text_at
  | .f_frames_by => s_frames_by
  | .f_torn_by => s_torn_by
  | .f_written_by => s_written_by
  | .f_is_end => s_is_end
  | .f_whole_notes => s_whole_notes
  | .f_end_of => s_end_of
  | .f_trim_writes => s_trim_writes
  | .f_opened_by => s_opened_by
  | .f_check_write => s_check_write
  | .f_torn => s_torn
  | .f_behind_writes => s_behind_writes
  | .f_opened => s_opened
  | .f_frame => s_frame
  | .f_frames_in => s_frames_in
  | .f__law_well => s__law_well
  | .f__law_take => s__law_take
  | .f__law_pick => s__law_pick
  | .f__law_same => s__law_same
  | .f__law_check => s__law_check
  | .f__law_digits => s__law_digits
  | .f__law_frame => s__law_frame
  | .f__law_stream => s__law_stream
  | .f__law_frames_in => s__law_frames_in
  | .f__law_opened => s__law_opened
  | .f__law_text => s__law_text
  | .f__law_right => s__law_right
  | .f_law => s_law
def pr : Fn → List Str
  | .f_is_whole => p_is_whole
  | .f_is_between => p_is_between
  | .f_is_tuple_of => p_is_tuple_of
  | .f_is_text_of => p_is_text_of
  | .f_is_signed => p_is_signed
  | .f_check_text => p_check_text
  | .f_check_signs => p_check_signs
  | .f_is_write_of => p_is_write_of
  | .f_signs_of => p_signs_of
  | .f_check_of => p_check_of
  | .f_frame_of => p_frame_of
  | .f_text_at => p_text_at
  | .f_frames_by => p_frames_by
  | .f_torn_by => p_torn_by
  | .f_written_by => p_written_by
  | .f_is_end => p_is_end
  | .f_whole_notes => p_whole_notes
  | .f_end_of => p_end_of
  | .f_trim_writes => p_trim_writes
  | .f_opened_by => p_opened_by
  | .f_check_write => p_check_write
  | .f_torn => p_torn
  | .f_behind_writes => p_behind_writes
  | .f_opened => p_opened
  | .f_frame => p_frame
  | .f_frames_in => p_frames_in
  | .f__law_well => p__law_well
  | .f__law_take => p__law_take
  | .f__law_pick => p__law_pick
  | .f__law_same => p__law_same
  | .f__law_check => p__law_check
  | .f__law_digits => p__law_digits
  | .f__law_frame => p__law_frame
  | .f__law_stream => p__law_stream
  | .f__law_frames_in => p__law_frames_in
  | .f__law_opened => p__law_opened
  | .f__law_text => p__law_text
  | .f__law_right => p__law_right
  | .f_law => p_law
structure Top (K : PySem.W.Frag) (mg : Str → Option Value) : Prop where
  f : ∀ g, Tp K mg (nm g) (sm g) (pr g)
  b_abs : mg "abs" = none
  b_all : mg "all" = none
  b_bool : mg "bool" = none
  b_divmod : mg "divmod" = none
  b_enumerate : mg "enumerate" = none
  b_int : mg "int" = none
  b_isinstance : mg "isinstance" = none
  b_len : mg "len" = none
  b_list : mg "list" = none
  b_max : mg "max" = none
  b_min : mg "min" = none
  b_range : mg "range" = none
  b_str : mg "str" = none
  b_sum : mg "sum" = none
  b_tuple : mg "tuple" = none
  g_ADD : GlobD K mg "ADD" (.str S34ec78)
  g_BLANK : GlobD K mg "BLANK" (.str [32])
  g_CHECK_DIGITS : GlobD K mg "CHECK_DIGITS" (.int 3)
  g_DIGITS : GlobD K mg "DIGITS" (.str S781e5e)
  g_HEAD : GlobD K mg "HEAD" (.int 7)
  g_LENGTH_DIGITS : GlobD K mg "LENGTH_DIGITS" (.int 4)
  g_LONGEST_FRAMED : GlobD K mg "LONGEST_FRAMED" (.int 999)
  g_LONGEST_WRITE : GlobD K mg "LONGEST_WRITE" (.int 40000)
  g_MODULUS : GlobD K mg "MODULUS" (.int 997)
  g_OF_END : GlobD K mg "OF_END" (.str [100])
  g_SIGNS : GlobD K mg "SIGNS" (.str S3338f9)
  g_TRIM : GlobD K mg "TRIM" (.str S9e2cd3)
theorem kw_opened_0_log {F : PX.Fun} (A : Fa P w K mg base k "opened" s_opened p_opened F) : FnK P w K mg base k "opened" 1 F 0 ["log"] [0] :=
  A.kw (by decide) fun _ _ _ _ _ _ us ws h1 h2 => match us, ws, h1, h2 with | [], [_], _, _ => rfl
theorem sc_is_whole : FnScope n_is_whole p_is_whole (defScope s_is_whole) := ⟨rfl, rfl, rfl, by decide +kernel, rfl, by decide +kernel, by decide +kernel⟩
theorem ok_is_whole (T : Top K mg) (IH : ∀ g, Fa P w K mg base k (nm g) (sm g) (pr g) (callN k g)) : Fa P w K mg base (k + 1) "is_whole" s_is_whole p_is_whole (d_is_whole (callN k)) := Fa.mk1 (T.f .f_is_whole) sc_is_whole rfl fun f cdv A outer s H E hr => by
  have hu := hr.units
  have hu5 := units5 hr
  have nd : (n_is_whole).Nodup := sc_is_whole.nd
  exact (ss_one (s_ret (x_and (x_is .int rfl rfl T.b_isinstance rfl T.b_int (xv 0) (by decide) (by decide)) (x_one (x_not (x_is .bool rfl rfl T.b_isinstance rfl T.b_bool (xv 0) (by decide) (by decide)))))))
theorem sc_is_between : FnScope n_is_between p_is_between (defScope s_is_between) := ⟨rfl, rfl, rfl, by decide +kernel, rfl, by decide +kernel, by decide +kernel⟩
theorem ok_is_between (T : Top K mg) (IH : ∀ g, Fa P w K mg base k (nm g) (sm g) (pr g) (callN k g)) : Fa P w K mg base (k + 1) "is_between" s_is_between p_is_between (d_is_between (callN k)) := Fa.mk1 (T.f .f_is_between) sc_is_between rfl fun f cdv A outer s H E hr => by
  have hu := hr.units
  have hu5 := units5 hr
  have nd : (n_is_between).Nodup := sc_is_between.nd
  exact (ss_one (s_ret (x_and (x_call (IH .f_is_whole).a hr rfl (a_cons (xv 0) a_nil)) (x_one (x_chain o_le o_le (xv 1) (xv 0) (xv 2))))))
theorem sc_is_tuple_of : FnScope n_is_tuple_of p_is_tuple_of (defScope s_is_tuple_of) := ⟨rfl, rfl, rfl, by decide +kernel, rfl, by decide +kernel, by decide +kernel⟩
theorem ok_is_tuple_of (T : Top K mg) (IH : ∀ g, Fa P w K mg base k (nm g) (sm g) (pr g) (callN k g)) : Fa P w K mg base (k + 1) "is_tuple_of" s_is_tuple_of p_is_tuple_of (d_is_tuple_of (callN k)) := Fa.mk1 (T.f .f_is_tuple_of) sc_is_tuple_of rfl fun f cdv A outer s H E hr => by
  have hu := hr.units
  have hu5 := units5 hr
  have nd : (n_is_tuple_of).Nodup := sc_is_tuple_of.nd
  exact (ss_one (s_ret (x_and (x_is .tuple rfl rfl T.b_isinstance rfl T.b_tuple (xv 0) (by decide) (by decide)) (x_one (x_cmp (o_eq hu) (x_callB c_len rfl T.b_len rfl (a_cons (xv 0) a_nil)) (xv 1) rfl)))))
theorem sc_is_text_of : FnScope n_is_text_of p_is_text_of (defScope s_is_text_of) := ⟨rfl, rfl, rfl, by decide +kernel, rfl, by decide +kernel, by decide +kernel⟩
theorem ok_is_text_of (T : Top K mg) (IH : ∀ g, Fa P w K mg base k (nm g) (sm g) (pr g) (callN k g)) : Fa P w K mg base (k + 1) "is_text_of" s_is_text_of p_is_text_of (d_is_text_of (callN k)) := Fa.mk1 (T.f .f_is_text_of) sc_is_text_of rfl fun f cdv A outer s H E hr => by
  have hu := hr.units
  have hu5 := units5 hr
  have nd : (n_is_text_of).Nodup := sc_is_text_of.nd
  exact (ss_one (s_ret (x_and (x_is .str rfl rfl T.b_isinstance rfl T.b_str (xv 0) (by decide) (by decide)) (x_one (x_callB (c_all rfl) rfl T.b_all rfl (a_cons (x_comp (own := [("sign", 2)]) rfl nd  (i_E (xv 0)) (blkOk_by (N := n_is_text_of) (sc := defScope s_is_text_of) (by decide +kernel)) (fun _ _ _ _ _ => (g_name (i := 2) nd rfl (by first | exact .inl rfl | exact .inr rfl))) (fun _ _ _ _ _ => ts_nil) (fun _ _ _ _ _ => (x_cmp (o_in hu5) (xv 2) (xv 1) rfl)) rfl) a_nil))))))
theorem sc_is_signed : FnScope n_is_signed p_is_signed (defScope s_is_signed) := ⟨rfl, rfl, rfl, by decide +kernel, rfl, by decide +kernel, by decide +kernel⟩
theorem ok_is_signed (T : Top K mg) (IH : ∀ g, Fa P w K mg base k (nm g) (sm g) (pr g) (callN k g)) : Fa P w K mg base (k + 1) "is_signed" s_is_signed p_is_signed (d_is_signed (callN k)) := Fa.mk1 (T.f .f_is_signed) sc_is_signed rfl fun f cdv A outer s H E hr => by
  have hu := hr.units
  have hu5 := units5 hr
  have nd : (n_is_signed).Nodup := sc_is_signed.nd
  exact (ss_one (s_ret (x_call (IH .f_is_text_of).a hr rfl (a_cons (xv 0) (a_cons (x_glob rfl T.g_SIGNS) a_nil)))))
theorem sc_check_text : FnScope n_check_text p_check_text (defScope s_check_text) := ⟨rfl, rfl, rfl, by decide +kernel, rfl, by decide +kernel, by decide +kernel⟩
theorem ok_check_text (T : Top K mg) (IH : ∀ g, Fa P w K mg base k (nm g) (sm g) (pr g) (callN k g)) : Fa P w K mg base (k + 1) "check_text" s_check_text p_check_text (d_check_text (callN k)) := Fa.mk1 (T.f .f_check_text) sc_check_text rfl fun f cdv A outer s H E hr => by
  have hu := hr.units
  have hu5 := units5 hr
  have nd : (n_check_text).Nodup := sc_check_text.nd
  exact (ss_one (s_if (y_not (y_tru (x_is .str rfl rfl T.b_isinstance rfl T.b_str (xv 0) (by decide) (by decide)) (by intro _; rfl))) (ss_one s_never) ss_nil))
theorem sc_check_signs : FnScope n_check_signs p_check_signs (defScope s_check_signs) := ⟨rfl, rfl, rfl, by decide +kernel, rfl, by decide +kernel, by decide +kernel⟩
theorem ok_check_signs (T : Top K mg) (IH : ∀ g, Fa P w K mg base k (nm g) (sm g) (pr g) (callN k g)) : Fa P w K mg base (k + 1) "check_signs" s_check_signs p_check_signs (d_check_signs (callN k)) := Fa.mk1 (T.f .f_check_signs) sc_check_signs rfl fun f cdv A outer s H E hr => by
  have hu := hr.units
  have hu5 := units5 hr
  have nd : (n_check_signs).Nodup := sc_check_signs.nd
  exact (ss_one (s_if (y_not (y_tru (x_call (IH .f_is_signed).a hr rfl (a_cons (xv 0) a_nil)) (by intro _; rfl))) (ss_one s_never) ss_nil))
theorem sc_is_write_of : FnScope n_is_write_of p_is_write_of (defScope s_is_write_of) := ⟨rfl, rfl, rfl, by decide +kernel, rfl, by decide +kernel, by decide +kernel⟩
theorem ok_is_write_of (T : Top K mg) (IH : ∀ g, Fa P w K mg base k (nm g) (sm g) (pr g) (callN k g)) : Fa P w K mg base (k + 1) "is_write_of" s_is_write_of p_is_write_of (d_is_write_of (callN k)) := Fa.mk1 (T.f .f_is_write_of) sc_is_write_of rfl fun f cdv A outer s H E hr => by
  have hu := hr.units
  have hu5 := units5 hr
  have nd : (n_is_write_of).Nodup := sc_is_write_of.nd
  exact (ss_cons (s_if (y_not (y_tru (x_call (IH .f_is_tuple_of).a hr rfl (a_cons (xv 1) (a_cons x_int a_nil))) (by intro _; rfl))) (ss_one (s_ret x_bl)) ss_nil)
  (ss_cons (s_if (y_cmp (o_eq hu) g_eq (x_ix (xv 1) x_int (by intro _ _; rfl)) (x_glob rfl T.g_TRIM) rfl) (ss_one (s_ret (x_call (IH .f_is_between).a hr rfl (a_cons (x_ix (xv 1) x_int (by intro _ _; rfl)) (a_cons x_int (a_cons (x_callB c_len rfl T.b_len rfl (a_cons (xv 0) a_nil)) a_nil)))))) ss_nil)
  (ss_one (s_ret (x_and (x_cmp (o_eq hu) (x_ix (xv 1) x_int (by intro _ _; rfl)) (x_glob rfl T.g_ADD) rfl) (x_and (x_call (IH .f_is_signed).a hr rfl (a_cons (x_ix (xv 1) x_int (by intro _ _; rfl)) a_nil)) (x_one (x_chain o_le o_le x_int (x_callB c_len rfl T.b_len rfl (a_cons (x_ix (xv 1) x_int (by intro _ _; rfl)) a_nil)) (x_glob rfl T.g_LONGEST_WRITE)))))))))
theorem sc_signs_of : FnScope n_signs_of p_signs_of (defScope s_signs_of) := ⟨rfl, rfl, rfl, by decide +kernel, rfl, by decide +kernel, by decide +kernel⟩
theorem ok_signs_of (T : Top K mg) (IH : ∀ g, Fa P w K mg base k (nm g) (sm g) (pr g) (callN k g)) : Fa P w K mg base (k + 1) "signs_of" s_signs_of p_signs_of (d_signs_of (callN k)) := Fa.mk1 (T.f .f_signs_of) sc_signs_of rfl fun f cdv A outer s H E hr => by
  have hu := hr.units
  have hu5 := units5 hr
  have nd : (n_signs_of).Nodup := sc_signs_of.nd
  exact (ss_one (s_ret (x_if (y_cmp (o_eq hu) g_eq (x_ix (xv 0) x_int (by intro _ _; rfl)) (x_glob rfl T.g_ADD) rfl) (x_callB c_len rfl T.b_len rfl (a_cons (x_ix (xv 0) x_int (by intro _ _; rfl)) a_nil)) x_int)))
theorem sc_check_of : FnScope n_check_of p_check_of (defScope s_check_of) := ⟨rfl, rfl, rfl, by decide +kernel, rfl, by decide +kernel, by decide +kernel⟩
theorem ok_check_of (T : Top K mg) (IH : ∀ g, Fa P w K mg base k (nm g) (sm g) (pr g) (callN k g)) : Fa P w K mg base (k + 1) "check_of" s_check_of p_check_of (d_check_of (callN k)) := Fa.mk1 (T.f .f_check_of) sc_check_of rfl fun f cdv A outer s H E hr => by
  have hu := hr.units
  have hu5 := units5 hr
  have nd : (n_check_of).Nodup := sc_check_of.nd
  exact (ss_one (s_ret (x_bin o_mod (x_callB (c_sum rfl) rfl T.b_sum rfl (a_cons (x_comp (own := [("place", 1), ("sign", 2)]) rfl nd  (i_enum2 rfl T.b_enumerate (xv 0) (by decide)) (blkOk_by (N := n_check_of) (sc := defScope s_check_of) (by decide +kernel)) (fun _ _ _ _ _ => (g_tup rfl (gs_cons (g_name (i := 1) nd rfl (by first | exact .inl rfl | exact .inr rfl)) (gs_cons (g_name (i := 2) nd rfl (by first | exact .inl rfl | exact .inr rfl)) gs_nil)))) (fun _ _ _ _ _ => ts_nil) (fun _ _ _ _ _ => (x_bin o_mul (xv 1) (x_bin o_add (x_meth .str (.inl rfl) PySem.F.plainAttrs_str PySem.F.slot_str_index PySem.F.type_str_index m_idxS (x_glob rfl T.g_SIGNS) (a_cons (xv 2) a_nil)) x_int))) rfl) a_nil)) (x_glob rfl T.g_MODULUS))))
theorem sc_frame_of : FnScope n_frame_of p_frame_of (defScope s_frame_of) := ⟨rfl, rfl, rfl, by decide +kernel, rfl, by decide +kernel, by decide +kernel⟩
theorem ok_frame_of (T : Top K mg) (IH : ∀ g, Fa P w K mg base k (nm g) (sm g) (pr g) (callN k g)) : Fa P w K mg base (k + 1) "frame_of" s_frame_of p_frame_of (d_frame_of (callN k)) := Fa.mk1 (T.f .f_frame_of) sc_frame_of rfl fun f cdv A outer s H E hr => by
  have hu := hr.units
  have hu5 := units5 hr
  have nd : (n_frame_of).Nodup := sc_frame_of.nd
  exact (ss_one (s_ret (x_bin o_add (x_bin o_add (x_meth .str (.inl rfl) PySem.F.plainAttrs_str PySem.F.slot_str_zfill PySem.F.type_str_zfill m_zfill (x_callT c_str rfl T.b_str rfl (a_cons (x_callB c_len rfl T.b_len rfl (a_cons (xv 0) a_nil)) a_nil)) (a_cons (x_glob rfl T.g_LENGTH_DIGITS) a_nil)) (x_meth .str (.inl rfl) PySem.F.plainAttrs_str PySem.F.slot_str_zfill PySem.F.type_str_zfill m_zfill (x_callT c_str rfl T.b_str rfl (a_cons (x_call (IH .f_check_of).a hr rfl (a_cons (xv 0) a_nil)) a_nil)) (a_cons (x_glob rfl T.g_CHECK_DIGITS) a_nil))) (xv 0))))
theorem sc_text_at : FnScope n_text_at p_text_at (defScope s_text_at) := ⟨rfl, rfl, rfl, by decide +kernel, rfl, by decide +kernel, by decide +kernel⟩
theorem ok_text_at (T : Top K mg) (IH : ∀ g, Fa P w K mg base k (nm g) (sm g) (pr g) (callN k g)) : Fa P w K mg base (k + 1) "text_at" s_text_at p_text_at (d_text_at (callN k)) := Fa.mk1 (T.f .f_text_at) sc_text_at rfl fun f cdv A outer s H E hr => by
  have hu := hr.units
  have hu5 := units5 hr
  have nd : (n_text_at).Nodup := sc_text_at.nd
  exact (ss_cons (s_set (i := 2) nd rfl (by first | exact .inl rfl | exact .inr rfl) (x_cut (xv 0) (p_some (xv 1)) (p_some (x_bin o_add (xv 1) (x_glob rfl T.g_HEAD)))))
  (ss_cons (s_if (y_bop (w_or (y_cmp o_lt g_lt (x_callB c_len rfl T.b_len rfl (a_cons (xv 2) a_nil)) (x_glob rfl T.g_HEAD) rfl) (w_or1 (y_not (y_tru (x_call (IH .f_is_text_of).a hr rfl (a_cons (xv 2) (a_cons (x_glob rfl T.g_DIGITS) a_nil))) (by intro _; rfl)))))) (ss_one (s_ret x_non)) ss_nil)
  (ss_cons (s_par2 (i := 3) (j := 4) rfl nd rfl rfl (by decide) rfl rfl (a_cons (x_callT c_int rfl T.b_int rfl (a_cons (x_cut (xv 2) p_none (p_some (x_glob rfl T.g_LENGTH_DIGITS))) a_nil)) (a_cons (x_callT c_int rfl T.b_int rfl (a_cons (x_cut (xv 2) (p_some (x_glob rfl T.g_LENGTH_DIGITS)) p_none) a_nil)) a_nil)) rfl)
  (ss_cons (s_set (i := 5) nd rfl (by first | exact .inl rfl | exact .inr rfl) (x_cut (xv 0) (p_some (x_bin o_add (xv 1) (x_glob rfl T.g_HEAD))) (p_some (x_bin o_add (x_bin o_add (xv 1) (x_glob rfl T.g_HEAD)) (xv 3)))))
  (ss_cons (s_if (y_bop (w_or (y_cmp (o_eq hu) g_eq (xv 3) x_int rfl) (w_or (y_cmp o_lt g_lt (x_callB c_len rfl T.b_len rfl (a_cons (xv 5) a_nil)) (xv 3) rfl) (w_or1 (y_not (y_tru (x_call (IH .f_is_text_of).a hr rfl (a_cons (xv 5) (a_cons (x_glob rfl T.g_SIGNS) a_nil))) (by intro _; rfl))))))) (ss_one (s_ret x_non)) ss_nil)
  (ss_one (s_ret (x_if (y_cmp (o_eq hu) g_eq (x_call (IH .f_check_of).a hr rfl (a_cons (xv 5) a_nil)) (xv 4) rfl) (xv 5) x_non))))))))
theorem sc_frames_by : FnScope n_frames_by p_frames_by (defScope s_frames_by) := ⟨rfl, rfl, rfl, by decide +kernel, rfl, by decide +kernel, by decide +kernel⟩
theorem ok_frames_by (T : Top K mg) (IH : ∀ g, Fa P w K mg base k (nm g) (sm g) (pr g) (callN k g)) : Fa P w K mg base (k + 1) "frames_by" s_frames_by p_frames_by (d_frames_by (callN k)) := Fa.mk1 (T.f .f_frames_by) sc_frames_by rfl fun f cdv A outer s H E hr => by
  have hu := hr.units
  have hu5 := units5 hr
  have nd : (n_frames_by).Nodup := sc_frames_by.nd
  exact (ss_cons (s_par3 (i := 1) (j := 2) (l := 3) rfl nd rfl rfl rfl (by decide) (by decide) (by decide) rfl rfl rfl (a_cons (x_new a_nil) (a_cons x_int (a_cons (x_call (IH .f_text_at).a hr rfl (a_cons (xv 0) (a_cons x_int a_nil))) a_nil))) rfl)
  (ss_cons (s_while PassesOwn.never (y_notN (xv 3)) (ss_cons (s_expr (x_app (xv 1) (xv 3)))
  (ss_cons (s_set (i := 2) nd rfl (by first | exact .inl rfl | exact .inr rfl) (x_bin o_add (x_bin o_add (xv 2) (x_glob rfl T.g_HEAD)) (x_callB c_len rfl T.b_len rfl (a_cons (xv 3) a_nil))))
  (ss_one (s_set (i := 3) nd rfl (by first | exact .inl rfl | exact .inr rfl) (x_call (IH .f_text_at).a hr rfl (a_cons (xv 0) (a_cons (xv 2) a_nil))))))))
  (ss_one (s_ret (x_tup (a_cons (xf 1) (a_cons (xv 2) a_nil)))))))
theorem sc_torn_by : FnScope n_torn_by p_torn_by (defScope s_torn_by) := ⟨rfl, rfl, rfl, by decide +kernel, rfl, by decide +kernel, by decide +kernel⟩
theorem ok_torn_by (T : Top K mg) (IH : ∀ g, Fa P w K mg base k (nm g) (sm g) (pr g) (callN k g)) : Fa P w K mg base (k + 1) "torn_by" s_torn_by p_torn_by (d_torn_by (callN k)) := Fa.mk1 (T.f .f_torn_by) sc_torn_by rfl fun f cdv A outer s H E hr => by
  have hu := hr.units
  have hu5 := units5 hr
  have nd : (n_torn_by).Nodup := sc_torn_by.nd
  exact (ss_cons (s_if (y_cmp (o_eq hu) g_eq (x_ix (xv 1) x_int (by intro _ _; rfl)) (x_glob rfl T.g_ADD) rfl) (ss_one (s_ret (x_bin o_add (xv 0) (x_cut (x_ix (xv 1) x_int (by intro _ _; rfl)) p_none (p_some (xv 2)))))) ss_nil)
  (ss_one (s_ret (x_if (y_cmp o_gt g_gt (xv 2) x_int rfl) (x_cut (xv 0) p_none (p_some (x_ix (xv 1) x_int (by intro _ _; rfl)))) (xv 0)))))
theorem sc_written_by : FnScope n_written_by p_written_by (defScope s_written_by) := ⟨rfl, rfl, rfl, by decide +kernel, rfl, by decide +kernel, by decide +kernel⟩
theorem ok_written_by (T : Top K mg) (IH : ∀ g, Fa P w K mg base k (nm g) (sm g) (pr g) (callN k g)) : Fa P w K mg base (k + 1) "written_by" s_written_by p_written_by (d_written_by (callN k)) := Fa.mk1 (T.f .f_written_by) sc_written_by rfl fun f cdv A outer s H E hr => by
  have hu := hr.units
  have hu5 := units5 hr
  have nd : (n_written_by).Nodup := sc_written_by.nd
  exact (ss_one (s_ret (x_call (IH .f_torn_by).a hr rfl (a_cons (xv 0) (a_cons (xv 1) (a_cons (x_call (IH .f_signs_of).a hr rfl (a_cons (xv 1) a_nil)) a_nil))))))
theorem sc_is_end : FnScope n_is_end p_is_end (defScope s_is_end) := ⟨rfl, rfl, rfl, by decide +kernel, rfl, by decide +kernel, by decide +kernel⟩
theorem ok_is_end (T : Top K mg) (IH : ∀ g, Fa P w K mg base k (nm g) (sm g) (pr g) (callN k g)) : Fa P w K mg base (k + 1) "is_end" s_is_end p_is_end (d_is_end (callN k)) := Fa.mk1 (T.f .f_is_end) sc_is_end rfl fun f cdv A outer s H E hr => by
  have hu := hr.units
  have hu5 := units5 hr
  have nd : (n_is_end).Nodup := sc_is_end.nd
  exact (ss_one (s_ret (x_meth .str (.inl rfl) PySem.F.plainAttrs_str PySem.F.slot_str_startswith PySem.F.type_str_startswith m_starts (xv 0) (a_cons (x_bin o_add (x_glob rfl T.g_OF_END) (x_glob rfl T.g_BLANK)) a_nil))))
theorem sc_whole_notes : FnScope n_whole_notes p_whole_notes (defScope s_whole_notes) := ⟨rfl, rfl, rfl, by decide +kernel, rfl, by decide +kernel, by decide +kernel⟩
theorem ok_whole_notes (T : Top K mg) (IH : ∀ g, Fa P w K mg base k (nm g) (sm g) (pr g) (callN k g)) : Fa P w K mg base (k + 1) "whole_notes" s_whole_notes p_whole_notes (d_whole_notes (callN k)) := Fa.mk1 (T.f .f_whole_notes) sc_whole_notes rfl fun f cdv A outer s H E hr => by
  have hu := hr.units
  have hu5 := units5 hr
  have nd : (n_whole_notes).Nodup := sc_whole_notes.nd
  exact (ss_cons (s_asg (x_call (IH .f_frames_by).a hr rfl (a_cons (xv 0) a_nil)) (g_tup rfl (gs_cons (g_name (i := 1) nd rfl (by first | exact .inl rfl | exact .inr rfl)) (gs_cons (g_name (i := 2) nd rfl (by first | exact .inl rfl | exact .inr rfl)) gs_nil))))
  (ss_one (s_ret (x_cut (xv 1) p_none (p_some (x_callBK (c_maxD rfl hu) rfl T.b_max rfl (a_cons (x_comp (own := [("index", 3), ("note", 4)]) rfl nd  (i_enum2 rfl T.b_enumerate (xv 1) (by decide)) (blkOk_by (N := n_whole_notes) (sc := defScope s_whole_notes) (by decide +kernel)) (fun _ _ _ _ _ => (g_tup rfl (gs_cons (g_name (i := 3) nd rfl (by first | exact .inl rfl | exact .inr rfl)) (gs_cons (g_name (i := 4) nd rfl (by first | exact .inl rfl | exact .inr rfl)) gs_nil)))) (fun _ _ _ _ _ => (ts_one (y_tru (x_call (IH .f_is_end).a hr rfl (a_cons (xv 4) a_nil)) (by intro _; rfl)))) (fun _ _ _ _ _ => (xv 3)) rfl) a_nil) (k_cons x_int k_nil)))))))
theorem sc_end_of : FnScope n_end_of p_end_of (defScope s_end_of) := ⟨rfl, rfl, rfl, by decide +kernel, rfl, by decide +kernel, by decide +kernel⟩
theorem ok_end_of (T : Top K mg) (IH : ∀ g, Fa P w K mg base k (nm g) (sm g) (pr g) (callN k g)) : Fa P w K mg base (k + 1) "end_of" s_end_of p_end_of (d_end_of (callN k)) := Fa.mk1 (T.f .f_end_of) sc_end_of rfl fun f cdv A outer s H E hr => by
  have hu := hr.units
  have hu5 := units5 hr
  have nd : (n_end_of).Nodup := sc_end_of.nd
  exact (ss_one (s_ret (x_callB (c_sum rfl) rfl T.b_sum rfl (a_cons (x_comp (own := [("note", 1)]) rfl nd  (i_E (xv 0)) (blkOk_by (N := n_end_of) (sc := defScope s_end_of) (by decide +kernel)) (fun _ _ _ _ _ => (g_name (i := 1) nd rfl (by first | exact .inl rfl | exact .inr rfl))) (fun _ _ _ _ _ => ts_nil) (fun _ _ _ _ _ => (x_bin o_add (x_glob rfl T.g_HEAD) (x_callB c_len rfl T.b_len rfl (a_cons (xv 1) a_nil)))) rfl) a_nil))))
theorem sc_trim_writes : FnScope n_trim_writes p_trim_writes (defScope s_trim_writes) := ⟨rfl, rfl, rfl, by decide +kernel, rfl, by decide +kernel, by decide +kernel⟩
theorem ok_trim_writes (T : Top K mg) (IH : ∀ g, Fa P w K mg base k (nm g) (sm g) (pr g) (callN k g)) : Fa P w K mg base (k + 1) "trim_writes" s_trim_writes p_trim_writes (d_trim_writes (callN k)) := Fa.mk1 (T.f .f_trim_writes) sc_trim_writes rfl fun f cdv A outer s H E hr => by
  have hu := hr.units
  have hu5 := units5 hr
  have nd : (n_trim_writes).Nodup := sc_trim_writes.nd
  exact (ss_one (s_ret (x_if (y_cmp o_lt g_lt (xv 1) (x_callB c_len rfl T.b_len rfl (a_cons (xv 0) a_nil)) rfl) (x_lst (a_cons (x_tup (a_cons (x_glob rfl T.g_TRIM) (a_cons (xv 1) a_nil))) a_nil)) (x_lst a_nil))))
theorem sc_opened_by : FnScope n_opened_by p_opened_by (defScope s_opened_by) := ⟨rfl, rfl, rfl, by decide +kernel, rfl, by decide +kernel, by decide +kernel⟩
theorem ok_opened_by (T : Top K mg) (IH : ∀ g, Fa P w K mg base k (nm g) (sm g) (pr g) (callN k g)) : Fa P w K mg base (k + 1) "opened_by" s_opened_by p_opened_by (d_opened_by (callN k)) := Fa.mk1 (T.f .f_opened_by) sc_opened_by rfl fun f cdv A outer s H E hr => by
  have hu := hr.units
  have hu5 := units5 hr
  have nd : (n_opened_by).Nodup := sc_opened_by.nd
  exact (ss_cons (s_set (i := 1) nd rfl (by first | exact .inl rfl | exact .inr rfl) (x_call (IH .f_whole_notes).a hr rfl (a_cons (xv 0) a_nil)))
  (ss_one (s_ret (x_tup (a_cons (xv 1) (a_cons (x_call (IH .f_end_of).a hr rfl (a_cons (xv 1) a_nil)) (a_cons (x_call (IH .f_trim_writes).a hr rfl (a_cons (xv 0) (a_cons (x_call (IH .f_end_of).a hr rfl (a_cons (xv 1) a_nil)) a_nil))) a_nil)))))))
theorem sc_check_write : FnScope n_check_write p_check_write (defScope s_check_write) := ⟨rfl, rfl, rfl, by decide +kernel, rfl, by decide +kernel, by decide +kernel⟩
theorem ok_check_write (T : Top K mg) (IH : ∀ g, Fa P w K mg base k (nm g) (sm g) (pr g) (callN k g)) : Fa P w K mg base (k + 1) "check_write" s_check_write p_check_write (d_check_write (callN k)) := Fa.mk1 (T.f .f_check_write) sc_check_write rfl fun f cdv A outer s H E hr => by
  have hu := hr.units
  have hu5 := units5 hr
  have nd : (n_check_write).Nodup := sc_check_write.nd
  exact (ss_one (s_if (y_not (y_tru (x_call (IH .f_is_write_of).a hr rfl (a_cons (xv 0) (a_cons (xv 1) a_nil))) (by intro _; rfl))) (ss_one s_never) ss_nil))
theorem sc_torn : FnScope n_torn p_torn (defScope s_torn) := ⟨rfl, rfl, rfl, by decide +kernel, rfl, by decide +kernel, by decide +kernel⟩
theorem ok_torn (T : Top K mg) (IH : ∀ g, Fa P w K mg base k (nm g) (sm g) (pr g) (callN k g)) : Fa P w K mg base (k + 1) "torn" s_torn p_torn (d_torn (callN k)) := Fa.mk1 (T.f .f_torn) sc_torn rfl fun f cdv A outer s H E hr => by
  have hu := hr.units
  have hu5 := units5 hr
  have nd : (n_torn).Nodup := sc_torn.nd
  exact (ss_cons (s_expr (x_call (IH .f_check_signs).a hr rfl (a_cons (xv 0) a_nil)))
  (ss_cons (s_expr (x_call (IH .f_check_write).a hr rfl (a_cons (xv 0) (a_cons (xv 1) a_nil))))
  (ss_cons (s_if (y_not (y_tru (x_call (IH .f_is_between).a hr rfl (a_cons (xv 2) (a_cons x_int (a_cons (x_call (IH .f_signs_of).a hr rfl (a_cons (xv 1) a_nil)) a_nil)))) (by intro _; rfl))) (ss_one s_never) ss_nil)
  (ss_one (s_ret (x_call (IH .f_torn_by).a hr rfl (a_cons (xv 0) (a_cons (xv 1) (a_cons (xv 2) a_nil)))))))))
theorem sc_behind_writes : FnScope n_behind_writes p_behind_writes (defScope s_behind_writes) := ⟨rfl, rfl, rfl, by decide +kernel, rfl, by decide +kernel, by decide +kernel⟩
theorem ok_behind_writes (T : Top K mg) (IH : ∀ g, Fa P w K mg base k (nm g) (sm g) (pr g) (callN k g)) : Fa P w K mg base (k + 1) "behind_writes" s_behind_writes p_behind_writes (d_behind_writes (callN k)) := Fa.mk1 (T.f .f_behind_writes) sc_behind_writes rfl fun f cdv A outer s H E hr => by
  have hu := hr.units
  have hu5 := units5 hr
  have nd : (n_behind_writes).Nodup := sc_behind_writes.nd
  exact (ss_cons (s_expr (x_call (IH .f_check_signs).a hr rfl (a_cons (xv 0) a_nil)))
  (ss_cons (s_if (y_not (y_tru (x_is .tuple rfl rfl T.b_isinstance rfl T.b_tuple (xv 1) (by decide) (by decide)) (by intro _; rfl))) (ss_one s_never) ss_nil)
  (ss_cons (s_set (i := 2) nd rfl (by first | exact .inl rfl | exact .inr rfl) (xv 0))
  (ss_cons (s_for PassesOwn.never rfl (i_E (xv 1)) (g_name (i := 3) nd rfl (by first | exact .inl rfl | exact .inr rfl)) (ss_cons (s_expr (x_call (IH .f_check_write).a hr rfl (a_cons (xv 2) (a_cons (xv 3) a_nil))))
  (ss_one (s_set (i := 2) nd rfl (by first | exact .inl rfl | exact .inr rfl) (x_call (IH .f_written_by).a hr rfl (a_cons (xv 2) (a_cons (xv 3) a_nil)))))))
  (ss_one (s_ret (xv 2)))))))
theorem sc_opened : FnScope n_opened p_opened (defScope s_opened) := ⟨rfl, rfl, rfl, by decide +kernel, rfl, by decide +kernel, by decide +kernel⟩
theorem ok_opened (T : Top K mg) (IH : ∀ g, Fa P w K mg base k (nm g) (sm g) (pr g) (callN k g)) : Fa P w K mg base (k + 1) "opened" s_opened p_opened (d_opened (callN k)) := Fa.mk1 (T.f .f_opened) sc_opened rfl fun f cdv A outer s H E hr => by
  have hu := hr.units
  have hu5 := units5 hr
  have nd : (n_opened).Nodup := sc_opened.nd
  exact (ss_cons (s_expr (x_call (IH .f_check_signs).a hr rfl (a_cons (xv 0) a_nil)))
  (ss_cons (s_asg (x_call (IH .f_opened_by).a hr rfl (a_cons (xv 0) a_nil)) (g_tup rfl (gs_cons (g_name (i := 1) nd rfl (by first | exact .inl rfl | exact .inr rfl)) (gs_cons (g_name (i := 2) nd rfl (by first | exact .inl rfl | exact .inr rfl)) (gs_cons (g_name (i := 3) nd rfl (by first | exact .inl rfl | exact .inr rfl)) gs_nil)))))
  (ss_one (s_ret (x_tup (a_cons (x_callT c_tuple rfl T.b_tuple rfl (a_cons (xv 1) a_nil)) (a_cons (xv 2) (a_cons (x_callT c_tuple rfl T.b_tuple rfl (a_cons (xv 3) a_nil)) a_nil))))))))
theorem sc_frame : FnScope n_frame p_frame (defScope s_frame) := ⟨rfl, rfl, rfl, by decide +kernel, rfl, by decide +kernel, by decide +kernel⟩
theorem ok_frame (T : Top K mg) (IH : ∀ g, Fa P w K mg base k (nm g) (sm g) (pr g) (callN k g)) : Fa P w K mg base (k + 1) "frame" s_frame p_frame (d_frame (callN k)) := Fa.mk1 (T.f .f_frame) sc_frame rfl fun f cdv A outer s H E hr => by
  have hu := hr.units
  have hu5 := units5 hr
  have nd : (n_frame).Nodup := sc_frame.nd
  exact (ss_cons (s_expr (x_call (IH .f_check_signs).a hr rfl (a_cons (xv 0) a_nil)))
  (ss_cons (s_if (y_not (y_chain o_le o_le x_int (x_callB c_len rfl T.b_len rfl (a_cons (xv 0) a_nil)) (x_glob rfl T.g_LONGEST_FRAMED))) (ss_one s_never) ss_nil)
  (ss_one (s_ret (x_call (IH .f_frame_of).a hr rfl (a_cons (xv 0) a_nil))))))
theorem sc_frames_in : FnScope n_frames_in p_frames_in (defScope s_frames_in) := ⟨rfl, rfl, rfl, by decide +kernel, rfl, by decide +kernel, by decide +kernel⟩
theorem ok_frames_in (T : Top K mg) (IH : ∀ g, Fa P w K mg base k (nm g) (sm g) (pr g) (callN k g)) : Fa P w K mg base (k + 1) "frames_in" s_frames_in p_frames_in (d_frames_in (callN k)) := Fa.mk1 (T.f .f_frames_in) sc_frames_in rfl fun f cdv A outer s H E hr => by
  have hu := hr.units
  have hu5 := units5 hr
  have nd : (n_frames_in).Nodup := sc_frames_in.nd
  exact (ss_cons (s_expr (x_call (IH .f_check_text).a hr rfl (a_cons (xv 0) a_nil)))
  (ss_cons (s_asg (x_call (IH .f_frames_by).a hr rfl (a_cons (xv 0) a_nil)) (g_tup rfl (gs_cons (g_name (i := 1) nd rfl (by first | exact .inl rfl | exact .inr rfl)) (gs_cons (g_name (i := 2) nd rfl (by first | exact .inl rfl | exact .inr rfl)) gs_nil))))
  (ss_one (s_ret (x_tup (a_cons (x_callT c_tuple rfl T.b_tuple rfl (a_cons (xv 1) a_nil)) (a_cons (xv 2) a_nil)))))))
theorem sc__law_well : FnScope n__law_well p__law_well (defScope s__law_well) := ⟨rfl, rfl, rfl, by decide +kernel, rfl, by decide +kernel, by decide +kernel⟩
theorem ok__law_well (T : Top K mg) (IH : ∀ g, Fa P w K mg base k (nm g) (sm g) (pr g) (callN k g)) : Fa P w K mg base (k + 1) "_law_well" s__law_well p__law_well (d__law_well (callN k)) := Fa.mk1 (T.f .f__law_well) sc__law_well rfl fun f cdv A outer s H E hr => by
  have hu := hr.units
  have hu5 := units5 hr
  have nd : (n__law_well).Nodup := sc__law_well.nd
  exact (ss_cons (s_set (i := 2) nd rfl (by first | exact .inl rfl | exact .inr rfl) (x_if (y_cmp o_lt g_lt (xv 1) (x_callB c_len rfl T.b_len rfl (a_cons (xv 0) a_nil)) rfl) (x_callT c_int rfl T.b_int rfl (a_cons (x_ix (xv 0) (xv 1) (by intro _ _; rfl)) a_nil)) (x_bin o_add (x_bin o_add (x_bin o_mul x_int (xv 1)) (x_bin o_mod (x_callT c_int rfl T.b_int rfl (a_cons (x_callB (c_sum rfl) rfl T.b_sum rfl (a_cons (x_cut (xv 0) p_none (p_some x_int)) a_nil)) a_nil)) x_int)) x_int)))
  (ss_cons (s_set (i := 3) nd rfl (by first | exact .inl rfl | exact .inr rfl) (x_bin o_add x_int (x_bin o_mul x_int (xv 1))))
  (ss_cons (s_for PassesOwn.never rfl (i_E (x_bin o_add (x_cut (xv 0) p_none (p_some x_int)) (x_lst (a_cons (xv 2) a_nil)))) (g_name (i := 4) nd rfl (by first | exact .inl rfl | exact .inr rfl)) (ss_one (s_set (i := 3) nd rfl (by first | exact .inl rfl | exact .inr rfl) (x_bin o_mod (x_callT c_int rfl T.b_int rfl (a_cons (x_bin o_add (x_bin o_add (x_bin o_mul (xv 3) x_int) (x_bin o_mod (x_callT c_int rfl T.b_int rfl (a_cons (xv 4) a_nil)) x_int)) x_int) a_nil)) x_int))))
  (ss_one (s_ret (x_new (a_cons (x_if (y_bop (w_or (y_cmp o_lt g_lt (xv 2) x_int rfl) (w_or1 (y_cmp o_ge g_ge (xv 2) (x_bin o_pow x_int x_int) rfl)))) (x_callB c_abs rfl T.b_abs rfl (a_cons (xv 2) a_nil)) x_int) (a_cons (xv 3) (a_cons x_int a_nil)))))))))
theorem sc__law_take : FnScope n__law_take p__law_take (defScope s__law_take) := ⟨rfl, rfl, rfl, by decide +kernel, rfl, by decide +kernel, by decide +kernel⟩
theorem ok__law_take (T : Top K mg) (IH : ∀ g, Fa P w K mg base k (nm g) (sm g) (pr g) (callN k g)) : Fa P w K mg base (k + 1) "_law_take" s__law_take p__law_take (d__law_take (callN k)) := Fa.mk1 (T.f .f__law_take) sc__law_take rfl fun f cdv A outer s H E hr => by
  have hu := hr.units
  have hu5 := units5 hr
  have nd : (n__law_take).Nodup := sc__law_take.nd
  exact (ss_cons (s_if (y_cmp o_gt g_gt (x_ix (xv 0) x_int (by intro _ _; rfl)) x_int rfl) (ss_cons (s_asg (x_callB c_divmod rfl T.b_divmod rfl (a_cons (x_ix (xv 0) x_int (by intro _ _; rfl)) (a_cons (xv 1) a_nil))) (g_tup rfl (gs_cons (g_sub (xv 0) x_int (by intro _; rfl)) (gs_cons (g_name (i := 2) nd rfl (by first | exact .inl rfl | exact .inr rfl)) gs_nil))))
  (ss_one (s_ret (xv 2)))) ss_nil)
  (ss_cons (s_asg (x_bin o_add (x_ix (xv 0) x_int (by intro _ _; rfl)) x_int) (g_sub (xv 0) x_int (by intro _; rfl)))
  (ss_cons (s_set (i := 3) nd rfl (by first | exact .inl rfl | exact .inr rfl) (x_bin o_add (x_bin o_mod (x_callT c_int rfl T.b_int rfl (a_cons (x_ix (xv 0) x_int (by intro _ _; rfl)) a_nil)) x_int) x_int))
  (ss_cons (s_asg (x_bin o_mod (x_callT c_int rfl T.b_int rfl (a_cons (x_bin o_add (x_bin o_add (x_bin o_mul (x_ix (xv 0) x_int (by intro _ _; rfl)) (xv 3)) (x_bin o_mul x_int (x_ix (xv 0) x_int (by intro _ _; rfl)))) x_int) a_nil)) x_int) (g_sub (xv 0) x_int (by intro _; rfl)))
  (ss_one (s_ret (x_bin o_mod (x_callT c_int rfl T.b_int rfl (a_cons (x_bin o_div (x_ix (xv 0) x_int (by intro _ _; rfl)) x_int) a_nil)) (xv 1))))))))
theorem sc__law_pick : FnScope n__law_pick p__law_pick (defScope s__law_pick) := ⟨rfl, rfl, rfl, by decide +kernel, rfl, by decide +kernel, by decide +kernel⟩
theorem ok__law_pick (T : Top K mg) (IH : ∀ g, Fa P w K mg base k (nm g) (sm g) (pr g) (callN k g)) : Fa P w K mg base (k + 1) "_law_pick" s__law_pick p__law_pick (d__law_pick (callN k)) := Fa.mk1 (T.f .f__law_pick) sc__law_pick rfl fun f cdv A outer s H E hr => by
  have hu := hr.units
  have hu5 := units5 hr
  have nd : (n__law_pick).Nodup := sc__law_pick.nd
  exact (ss_one (s_ret (x_ix (xv 1) (x_call (IH .f__law_take).a hr rfl (a_cons (xv 0) (a_cons (x_callB c_len rfl T.b_len rfl (a_cons (xv 1) a_nil)) a_nil))) (by intro _ _; rfl))))
theorem sc__law_same : FnScope n__law_same p__law_same (defScope s__law_same) := ⟨rfl, rfl, rfl, by decide +kernel, rfl, by decide +kernel, by decide +kernel⟩
theorem ok__law_same (T : Top K mg) (IH : ∀ g, Fa P w K mg base k (nm g) (sm g) (pr g) (callN k g)) : Fa P w K mg base (k + 1) "_law_same" s__law_same p__law_same (d__law_same (callN k)) := Fa.mk1 (T.f .f__law_same) sc__law_same rfl fun f cdv A outer s H E hr => by
  have hu := hr.units
  have hu5 := units5 hr
  have nd : (n__law_same).Nodup := sc__law_same.nd
  exact (ss_cons (s_if (y_bop (w_or (y_tru (x_is .tuple rfl rfl T.b_isinstance rfl T.b_tuple (xv 1) (by decide) (by decide)) (by intro _; rfl)) (w_or1 (y_tru (x_is .list rfl rfl T.b_isinstance rfl T.b_list (xv 1) (by decide) (by decide)) (by intro _; rfl))))) (ss_cons (s_if (y_bop (w_or (y_cmp (o_ne hu) g_ne (x_is .tuple rfl rfl T.b_isinstance rfl T.b_tuple (xv 0) (by decide) (by decide)) (x_is .tuple rfl rfl T.b_isinstance rfl T.b_tuple (xv 1) (by decide) (by decide)) rfl) (w_or1 (y_cmp (o_ne hu) g_ne (x_is .list rfl rfl T.b_isinstance rfl T.b_list (xv 0) (by decide) (by decide)) (x_is .list rfl rfl T.b_isinstance rfl T.b_list (xv 1) (by decide) (by decide)) rfl)))) (ss_one (s_ret x_bl)) ss_nil)
  (ss_one (s_ret (x_and (x_cmp (o_eq hu) (x_callB c_len rfl T.b_len rfl (a_cons (xv 0) a_nil)) (x_callB c_len rfl T.b_len rfl (a_cons (xv 1) a_nil)) rfl) (x_one (x_callB (c_all rfl) rfl T.b_all rfl (a_cons (x_comp (own := [("at", 2)]) rfl nd  (i_range1 rfl T.b_range (a_cons (x_callB c_len rfl T.b_len rfl (a_cons (xv 1) a_nil)) a_nil)) (blkOk_by (N := n__law_same) (sc := defScope s__law_same) (by decide +kernel)) (fun _ _ _ _ _ => (g_name (i := 2) nd rfl (by first | exact .inl rfl | exact .inr rfl))) (fun _ _ _ _ _ => ts_nil) (fun _ _ _ _ _ => (x_call (IH .f__law_same).a hr rfl (a_cons (x_ix (xv 0) (xv 2) (by intro _ _; rfl)) (a_cons (x_ix (xv 1) (xv 2) (by intro _ _; rfl)) a_nil)))) rfl) a_nil))))))) ss_nil)
  (ss_cons (s_if (y_isN (xv 1)) (ss_one (s_ret (x_isN (xv 0)))) ss_nil)
  (ss_cons (s_if (y_tru (x_is .bool rfl rfl T.b_isinstance rfl T.b_bool (xv 1) (by decide) (by decide)) (by intro _; rfl)) (ss_one (s_ret (x_and (x_is .bool rfl rfl T.b_isinstance rfl T.b_bool (xv 0) (by decide) (by decide)) (x_one (x_cmp (o_eq hu) (xv 0) (xv 1) rfl))))) ss_nil)
  (ss_cons (s_if (y_tru (x_is .int rfl rfl T.b_isinstance rfl T.b_int (xv 1) (by decide) (by decide)) (by intro _; rfl)) (ss_one (s_ret (x_and (x_is .int rfl rfl T.b_isinstance rfl T.b_int (xv 0) (by decide) (by decide)) (x_and (x_not (x_is .bool rfl rfl T.b_isinstance rfl T.b_bool (xv 0) (by decide) (by decide))) (x_one (x_cmp (o_eq hu) (xv 0) (xv 1) rfl)))))) ss_nil)
  (ss_one (s_ret (x_and (x_is .str rfl rfl T.b_isinstance rfl T.b_str (xv 0) (by decide) (by decide)) (x_one (x_cmp (o_eq hu) (xv 0) (xv 1) rfl)))))))))
theorem sc__law_check : FnScope n__law_check p__law_check (defScope s__law_check) := ⟨rfl, rfl, rfl, by decide +kernel, rfl, by decide +kernel, by decide +kernel⟩
theorem ok__law_check (T : Top K mg) (IH : ∀ g, Fa P w K mg base k (nm g) (sm g) (pr g) (callN k g)) : Fa P w K mg base (k + 1) "_law_check" s__law_check p__law_check (d__law_check (callN k)) := Fa.mk1 (T.f .f__law_check) sc__law_check rfl fun f cdv A outer s H E hr => by
  have hu := hr.units
  have hu5 := units5 hr
  have nd : (n__law_check).Nodup := sc__law_check.nd
  exact (ss_cons (s_asg (x_tup (a_cons (x_str (s := S3338f9) rfl) (a_cons x_int a_nil))) (g_tup rfl (gs_cons (g_name (i := 1) nd rfl (by first | exact .inl rfl | exact .inr rfl)) (gs_cons (g_name (i := 2) nd rfl (by first | exact .inl rfl | exact .inr rfl)) gs_nil))))
  (ss_cons (s_for PassesOwn.never rfl (i_range1 rfl T.b_range (a_cons (x_callB c_len rfl T.b_len rfl (a_cons (xv 0) a_nil)) a_nil)) (g_name (i := 3) nd rfl (by first | exact .inl rfl | exact .inr rfl)) (ss_one (s_set (i := 2) nd rfl (by first | exact .inl rfl | exact .inr rfl) (x_bin o_add (xv 2) (x_bin o_mul (x_bin o_add (xv 3) x_int) (x_bin o_add (x_meth .str (.inl rfl) PySem.F.plainAttrs_str PySem.F.slot_str_index PySem.F.type_str_index m_idxS (xv 1) (a_cons (x_ix (xv 0) (xv 3) (by intro _ _; rfl)) a_nil)) x_int))))))
  (ss_one (s_ret (x_bin o_mod (x_callT c_int rfl T.b_int rfl (a_cons (xv 2) a_nil)) x_int)))))
theorem sc__law_digits : FnScope n__law_digits p__law_digits (defScope s__law_digits) := ⟨rfl, rfl, rfl, by decide +kernel, rfl, by decide +kernel, by decide +kernel⟩
theorem ok__law_digits (T : Top K mg) (IH : ∀ g, Fa P w K mg base k (nm g) (sm g) (pr g) (callN k g)) : Fa P w K mg base (k + 1) "_law_digits" s__law_digits p__law_digits (d__law_digits (callN k)) := Fa.mk1 (T.f .f__law_digits) sc__law_digits rfl fun f cdv A outer s H E hr => by
  have hu := hr.units
  have hu5 := units5 hr
  have nd : (n__law_digits).Nodup := sc__law_digits.nd
  exact (ss_one (s_ret (x_cut (x_bin o_add (x_str (s := S4a7d1e) rfl) (x_callT c_str rfl T.b_str rfl (a_cons (xv 0) a_nil))) (p_some (x_un u_neg (xv 1))) p_none)))
theorem sc__law_frame : FnScope n__law_frame p__law_frame (defScope s__law_frame) := ⟨rfl, rfl, rfl, by decide +kernel, rfl, by decide +kernel, by decide +kernel⟩
theorem ok__law_frame (T : Top K mg) (IH : ∀ g, Fa P w K mg base k (nm g) (sm g) (pr g) (callN k g)) : Fa P w K mg base (k + 1) "_law_frame" s__law_frame p__law_frame (d__law_frame (callN k)) := Fa.mk1 (T.f .f__law_frame) sc__law_frame rfl fun f cdv A outer s H E hr => by
  have hu := hr.units
  have hu5 := units5 hr
  have nd : (n__law_frame).Nodup := sc__law_frame.nd
  exact (ss_one (s_ret (x_bin o_add (x_bin o_add (x_call (IH .f__law_digits).a hr rfl (a_cons (x_callB c_len rfl T.b_len rfl (a_cons (xv 0) a_nil)) (a_cons x_int a_nil))) (x_call (IH .f__law_digits).a hr rfl (a_cons (x_call (IH .f__law_check).a hr rfl (a_cons (xv 0) a_nil)) (a_cons x_int a_nil)))) (xv 0))))
theorem sc__law_stream : FnScope n__law_stream p__law_stream (defScope s__law_stream) := ⟨rfl, rfl, rfl, by decide +kernel, rfl, by decide +kernel, by decide +kernel⟩
theorem ok__law_stream (T : Top K mg) (IH : ∀ g, Fa P w K mg base k (nm g) (sm g) (pr g) (callN k g)) : Fa P w K mg base (k + 1) "_law_stream" s__law_stream p__law_stream (d__law_stream (callN k)) := Fa.mk1 (T.f .f__law_stream) sc__law_stream rfl fun f cdv A outer s H E hr => by
  have hu := hr.units
  have hu5 := units5 hr
  have nd : (n__law_stream).Nodup := sc__law_stream.nd
  exact (ss_one (s_ret (x_meth .str (.inl rfl) PySem.F.plainAttrs_str PySem.F.slot_str_join PySem.F.type_str_join m_join (x_str (s := []) rfl) (a_cons (x_comp (own := [("text", 1)]) rfl nd  (i_E (xv 0)) (blkOk_by (N := n__law_stream) (sc := defScope s__law_stream) (by decide +kernel)) (fun _ _ _ _ _ => (g_name (i := 1) nd rfl (by first | exact .inl rfl | exact .inr rfl))) (fun _ _ _ _ _ => ts_nil) (fun _ _ _ _ _ => (x_call (IH .f__law_frame).a hr rfl (a_cons (xv 1) a_nil))) rfl) a_nil))))
theorem sc__law_frames_in : FnScope n__law_frames_in p__law_frames_in (defScope s__law_frames_in) := ⟨rfl, rfl, rfl, by decide +kernel, rfl, by decide +kernel, by decide +kernel⟩
theorem ok__law_frames_in (T : Top K mg) (IH : ∀ g, Fa P w K mg base k (nm g) (sm g) (pr g) (callN k g)) : Fa P w K mg base (k + 1) "_law_frames_in" s__law_frames_in p__law_frames_in (d__law_frames_in (callN k)) := Fa.mk1 (T.f .f__law_frames_in) sc__law_frames_in rfl fun f cdv A outer s H E hr => by
  have hu := hr.units
  have hu5 := units5 hr
  have nd : (n__law_frames_in).Nodup := sc__law_frames_in.nd
  exact (ss_cons (s_asg (x_tup (a_cons (x_tup a_nil) (a_cons x_int a_nil))) (g_tup rfl (gs_cons (g_name (i := 1) nd rfl (by first | exact .inl rfl | exact .inr rfl)) (gs_cons (g_name (i := 2) nd rfl (by first | exact .inl rfl | exact .inr rfl)) gs_nil))))
  (ss_cons (s_for PassesOwn.never rfl (i_range1 rfl T.b_range (a_cons (x_callB c_len rfl T.b_len rfl (a_cons (xv 0) a_nil)) a_nil)) (g_name (i := 3) nd rfl (by first | exact .inl rfl | exact .inr rfl)) (ss_cons (s_set (i := 4) nd rfl (by first | exact .inl rfl | exact .inr rfl) (x_cut (xv 0) (p_some (xv 2)) (p_some (x_bin o_add (xv 2) x_int))))
  (ss_cons (s_if (y_bop (w_or (y_cmp o_lt g_lt (x_callB c_len rfl T.b_len rfl (a_cons (xv 4) a_nil)) x_int rfl) (w_or1 (y_cmp (o_ne hu) g_ne (x_comp (own := [("sign", 7)]) rfl nd  (i_E (xv 4)) (blkOk_by (N := n__law_frames_in) (sc := defScope s__law_frames_in) (by decide +kernel)) (fun _ _ _ _ _ => (g_name (i := 7) nd rfl (by first | exact .inl rfl | exact .inr rfl))) (fun _ _ _ _ _ => (ts_one (y_cmp (o_nin hu5) g_nin (xv 7) (x_str (s := S781e5e) rfl) rfl))) (fun _ _ _ _ _ => (xv 7)) rfl) (x_lst a_nil) rfl)))) (ss_one (s_ret (x_tup (a_cons (xv 1) (a_cons (xv 2) a_nil))))) ss_nil)
  (ss_cons (s_set (i := 5) nd rfl (by first | exact .inl rfl | exact .inr rfl) (x_callT c_int rfl T.b_int rfl (a_cons (x_cut (xv 4) p_none (p_some x_int)) a_nil)))
  (ss_cons (s_set (i := 6) nd rfl (by first | exact .inl rfl | exact .inr rfl) (x_cut (xv 0) (p_some (x_bin o_add (xv 2) x_int)) (p_some (x_bin o_add (x_bin o_add (xv 2) x_int) (xv 5)))))
  (ss_cons (s_if (y_bop (w_or (y_cmp (o_eq hu) g_eq (xv 5) x_int rfl) (w_or (y_cmp o_lt g_lt (x_callB c_len rfl T.b_len rfl (a_cons (xv 6) a_nil)) (xv 5) rfl) (w_or1 (y_cmp (o_ne hu) g_ne (x_comp (own := [("sign", 7)]) rfl nd  (i_E (xv 6)) (blkOk_by (N := n__law_frames_in) (sc := defScope s__law_frames_in) (by decide +kernel)) (fun _ _ _ _ _ => (g_name (i := 7) nd rfl (by first | exact .inl rfl | exact .inr rfl))) (fun _ _ _ _ _ => (ts_one (y_cmp (o_nin hu5) g_nin (xv 7) (x_str (s := S3338f9) rfl) rfl))) (fun _ _ _ _ _ => (xv 7)) rfl) (x_lst a_nil) rfl))))) (ss_one (s_ret (x_tup (a_cons (xv 1) (a_cons (xv 2) a_nil))))) ss_nil)
  (ss_cons (s_if (y_cmp (o_ne hu) g_ne (x_call (IH .f__law_digits).a hr rfl (a_cons (x_call (IH .f__law_check).a hr rfl (a_cons (xv 6) a_nil)) (a_cons x_int a_nil))) (x_cut (xv 4) (p_some x_int) p_none) rfl) (ss_one (s_ret (x_tup (a_cons (xv 1) (a_cons (xv 2) a_nil))))) ss_nil)
  (ss_one (s_par2 (i := 1) (j := 2) rfl nd rfl rfl (by decide) rfl rfl (a_cons (x_bin o_add (xv 1) (x_tup (a_cons (xv 6) a_nil))) (a_cons (x_bin o_add (x_bin o_add (xv 2) x_int) (xv 5)) a_nil)) rfl)))))))))
  (ss_one (s_ret (x_tup (a_cons (xv 1) (a_cons (xv 2) a_nil)))))))
theorem sc__law_opened : FnScope n__law_opened p__law_opened (defScope s__law_opened) := ⟨rfl, rfl, rfl, by decide +kernel, rfl, by decide +kernel, by decide +kernel⟩
theorem ok__law_opened (T : Top K mg) (IH : ∀ g, Fa P w K mg base k (nm g) (sm g) (pr g) (callN k g)) : Fa P w K mg base (k + 1) "_law_opened" s__law_opened p__law_opened (d__law_opened (callN k)) := Fa.mk1 (T.f .f__law_opened) sc__law_opened rfl fun f cdv A outer s H E hr => by
  have hu := hr.units
  have hu5 := units5 hr
  have nd : (n__law_opened).Nodup := sc__law_opened.nd
  exact (ss_cons (s_set (i := 1) nd rfl (by first | exact .inl rfl | exact .inr rfl) (x_ix (x_call (IH .f__law_frames_in).a hr rfl (a_cons (xv 0) a_nil)) x_int (by intro _ _; rfl)))
  (ss_cons (s_set (i := 2) nd rfl (by first | exact .inl rfl | exact .inr rfl) (x_callB (c_max rfl) rfl T.b_max rfl (a_cons (x_bin o_add (x_comp (own := [("at", 4)]) rfl nd  (i_range1 rfl T.b_range (a_cons (x_callB c_len rfl T.b_len rfl (a_cons (xv 1) a_nil)) a_nil)) (blkOk_by (N := n__law_opened) (sc := defScope s__law_opened) (by decide +kernel)) (fun _ _ _ _ _ => (g_name (i := 4) nd rfl (by first | exact .inl rfl | exact .inr rfl))) (fun _ _ _ _ _ => (ts_one (y_cmp (o_eq hu) g_eq (x_cut (x_ix (xv 1) (xv 4) (by intro _ _; rfl)) p_none (p_some x_int)) (x_str (s := [100, 32]) rfl) rfl))) (fun _ _ _ _ _ => (x_bin o_add (xv 4) x_int)) rfl) (x_lst (a_cons x_int a_nil))) a_nil)))
  (ss_cons (s_set (i := 3) nd rfl (by first | exact .inl rfl | exact .inr rfl) (x_callB c_len rfl T.b_len rfl (a_cons (x_call (IH .f__law_stream).a hr rfl (a_cons (x_cut (xv 1) p_none (p_some (xv 2))) a_nil)) a_nil)))
  (ss_one (s_ret (x_tup (a_cons (x_cut (xv 1) p_none (p_some (xv 2))) (a_cons (xv 3) (a_cons (x_if (y_cmp o_lt g_lt (xv 3) (x_callB c_len rfl T.b_len rfl (a_cons (xv 0) a_nil)) rfl) (x_tup (a_cons (x_tup (a_cons (x_str (s := S9e2cd3) rfl) (a_cons (xv 3) a_nil))) a_nil)) (x_tup a_nil)) a_nil)))))))))
theorem sc__law_text : FnScope n__law_text p__law_text (defScope s__law_text) := ⟨rfl, rfl, rfl, by decide +kernel, rfl, by decide +kernel, by decide +kernel⟩
theorem ok__law_text (T : Top K mg) (IH : ∀ g, Fa P w K mg base k (nm g) (sm g) (pr g) (callN k g)) : Fa P w K mg base (k + 1) "_law_text" s__law_text p__law_text (d__law_text (callN k)) := Fa.mk1 (T.f .f__law_text) sc__law_text rfl fun f cdv A outer s H E hr => by
  have hu := hr.units
  have hu5 := units5 hr
  have nd : (n__law_text).Nodup := sc__law_text.nd
  exact (ss_cons (s_par2 (i := 2) (j := 3) rfl nd rfl rfl (by decide) rfl rfl (a_cons (x_call (IH .f__law_take).a hr rfl (a_cons (xv 0) (a_cons x_int a_nil))) (a_cons (x_bin o_add x_int (x_call (IH .f__law_take).a hr rfl (a_cons (xv 0) (a_cons (xv 1) a_nil)))) a_nil)) rfl)
  (ss_cons (s_if (y_cmp (o_eq hu) g_eq (xv 2) x_int rfl) (ss_one (s_ret (x_bin o_add (x_bin o_add (x_str (s := [100, 32]) rfl) (x_callT c_str rfl T.b_str rfl (a_cons (x_bin o_add x_int (x_call (IH .f__law_take).a hr rfl (a_cons (xv 0) (a_cons x_int a_nil)))) a_nil))) (x_call (IH .f__law_pick).a hr rfl (a_cons (xv 0) (a_cons (x_lst (a_cons (x_str (s := []) rfl) (a_cons (x_str (s := S485b39) rfl) (a_cons (x_str (s := Sf10ca9) rfl) (a_cons (x_str (s := [32]) rfl) a_nil))))) a_nil)))))) ss_nil)
  (ss_cons (s_set (i := 4) nd rfl (by first | exact .inl rfl | exact .inr rfl) (x_ix (x_lst (a_cons (x_str (s := S3338f9) rfl) (a_cons (x_str (s := S781e5e) rfl) (a_cons (x_str (s := S8078ba) rfl) a_nil)))) (xv 2) (by intro _ _; rfl)))
  (ss_one (s_ret (x_meth .str (.inl rfl) PySem.F.plainAttrs_str PySem.F.slot_str_join PySem.F.type_str_join m_join (x_str (s := []) rfl) (a_cons (x_comp (own := [("at", 5)]) rfl nd  (i_range1 rfl T.b_range (a_cons (xv 3) a_nil)) (blkOk_by (N := n__law_text) (sc := defScope s__law_text) (by decide +kernel)) (fun _ _ _ _ _ => (g_name (i := 5) nd rfl (by first | exact .inl rfl | exact .inr rfl))) (fun _ _ _ _ _ => ts_nil) (fun _ _ _ _ _ => (x_call (IH .f__law_pick).a hr rfl (a_cons (xv 0) (a_cons (xv 4) a_nil)))) rfl) a_nil)))))))
theorem sc__law_right : FnScope n__law_right p__law_right (defScope s__law_right) := ⟨rfl, rfl, rfl, by decide +kernel, rfl, by decide +kernel, by decide +kernel⟩
theorem ok__law_right (T : Top K mg) (IH : ∀ g, Fa P w K mg base k (nm g) (sm g) (pr g) (callN k g)) : Fa P w K mg base (k + 1) "_law_right" s__law_right p__law_right (d__law_right (callN k)) := Fa.mk1 (T.f .f__law_right) sc__law_right rfl fun f cdv A outer s H E hr => by
  have hu := hr.units
  have hu5 := units5 hr
  have nd : (n__law_right).Nodup := sc__law_right.nd
  exact (ss_cons (s_par2 (i := 2) (j := 3) rfl nd rfl rfl (by decide) rfl rfl (a_cons (x_call (IH .f__law_stream).a hr rfl (a_cons (xv 1) a_nil)) (a_cons (x_new (a_cons (x_tup (a_cons x_int (a_cons x_int a_nil))) a_nil)) a_nil)) rfl)
  (ss_cons (s_for PassesOwn.never rfl (i_range1 rfl T.b_range (a_cons (x_callB c_len rfl T.b_len rfl (a_cons (xv 1) a_nil)) a_nil)) (g_name (i := 4) nd rfl (by first | exact .inl rfl | exact .inr rfl)) (ss_one (s_if (y_cmp (o_eq hu) g_eq (x_cut (x_ix (xv 1) (xv 4) (by intro _ _; rfl)) p_none (p_some x_int)) (x_str (s := [100, 32]) rfl) rfl) (ss_one (s_expr (x_app (xv 3) (x_tup (a_cons (x_bin o_add (xv 4) x_int) (a_cons (x_callB c_len rfl T.b_len rfl (a_cons (x_call (IH .f__law_stream).a hr rfl (a_cons (x_cut (xv 1) p_none (p_some (x_bin o_add (xv 4) x_int))) a_nil)) a_nil)) a_nil)))))) ss_nil)))
  (ss_cons (s_for PassesOwn.never rfl (i_range3 rfl T.b_range (a_cons x_int (a_cons (x_bin o_add (x_callB c_len rfl T.b_len rfl (a_cons (xv 2) a_nil)) x_int) (a_cons (x_bin o_add x_int (x_bin o_div (x_callB c_len rfl T.b_len rfl (a_cons (xv 2) a_nil)) x_int)) a_nil)))) (g_name (i := 4) nd rfl (by first | exact .inl rfl | exact .inr rfl)) (ss_cons (s_asg (x_ix (x_comp (own := [("each", 16)]) rfl nd  (i_E (xv 3)) (blkOk_by (N := n__law_right) (sc := defScope s__law_right) (by decide +kernel)) (fun _ _ _ _ _ => (g_name (i := 16) nd rfl (by first | exact .inl rfl | exact .inr rfl))) (fun _ _ _ _ _ => (ts_one (y_cmp o_le g_le (x_ix (xv 16) x_int (by intro _ _; rfl)) (xv 4) rfl))) (fun _ _ _ _ _ => (xv 16)) rfl) (x_un u_neg x_int) (by intro _ _; rfl)) (g_tup rfl (gs_cons (g_name (i := 5) nd rfl (by first | exact .inl rfl | exact .inr rfl)) (gs_cons (g_name (i := 6) nd rfl (by first | exact .inl rfl | exact .inr rfl)) gs_nil))))
  (ss_cons (s_set (i := 7) nd rfl (by first | exact .inl rfl | exact .inr rfl) (x_tup (a_cons (x_cut (xv 1) p_none (p_some (xv 5))) (a_cons (xv 6) (a_cons (x_if (y_cmp o_lt g_lt (xv 6) (xv 4) rfl) (x_tup (a_cons (x_tup (a_cons (x_str (s := S9e2cd3) rfl) (a_cons (xv 6) a_nil))) a_nil)) (x_tup a_nil)) a_nil)))))
  (ss_cons (s_set (i := 8) nd rfl (by first | exact .inl rfl | exact .inr rfl) (x_cut (xv 2) p_none (p_some (xv 4))))
  (ss_cons (s_if (y_not (y_tru (x_call (IH .f__law_same).a hr rfl (a_cons (x_call (IH .f_opened).a hr rfl (a_cons (xv 8) a_nil)) (a_cons (xv 7) a_nil))) (by intro _; rfl))) (ss_one (s_ret x_bl)) ss_nil)
  (ss_one (s_if (y_cmp (o_eq hu) g_eq (x_call (IH .f__law_take).a hr rfl (a_cons (xv 0) (a_cons x_int a_nil))) x_int rfl) (ss_cons (s_for PassesOwn.never rfl (i_E (x_lst (a_cons x_int (a_cons x_int a_nil)))) (g_name (i := 9) nd rfl (by first | exact .inl rfl | exact .inr rfl)) (ss_one (s_for PassesOwn.never rfl (i_E (x_ix (xv 7) x_int (by intro _ _; rfl))) (g_name (i := 10) nd rfl (by first | exact .inl rfl | exact .inr rfl)) (ss_cons (s_set (i := 11) nd rfl (by first | exact .inl rfl | exact .inr rfl) (x_call (IH .f_torn).a hr rfl (a_cons (xv 8) (a_cons (xv 10) (a_cons (xv 9) a_nil)))))
  (ss_one (s_if (y_bop (w_or (y_not (y_tru (x_call (IH .f__law_same).a hr rfl (a_cons (x_cut (x_call (IH .f_opened).a hr rfl (a_cons (xv 11) a_nil)) p_none (p_some x_int)) (a_cons (x_cut (xv 7) p_none (p_some x_int)) a_nil))) (by intro _; rfl))) (w_or1 (y_bop (w_and (y_cmp (o_eq hu) g_eq (xv 9) x_int rfl) (w_and1 (y_cmp (o_ne hu) g_ne (x_ix (x_call (IH .f_opened).a hr rfl (a_cons (xv 11) a_nil)) x_int (by intro _ _; rfl)) (x_tup a_nil) rfl))))))) (ss_one (s_ret x_bl)) ss_nil))))))
  (ss_cons (s_set (i := 12) nd rfl (by first | exact .inl rfl | exact .inr rfl) (x_call (IH .f_behind_writes).a hr rfl (a_cons (xv 8) (a_cons (x_ix (xv 7) x_int (by intro _ _; rfl)) a_nil))))
  (ss_cons (s_set (i := 13) nd rfl (by first | exact .inl rfl | exact .inr rfl) (x_bin o_add (x_bin o_add (xv 12) (x_call (IH .f_frame).a hr rfl (a_cons (x_str (s := S94f0af) rfl) a_nil))) (x_call (IH .f_frame).a hr rfl (a_cons (x_str (s := Sc872f1) rfl) a_nil))))
  (ss_one (s_if (y_bop (w_or (y_not (y_tru (x_call (IH .f__law_same).a hr rfl (a_cons (x_call (IH .f_opened).a hr rfl (a_cons (xv 13) a_nil)) (a_cons (x_tup (a_cons (x_bin o_add (x_cut (xv 1) p_none (p_some (xv 5))) (x_tup (a_cons (x_str (s := S94f0af) rfl) (a_cons (x_str (s := Sc872f1) rfl) a_nil)))) (a_cons (x_callB c_len rfl T.b_len rfl (a_cons (xv 13) a_nil)) (a_cons (x_tup a_nil) a_nil)))) a_nil))) (by intro _; rfl))) (w_or1 (y_cmp (o_ne hu) g_ne (x_ix (x_call (IH .f_frames_in).a hr rfl (a_cons (xv 12) a_nil)) x_int (by intro _ _; rfl)) (x_callB c_len rfl T.b_len rfl (a_cons (xv 12) a_nil)) rfl)))) (ss_one (s_ret x_bl)) ss_nil))))) ss_nil)))))))
  (ss_cons (s_for PassesOwn.never rfl (i_range1 rfl T.b_range (a_cons x_int a_nil)) (g_name (i := 14) nd rfl (by first | exact .inl rfl | exact .inr rfl)) (ss_cons (s_set (i := 4) nd rfl (by first | exact .inl rfl | exact .inr rfl) (x_call (IH .f__law_take).a hr rfl (a_cons (xv 0) (a_cons (x_callB (c_max rfl) rfl T.b_max rfl (a_cons x_int (a_cons (x_callB c_len rfl T.b_len rfl (a_cons (xv 2) a_nil)) a_nil))) a_nil))))
  (ss_cons (s_set (i := 15) nd rfl (by first | exact .inl rfl | exact .inr rfl) (x_bin o_add (x_bin o_add (x_bin o_add (x_cut (xv 2) p_none (p_some (xv 4))) (x_call (IH .f__law_pick).a hr rfl (a_cons (xv 0) (a_cons (x_str (s := S18bfb0) rfl) a_nil)))) (x_cut (xv 2) (p_some (x_bin o_add (xv 4) x_int)) p_none)) (x_call (IH .f__law_pick).a hr rfl (a_cons (xv 0) (a_cons (x_lst (a_cons (x_str (s := []) rfl) (a_cons (x_str (s := [48]) rfl) (a_cons (x_call (IH .f__law_frame).a hr rfl (a_cons (x_str (s := Sd82ee8) rfl) a_nil)) (a_cons (x_bin o_add (x_call (IH .f__law_frame).a hr rfl (a_cons (x_str (s := [100]) rfl) a_nil)) (x_call (IH .f__law_frame).a hr rfl (a_cons (x_str (s := S8b6550) rfl) a_nil))) a_nil))))) a_nil)))))
  (ss_one (s_if (y_not (y_tru (x_call (IH .f__law_same).a hr rfl (a_cons (x_lst (a_cons (x_call (IH .f_opened).a hr rfl (a_cons (xv 15) a_nil)) (a_cons (x_callK0 (kw_opened_0_log (IH .f_opened)) hr rfl (k_cons (xv 15) k_nil)) a_nil))) (a_cons (x_bin o_mul (x_lst (a_cons (x_call (IH .f__law_opened).a hr rfl (a_cons (xv 15) a_nil)) a_nil)) x_int) a_nil))) (by intro _; rfl))) (ss_one (s_ret x_bl)) ss_nil)))))
  (ss_one (s_ret x_bl))))))
theorem sc_law : FnScope n_law p_law (defScope s_law) := ⟨rfl, rfl, rfl, by decide +kernel, rfl, by decide +kernel, by decide +kernel⟩
theorem ok_law (T : Top K mg) (IH : ∀ g, Fa P w K mg base k (nm g) (sm g) (pr g) (callN k g)) : Fa P w K mg base (k + 1) "law" s_law p_law (d_law (callN k)) := Fa.mk1 (T.f .f_law) sc_law rfl fun f cdv A outer s H E hr => by
  have hu := hr.units
  have hu5 := units5 hr
  have nd : (n_law).Nodup := sc_law.nd
  exact (ss_cons (s_for PassesOwn.never rfl (i_range1 rfl T.b_range (a_cons (x_callB (c_max rfl) rfl T.b_max rfl (a_cons x_int (a_cons (x_callB (c_min rfl) rfl T.b_min rfl (a_cons (x_callB c_len rfl T.b_len rfl (a_cons (xv 0) a_nil)) (a_cons x_int a_nil))) a_nil))) a_nil)) (g_name (i := 1) nd rfl (by first | exact .inl rfl | exact .inr rfl)) (ss_cons (s_set (i := 2) nd rfl (by first | exact .inl rfl | exact .inr rfl) (x_call (IH .f__law_well).a hr rfl (a_cons (xv 0) (a_cons (xv 1) a_nil))))
  (ss_one (s_for PassesOwn.never rfl (i_E (x_lst (a_cons x_int (a_cons x_int (a_cons x_int (a_cons x_int a_nil)))))) (g_name (i := 3) nd rfl (by first | exact .inl rfl | exact .inr rfl)) (ss_cons (s_set (i := 4) nd rfl (by first | exact .inl rfl | exact .inr rfl) (x_callT c_tuple rfl T.b_tuple rfl (a_cons (x_comp (own := [("at", 5)]) rfl nd  (i_range1 rfl T.b_range (a_cons (xv 3) a_nil)) (blkOk_by (N := n_law) (sc := defScope s_law) (by decide +kernel)) (fun _ _ _ _ _ => (g_name (i := 5) nd rfl (by first | exact .inl rfl | exact .inr rfl))) (fun _ _ _ _ _ => ts_nil) (fun _ _ _ _ _ => (x_call (IH .f__law_text).a hr rfl (a_cons (xv 2) (a_cons x_int a_nil)))) rfl) a_nil)))
  (ss_one (s_if (y_bop (w_or (y_not (y_tru (x_call (IH .f__law_right).a hr rfl (a_cons (xv 2) (a_cons (xv 4) a_nil))) (by intro _; rfl))) (w_or1 (y_not (y_tru (x_call (IH .f__law_right).a hr rfl (a_cons (xv 2) (a_cons (x_bin o_add (xv 4) (x_tup (a_cons (x_str (s := S687a61) rfl) (a_cons (x_str (s := S0426fb) rfl) (a_cons (x_str (s := Seb819f) rfl) a_nil))))) a_nil))) (by intro _; rfl)))))) (ss_one (s_ret x_bl)) ss_nil)))))))
  (ss_one (s_ret x_bl)))
theorem ok_all (T : Top K mg) : ∀ k g, Fa P w K mg base k (nm g) (sm g) (pr g) (callN k g)
  | 0, g => Fa.zero (T.f g)
  | k + 1, g => by
    cases g
    · exact ok_is_whole T (ok_all T k)
    · exact ok_is_between T (ok_all T k)
    · exact ok_is_tuple_of T (ok_all T k)
    · exact ok_is_text_of T (ok_all T k)
    · exact ok_is_signed T (ok_all T k)
    · exact ok_check_text T (ok_all T k)
    · exact ok_check_signs T (ok_all T k)
    · exact ok_is_write_of T (ok_all T k)
    · exact ok_signs_of T (ok_all T k)
    · exact ok_check_of T (ok_all T k)
    · exact ok_frame_of T (ok_all T k)
    · exact ok_text_at T (ok_all T k)
    · exact ok_frames_by T (ok_all T k)
    · exact ok_torn_by T (ok_all T k)
    · exact ok_written_by T (ok_all T k)
    · exact ok_is_end T (ok_all T k)
    · exact ok_whole_notes T (ok_all T k)
    · exact ok_end_of T (ok_all T k)
    · exact ok_trim_writes T (ok_all T k)
    · exact ok_opened_by T (ok_all T k)
    · exact ok_check_write T (ok_all T k)
    · exact ok_torn T (ok_all T k)
    · exact ok_behind_writes T (ok_all T k)
    · exact ok_opened T (ok_all T k)
    · exact ok_frame T (ok_all T k)
    · exact ok_frames_in T (ok_all T k)
    · exact ok__law_well T (ok_all T k)
    · exact ok__law_take T (ok_all T k)
    · exact ok__law_pick T (ok_all T k)
    · exact ok__law_same T (ok_all T k)
    · exact ok__law_check T (ok_all T k)
    · exact ok__law_digits T (ok_all T k)
    · exact ok__law_frame T (ok_all T k)
    · exact ok__law_stream T (ok_all T k)
    · exact ok__law_frames_in T (ok_all T k)
    · exact ok__law_opened T (ok_all T k)
    · exact ok__law_text T (ok_all T k)
    · exact ok__law_right T (ok_all T k)
    · exact ok_law T (ok_all T k)
end
end LW

namespace LW
open PX PySem

theorem dg_iff (c : Nat) : c ∈ S781e5e ↔ 48 ≤ c ∧ c ≤ 57 := by
  unfold S781e5e
  simp only [List.mem_cons, List.not_mem_nil, or_false]
  omega
theorem sp_is_text_of (k : Nat) (s t : List Nat) (st : Store) (hl : s.length ≤ 16777216) : callN (k + 1) .f_is_text_of [.d (.str s), .d (.str t)] st = .ok (.d (.bl (s.all fun c => decide (c ∈ t)))) st := by
  simp [un_is_text_of, d_is_text_of, isTy_str]
  rw [comp_str (fun _ => true) (fun c => .bl (decide (c ∈ t))) s rfl (by intro c _; simp) hl]
  simp [allB_map, Function.comp_def]
theorem sp_is_signed (k : Nat) (s : List Nat) (st : Store) (hl : s.length ≤ 16777216) : callN (k + 2) .f_is_signed [.d (.str s)] st = .ok (.d (.bl (s.all fun c => decide (c ∈ S3338f9)))) st := by
  simp [un_is_signed, d_is_signed, sp_is_text_of, hl]
theorem sp_check_signs (k : Nat) (s : List Nat) (st : Store) (hl : s.length ≤ 16777216) (h : ∀ c ∈ s, c ∈ S3338f9) : callN (k + 3) .f_check_signs [.d (.str s)] st = .ok (.d .non) st := by
  have e : (s.all fun c => decide (c ∈ S3338f9)) = true := by simpa using h
  simp [un_check_signs, d_check_signs, sp_is_signed, hl, e]
theorem sp_check_text (k : Nat) (s : List Nat) (st : Store) : callN (k + 1) .f_check_text [.d (.str s)] st = .ok (.d .non) st := by
  simp [un_check_text, d_check_text, isTy_str]
/-! the check number -/
def en (k : Int) : List Nat → List (Int × Nat)
  | [] => []
  | c :: r => (k, c) :: en (k + 1) r
theorem en_len (k : Int) (s : List Nat) : (en k s).length = s.length := by
  induction s generalizing k with
  | nil => rfl
  | cons c r ih => simp [en, ih]
theorem en_mem {k : Int} {s : List Nat} {p : Int × Nat} (h : p ∈ en k s) : p.2 ∈ s := by
  induction s generalizing k with
  | nil => simp [en] at h
  | cons c r ih =>
    simp only [en, List.mem_cons] at h
    rcases h with h | h
    · subst h; simp
    · exact List.mem_cons_of_mem _ (ih h)
theorem pairs_en (k : Int) (s : List Nat) : pairs k (signs s) = (en k s).map fun p => D.tup [.int p.1, .str [p.2]] := by
  induction s generalizing k with
  | nil => rfl
  | cons c r ih =>
    have := ih (k + 1)
    simp only [signs] at this
    simp [signs, pairs, en, this]
def wsum (k : Int) : List Nat → Int
  | [] => 0
  | c :: r => k * ((S3338f9.idxOf c : Nat) + 1) + wsum (k + 1) r
theorem wsum_en (k : Int) (s : List Nat) : ((en k s).map fun p => p.1 * ((S3338f9.idxOf p.2 : Nat) + 1 : Int)).sum = wsum k s := by
  induction s generalizing k with
  | nil => rfl
  | cons c r ih => simp [en, wsum, ih]
def chk (s : List Nat) : Int := wsum 1 s % 997
theorem chk_lt (s : List Nat) : 0 ≤ chk s ∧ chk s < 997 := by unfold chk; omega
theorem idx_lt {c : Nat} (h : c ∈ S3338f9) : S3338f9.idxOf c < 52 := by
  have : S3338f9.idxOf c < S3338f9.length := List.idxOf_lt_length_of_mem h
  exact this
theorem sp_check_of (k : Nat) (s : List Nat) (st : Store) (hl : s.length ≤ 16777216) (h : ∀ c ∈ s, c ∈ S3338f9) : callN (k + 1) .f_check_of [.d (.str s)] st = .ok (.d (.int (chk s))) st := by
  simp [un_check_of, d_check_of, pairs_en]
  rw [comp_map1 _ (fun p => .int (p.1 * ((S3338f9.idxOf p.2 : Nat) + 1 : Int))) (en 1 s) rfl (by
    intro p hp
    have hm := h _ (en_mem hp)
    have := idx_lt hm
    simp [hm]
    rw [Fmul_r (by omega)]
    simp) (by rw [en_len]; exact hl)]
  simp [allI_map, wsum_en, chk]
/-! the frame -/
def frm (s : List Nat) : List Nat := pad 4 s.length ++ pad 3 (chk s).toNat ++ s
theorem numT_le {n : Nat} (h : n < 10000) : (numT n).length ≤ 4 := numT_len (by decide) h
theorem sp_frame_of (k : Nat) (s : List Nat) (st : Store) (hl : s.length ≤ 999) (h : ∀ c ∈ s, c ∈ S3338f9) : callN (k + 2) .f_frame_of [.d (.str s)] st = .ok (.d (.str (frm s))) st := by
  have h1 := chk_lt s
  have h2 : (pad 4 s.length).length = 4 := pad_len (by decide) (by omega)
  have h3 : (pad 3 (chk s).toNat).length = 3 := pad_len (by decide) (by omega)
  simp [un_frame_of, d_frame_of, show s.length ≤ 16777216 by omega]
  rw [Fstr_int (by omega)]
  simp
  rw [Mzfill_num (by omega)]
  simp
  rw [sp_check_of _ _ _ (by omega) h]
  simp
  rw [Fstr_int (by omega)]
  simp
  rw [Mzfill_num (by omega)]
  simp
  rw [Fadd_str (by simp [h2, h3])]
  simp
  rw [Fadd_str (by simp [h2, h3]; omega)]
  simp [frm]
theorem sp_frame (k : Nat) (s : List Nat) (st : Store) (h0 : 1 ≤ s.length) (hl : s.length ≤ 999) (h : ∀ c ∈ s, c ∈ S3338f9) : callN (k + 4) .f_frame [.d (.str s)] st = .ok (.d (.str (frm s))) st := by
  have h1 : (s.length : Int) ≤ 999 := by omega
  have h2 : (1 : Int) ≤ s.length := by omega
  simp [un_frame, d_frame, show s.length ≤ 16777216 by omega, sp_check_signs k s st (by omega) h, sp_frame_of _ s st hl h, h1, h2]
/-! what stands in a stream -/
def isD (s : List Nat) : Bool := s.all fun c => decide (c ∈ S781e5e)
def isS (s : List Nat) : Bool := s.all fun c => decide (c ∈ S3338f9)
def dv (s : List Nat) : Nat := NumText.digitsVal s
def tatX (h x : List Nat) : Option (List Nat) := if dv (h.take 4) = 0 ∨ x.length < dv (h.take 4) ∨ isS x = false then none else if chk x = (dv (h.drop 4) : Nat) then some x else none
def tatH (s : List Nat) (a : Nat) (h : List Nat) : Option (List Nat) := if h.length < 7 ∨ isD h = false then none else tatX h ((s.drop (a + 7)).take (dv (h.take 4)))
def tat (s : List Nat) (a : Nat) : Option (List Nat) := tatH s a ((s.drop a).take 7)
def opD (o : Option (List Nat)) : D := match o with
  | some x => .str x
  | none => .non
theorem sp_text_at (k : Nat) (s : List Nat) (a : Nat) (st : Store) (hl : s.length ≤ 1000000) : callN (k + 2) .f_text_at [.d (.str s), .d (.int (a : Int))] st = .ok (.d (opD (tat s a))) st := by
  have e1 : cut s (some (a : Int)) (some ((a : Int) + 7)) = (s.drop a).take 7 := by
    have := cut_nn s a (a + 7)
    rw [show ((a : Int) + 7) = ((a + 7 : Nat) : Int) by omega, this]; congr 1; omega
  have hh : ((s.drop a).take 7).length ≤ 7 := by simp; omega
  unfold tat
  generalize hg : (s.drop a).take 7 = h at *
  generalize hr : opD (tatH s a h) = R
  have hS : ∀ n : Nat, ((s.drop (a + 7)).take n).length ≤ 16777216 := fun n => by simp; omega
  simp [un_text_at, d_text_at, show s.length ≤ 16777216 by omega, e1, show h.length ≤ 16777216 by omega]
  unfold tatH at hr
  by_cases c1 : (h.length : Int) < 7
  · have : h.length < 7 := by omega
    rw [if_pos (.inl this)] at hr
    subst hr
    simp [c1, opD]
  · have c1' : h.length = 7 := by omega
    simp [c1, sp_is_text_of, show h.length ≤ 16777216 by omega]
    change _ = _
    by_cases c2 : isD h = true
    · rw [if_neg (by rw [c2]; simp; omega)] at hr
      have c2' := c2
      unfold isD at c2'
      rw [c2']
      have hd : ∀ c ∈ h, 48 ≤ c ∧ c ≤ 57 := fun c hc => (dg_iff c).mp (by have := List.all_eq_true.mp c2' c hc; simpa using this)
      have hd1 : ∀ c ∈ h.take 4, 48 ≤ c ∧ c ≤ 57 := fun c hc => hd c (List.mem_of_mem_take hc)
      have hd2 : ∀ c ∈ h.drop 4, 48 ≤ c ∧ c ≤ 57 := fun c hc => hd c (List.mem_of_mem_drop hc)
      have l1 : (h.take 4).length = 4 := by simp [c1']
      have l2 : (h.drop 4).length = 3 := by simp [c1']
      have f1 : Fint [.str (h.take 4)] = some (.int (dv (h.take 4) : Nat)) := Fint_digits hd1 (by intro z; rw [z] at l1; simp at l1) (by omega)
      have f2 : Fint [.str (h.drop 4)] = some (.int (dv (h.drop 4) : Nat)) := Fint_digits hd2 (by intro z; rw [z] at l2; simp at l2) (by omega)
      simp [c1', cut_xlit, cut_litx, f1, f2]
      have e2 : cut s (some ((a : Int) + 7)) (some ((a : Int) + 7 + (dv (h.take 4) : Nat))) = (s.drop (a + 7)).take (dv (h.take 4)) := by
        have := cut_nn s (a + 7) (a + 7 + dv (h.take 4))
        rw [show ((a : Int) + 7) = ((a + 7 : Nat) : Int) by omega, show ((a + 7 : Nat) : Int) + (dv (h.take 4) : Nat) = ((a + 7 + dv (h.take 4) : Nat) : Int) by omega, this]; congr 1; omega
      rw [Fcut_str (by omega), e2]
      generalize hx : (s.drop (a + 7)).take (dv (h.take 4)) = x at *
      have hxl : x.length ≤ 16777216 := by rw [← hx]; exact hS _
      unfold tatX at hr
      simp
      by_cases c3 : dv (h.take 4) = 0
      · rw [if_pos (.inl c3)] at hr
        subst hr
        simp [c3, opD]
      · have c3' : ¬ ((dv (h.take 4) : Nat) : Int) = 0 := by omega
        simp [c3, c3', hxl]
        by_cases c4 : x.length < dv (h.take 4)
        · rw [if_pos (.inr (.inl c4))] at hr
          subst hr
          simp [c4, opD]
        · simp [c4, sp_is_text_of, hxl]
          by_cases c5 : isS x = true
          · rw [if_neg (by rw [c5]; simp; omega)] at hr
            have c5' := c5
            unfold isS at c5'
            rw [c5']
            have hs : ∀ c ∈ x, c ∈ S3338f9 := fun c hc => by have := List.all_eq_true.mp c5' c hc; simpa using this
            simp [sp_check_of _ _ _ hxl hs]
            by_cases c6 : chk x = (dv (h.drop 4) : Nat)
            · rw [if_pos c6] at hr; subst hr; simp [c6, opD]
            · rw [if_neg c6] at hr; subst hr; simp [c6, opD]
          · simp only [Bool.not_eq_true] at c5
            rw [if_pos (.inr (.inr c5))] at hr
            subst hr
            unfold isS at c5
            rw [c5]
            simp [opD]
    · simp only [Bool.not_eq_true] at c2
      rw [if_pos (.inr c2)] at hr
      subst hr
      unfold isD at c2
      rw [c2]
      simp [opD]
theorem tat_some {s : List Nat} {a : Nat} {x : List Nat} (h : tat s a = some x) : 1 ≤ x.length ∧ a + 7 + x.length ≤ s.length ∧ isS x = true := by
  unfold tat tatH at h
  split at h
  · cases h
  · unfold tatX at h
    split at h
    · cases h
    · rename_i hn
      split at h
      · injection h with h
        subst h
        simp only [not_or, Bool.not_eq_false] at hn
        refine ⟨by omega, ?_, hn.2.2⟩
        have := hn.2.1
        simp only [List.length_take, List.length_drop] at this ⊢
        omega
      · cases h
theorem tat_none {s : List Nat} {a : Nat} (h : s.length ≤ a) : tat s a = none := by
  cases e : tat s a with
  | none => rfl
  | some x => have := tat_some e; omega
/-- the frames that stand in a stream from a place on, and where they end -/
def prs (s : List Nat) : Nat → Nat → List (List Nat) × Nat
  | 0, e => ([], e)
  | n + 1, e => match tat s e with
    | none => ([], e)
    | some x => (x :: (prs s n (e + 7 + x.length)).1, (prs s n (e + 7 + x.length)).2)
theorem fb_loop (k : Nat) (s : List Nat) (st : Store) (hl : s.length ≤ 1000000) : ∀ (m e : Nat) (found : List D), s.length ≤ e + m → found.length ≤ e → (e ≤ s.length) →
    wLoop (L2_frames_by (callN (k + 2))) (L1_frames_by (callN (k + 2))) (m + 1) [some (.d (.str s)), some (.loc st.length), some (.d (.int (e : Int))), some (.d (opD (tat s e)))] (st ++ [.lst found]) =
      .ok (.nx [some (.d (.str s)), some (.loc st.length), some (.d (.int ((prs s m e).2 : Nat))), some (.d .non)]) (st ++ [.lst (found ++ (prs s m e).1.map D.str)])
  | 0, e, found, h1, h2, h3 => by
    rw [wLoop_succ, tat_none (by omega)]
    simp [L2_frames_by, opD, prs]
  | m + 1, e, found, h1, h2, h3 => by
    rw [wLoop_succ]
    unfold prs
    cases ht : tat s e with
    | none => simp [L2_frames_by, opD]
    | some x =>
      obtain ⟨g1, g2, g3⟩ := tat_some ht
      have ih := fb_loop k s st hl m (e + 7 + x.length) (found ++ [.str x]) (by omega) (by simp; omega) (by omega)
      have e3 : ((e + 7 + x.length : Nat) : Int) = (e : Int) + 7 + (x.length : Int) := by omega
      have := sp_text_at k s (e + 7 + x.length) (st ++ [.lst (found ++ [.str x])]) hl
      rw [e3] at this ih
      simp [L2_frames_by, opD]
      unfold L1_frames_by
      simp [show found.length < 16777216 by omega, show x.length ≤ 16777216 by omega, this]
      rw [show L2_frames_by (callN (k + 2)) = L2_frames_by (callN (k + 2)) from rfl] at ih
      unfold L1_frames_by L2_frames_by at ih
      simpa using ih
theorem sp_frames_by (k : Nat) (s : List Nat) (st : Store) (hl : s.length ≤ 1000000) : callN (k + 3) .f_frames_by [.d (.str s)] st = .ok (.d (.tup [.lst ((prs s s.length 0).1.map D.str), .int ((prs s s.length 0).2 : Nat)])) st := by
  have h1 := sp_text_at k s 0 (st ++ [.lst []]) hl
  have h2 := sWhile_of (fb_loop k s st hl s.length 0 [] (by omega) (by simp) (by omega))
  simp at h1 h2
  simp [un_frames_by, d_frames_by, h1, h2]
theorem sp_frames_in (k : Nat) (s : List Nat) (st : Store) (hl : s.length ≤ 1000000) : callN (k + 4) .f_frames_in [.d (.str s)] st = .ok (.d (.tup [.tup ((prs s s.length 0).1.map D.str), .int ((prs s s.length 0).2 : Nat)])) st := by
  simp [un_frames_in, d_frames_in, sp_check_text, sp_frames_by _ _ _ hl]
/-! the law's own words -/
theorem lc_loop (c : Fn → PX.Fun) (s : List Nat) (st : Store) (hl : s.length ≤ 16777216) (h : ∀ c ∈ s, c ∈ S3338f9) : ∀ (r pre : List Nat) (t : Int) (o : Option VV), s = pre ++ r →
    ∃ o', fLoop none (gN 3) (L1__law_check c) ((List.range' pre.length r.length).map fun (k : Nat) => D.int (k : Int)) [some (.d (.str s)), some (.d (.str S3338f9)), some (.d (.int t)), o] st =
      .ok (.nx [some (.d (.str s)), some (.d (.str S3338f9)), some (.d (.int (t + wsum ((pre.length : Int) + 1) r))), o']) st
  | [], pre, t, o, e => ⟨o, by simp [fLoop_nil, wsum]⟩
  | a :: r, pre, t, o, e => by
    have hat : s[pre.length]? = some a := by rw [e]; simp
    have hm : a ∈ S3338f9 := h a (by rw [e]; simp)
    have hi := idx_lt hm
    obtain ⟨o', ih⟩ := lc_loop c s st hl h r (pre ++ [a]) (t + ((pre.length : Int) + 1) * ((S3338f9.idxOf a : Nat) + 1)) (some (.d (.int (pre.length : Int)))) (by simp [e])
    refine ⟨o', ?_⟩
    rw [List.length_cons, range'_cons, List.map_cons, fLoop_cons]
    unfold L1__law_check at ih ⊢
    simp
    rw [Fix_str_at hl hat]
    simp [hm]
    rw [Fmul_r (by omega)]
    simp at ih ⊢
    rw [ih]
    simp [wsum]
    omega
theorem sp_law_check (k : Nat) (s : List Nat) (st : Store) (hl : s.length ≤ 16777216) (h : ∀ c ∈ s, c ∈ S3338f9) : callN (k + 1) .f__law_check [.d (.str s)] st = .ok (.d (.int (chk s))) st := by
  obtain ⟨o', e⟩ := lc_loop (callN k) s st hl h s [] 0 none rfl
  simp at e
  simp [un__law_check, d__law_check, hl]
  rw [rgC_1 (by omega)]
  simp [irange0, e, chk]
theorem sp_law_digits (k n w : Nat) (st : Store) (hw : 0 < w ∧ w ≤ 4) (hn : n < 10 ^ w) : callN (k + 1) .f__law_digits [.d (.int (n : Int)), .d (.int (w : Int))] st = .ok (.d (.str (pad w n))) st := by
  have h1 : (numT n).length ≤ w := numT_len hw.1 hn
  have h2 : n < 10000 := Nat.lt_of_lt_of_le hn (Nat.pow_le_pow_right (by decide) hw.2)
  simp [un__law_digits, d__law_digits]
  rw [Fstr_int (by omega)]
  simp
  rw [Fadd_str (by simp [S4a7d1e]; omega)]
  simp
  rw [Fcut_str (by simp [S4a7d1e]; omega), cut_mx _ _ hw.1 (by simp [S4a7d1e]; omega)]
  have e4 : S4a7d1e = List.replicate 4 48 := rfl
  rw [e4, List.drop_append]
  simp only [List.length_append, List.length_replicate, List.drop_replicate]
  rw [show 4 + (numT n).length - w - 4 = 0 by omega, show 4 - (4 + (numT n).length - w) = w - (numT n).length by omega]
  simp [pad]
theorem sp_law_frame (k : Nat) (s : List Nat) (st : Store) (hl : s.length ≤ 999) (h : ∀ c ∈ s, c ∈ S3338f9) : callN (k + 2) .f__law_frame [.d (.str s)] st = .ok (.d (.str (frm s))) st := by
  have h1 := chk_lt s
  have h2 : (pad 4 s.length).length = 4 := pad_len (by decide) (by omega)
  have h3 : (pad 3 (chk s).toNat).length = 3 := pad_len (by decide) (by omega)
  have d1 := sp_law_digits k s.length 4 st (by decide) (by omega)
  have d2 := sp_law_digits k (chk s).toNat 3 st (by decide) (by omega)
  rw [show (((chk s).toNat : Nat) : Int) = chk s by omega] at d2
  simp at d1 d2
  simp [un__law_frame, d__law_frame, show s.length ≤ 16777216 by omega, d1, sp_law_check _ _ _ (show s.length ≤ 16777216 by omega) h, d2]
  rw [Fadd_str (by simp [h2, h3])]
  simp
  rw [Fadd_str (by simp [h2, h3]; omega)]
  simp [frm]
/-- what a text may be -/
def okT (t : List Nat) : Prop := 1 ≤ t.length ∧ t.length ≤ 999 ∧ ∀ c ∈ t, c ∈ S3338f9
def stm (ts : List (List Nat)) : List Nat := (ts.map frm).flatten
theorem frm_len {t : List Nat} (h : t.length ≤ 999) : (frm t).length = 7 + t.length := by
  have h1 := chk_lt t
  have h2 : (pad 4 t.length).length = 4 := pad_len (by decide) (by omega)
  have h3 : (pad 3 (chk t).toNat).length = 3 := pad_len (by decide) (by omega)
  simp [frm, h2, h3]
  omega
theorem stm_len : ∀ {ts : List (List Nat)}, (∀ t ∈ ts, okT t) → (stm ts).length ≤ 1006 * ts.length
  | [], _ => by simp [stm]
  | t :: r, h => by
    have := stm_len (ts := r) fun t ht => h t (by simp [ht])
    have h1 := frm_len (h t (by simp)).2.1
    have := (h t (by simp)).2.1
    simp [stm] at *
    omega
theorem sp_law_stream (k : Nat) (ts : List (List Nat)) (st : Store) (h : ∀ t ∈ ts, okT t) (hl : ts.length ≤ 100) : callN (k + 3) .f__law_stream [.d (.tup (ts.map D.str))] st = .ok (.d (.str (stm ts))) st := by
  simp [un__law_stream, d__law_stream]
  rw [comp_map1 D.str (fun t => .str (frm t)) ts rfl (by
    intro t ht
    obtain ⟨h0, h1, h2⟩ := h t ht
    simp [sp_law_frame _ _ _ h1 h2]) (by omega)]
  have hs := stm_len h
  have e : ((ts.map frm).map List.length).sum ≤ 16777216 := by
    have : ((ts.map frm).map List.length).sum = (stm ts).length := by simp [stm, List.length_flatten]
    omega
  have e' : (ts.map (List.length ∘ frm)).sum ≤ 16777216 := by simpa using e
  simp [Mjoin, allS_map, joinT_nil, stm, e']
/-! the law's own reader of streams -/
def asc (s : List Nat) : Prop := ∀ c ∈ s, c < 1114112
theorem okD_str {s : List Nat} (h : asc s) : okD (.str s) = true := by
  unfold okD okN
  exact List.all_eq_true.mpr fun c hc => decide_eq_true (h c hc)
theorem okD_signs {s : List Nat} (h : asc s) : okD (.lst (s.map fun c => .str [c])) = true := by
  unfold okD okN
  refine List.all_eq_true.mpr fun d hd => ?_
  obtain ⟨c, hc, rfl⟩ := List.mem_map.mp hd
  unfold okN
  simpa using h c hc
theorem Fne_nil {s : List Nat} (h : asc s) : Fne (.lst (s.map fun c => .str [c])) (.lst []) = some (.bl (!s.isEmpty)) := by
  rw [Fne_ok (okD_signs h) rfl]
  cases s with
  | nil => rfl
  | cons a r => simp [eqD, eqDs]
theorem Fne_str {a b : List Nat} (ha : asc a) (hb : asc b) : Fne (.str a) (.str b) = some (.bl (!decide (a = b))) := by
  rw [Fne_ok (okD_str ha) (okD_str hb)]
  congr 2
  unfold eqD
  by_cases h : a = b
  · subst h; simp
  · simp [h]
theorem asc_sub {s t : List Nat} (h : asc s) (hs : ∀ c ∈ t, c ∈ s) : asc t := fun c hc => h c (hs c hc)
theorem filter_none {s : List Nat} {p : Nat → Bool} : (s.filter fun c => !p c).isEmpty = s.all p := by
  induction s with
  | nil => rfl
  | cons a r ih => cases h : p a <;> simp [List.filter_cons, h, ih]
theorem lf_turn (k : Nat) (s : List Nat) (st : Store) (hl : s.length ≤ 1000000) (ha : asc s) (T : List D) (e : Nat) (o3 o4 o5 o6 : Option VV) (hT : T.length ≤ 1000000) :
    ∃ r, L1__law_frames_in (callN (k + 1)) [some (.d (.str s)), some (.d (.tup T)), some (.d (.int (e : Int))), o3, o4, o5, o6, none] st = .ok r st ∧
      match tat s e with
      | none => r = .rt (.d (.tup [.tup T, .int (e : Int)]))
      | some x => ∃ o4 o5 o6, r = .nx [some (.d (.str s)), some (.d (.tup (T ++ [.str x]))), some (.d (.int ((e + 7 + x.length : Nat) : Int))), o3, o4, o5, o6, none] := by
  have e1 : cut s (some (e : Int)) (some ((e : Int) + 7)) = (s.drop e).take 7 := by
    have := cut_nn s e (e + 7)
    rw [show ((e : Int) + 7) = ((e + 7 : Nat) : Int) by omega, this]; congr 1; omega
  have hh : ((s.drop e).take 7).length ≤ 7 := by simp; omega
  have hah : asc ((s.drop e).take 7) := asc_sub ha fun c hc => List.mem_of_mem_drop (List.mem_of_mem_take hc)
  unfold tat
  generalize hg : (s.drop e).take 7 = h at *
  generalize hr : tatH s e h = R
  have hS : ∀ n : Nat, ((s.drop (e + 7)).take n).length ≤ 16777216 := fun n => by simp; omega
  unfold L1__law_frames_in
  simp [show s.length ≤ 16777216 by omega, e1, show h.length ≤ 16777216 by omega]
  unfold tatH at hr
  by_cases c1 : (h.length : Int) < 7
  · have : h.length < 7 := by omega
    rw [if_pos (.inl this)] at hr
    subst hr
    simp [c1, opD]
  · have c1' : h.length = 7 := by omega
    simp [c1]
    rw [comp_str (fun c => !decide (c ∈ S781e5e)) (fun c => .str [c]) h rfl (by intro c _; simp) (by omega)]
    simp
    rw [Fne_nil (asc_sub hah fun c hc => (List.mem_filter.mp hc).1), filter_none]
    by_cases c2 : isD h = true
    · rw [if_neg (by rw [c2]; simp; omega)] at hr
      have c2' := c2
      unfold isD at c2'
      rw [c2']
      have hd : ∀ c ∈ h, 48 ≤ c ∧ c ≤ 57 := fun c hc => (dg_iff c).mp (by have := List.all_eq_true.mp c2' c hc; simpa using this)
      have hd1 : ∀ c ∈ h.take 4, 48 ≤ c ∧ c ≤ 57 := fun c hc => hd c (List.mem_of_mem_take hc)
      have hd2 : ∀ c ∈ h.drop 4, 48 ≤ c ∧ c ≤ 57 := fun c hc => hd c (List.mem_of_mem_drop hc)
      have l1 : (h.take 4).length = 4 := by simp [c1']
      have l2 : (h.drop 4).length = 3 := by simp [c1']
      have f1 : Fint [.str (h.take 4)] = some (.int (dv (h.take 4) : Nat)) := Fint_digits hd1 (by intro z; rw [z] at l1; simp at l1) (by omega)
      simp [c1', cut_xlit, f1]
      have e2 : cut s (some ((e : Int) + 7)) (some ((e : Int) + 7 + (dv (h.take 4) : Nat))) = (s.drop (e + 7)).take (dv (h.take 4)) := by
        have := cut_nn s (e + 7) (e + 7 + dv (h.take 4))
        rw [show ((e : Int) + 7) = ((e + 7 : Nat) : Int) by omega, show ((e + 7 : Nat) : Int) + (dv (h.take 4) : Nat) = ((e + 7 + dv (h.take 4) : Nat) : Int) by omega, this]; congr 1; omega
      rw [Fcut_str (by omega), e2]
      have hax : asc ((s.drop (e + 7)).take (dv (h.take 4))) := asc_sub ha fun c hc => List.mem_of_mem_drop (List.mem_of_mem_take hc)
      generalize hx : (s.drop (e + 7)).take (dv (h.take 4)) = x at *
      have hxl : x.length ≤ 16777216 := by rw [← hx]; exact hS _
      have hxn : x.length ≤ dv (h.take 4) := by rw [← hx]; simp; omega
      unfold tatX at hr
      simp
      by_cases c3 : dv (h.take 4) = 0
      · rw [if_pos (.inl c3)] at hr
        subst hr
        simp [c3, opD]
      · have c3' : ¬ ((dv (h.take 4) : Nat) : Int) = 0 := by omega
        simp [c3, c3', hxl]
        by_cases c4 : x.length < dv (h.take 4)
        · rw [if_pos (.inr (.inl c4))] at hr
          subst hr
          simp [c4, opD]
        · simp [c4]
          rw [comp_str (fun c => !decide (c ∈ S3338f9)) (fun c => .str [c]) x rfl (by intro c _; simp) hxl]
          simp
          rw [Fne_nil (asc_sub hax fun c hc => (List.mem_filter.mp hc).1), filter_none]
          by_cases c5 : isS x = true
          · rw [if_neg (by rw [c5]; simp; omega)] at hr
            have c5' := c5
            unfold isS at c5'
            rw [c5']
            have hs : ∀ c ∈ x, c ∈ S3338f9 := fun c hc => by have := List.all_eq_true.mp c5' c hc; simpa using this
            have h1 := chk_lt x
            have d2 := sp_law_digits k (chk x).toNat 3 st (by decide) (by omega)
            rw [show (((chk x).toNat : Nat) : Int) = chk x by omega] at d2
            simp at d2
            simp [sp_law_check _ _ _ hxl hs, d2, c1', cut_litx]
            rw [Fne_str (fun c hc => by have := pad_digits c hc; omega) (fun c hc => by have := hd2 c hc; omega)]
            have key : pad 3 (chk x).toNat = h.drop 4 ↔ chk x = (dv (h.drop 4) : Nat) := by
              constructor
              · intro z
                have := congrArg NumText.digitsVal z
                rw [pad_val] at this
                unfold dv; omega
              · intro z
                have hlt := digits_lt _ hd2
                rw [l2] at hlt
                rw [show (chk x).toNat = NumText.digitsVal (h.drop 4) by unfold dv at z; omega]
                exact pad_of (by decide) l2 hd2 hlt
            by_cases c6 : chk x = (dv (h.drop 4) : Nat)
            · rw [if_pos c6] at hr; subst hr
              simp [key.mpr c6]
              rw [Fadd_tup (by simp; omega)]
              simp
              omega
            · rw [if_neg c6] at hr; subst hr
              have : ¬ pad 3 (chk x).toNat = h.drop 4 := fun z => c6 (key.mp z)
              simp [this]
          · simp only [Bool.not_eq_true] at c5
            rw [if_pos (.inr (.inr c5))] at hr
            subst hr
            unfold isS at c5
            rw [c5]
            simp [opD]
    · simp only [Bool.not_eq_true] at c2
      rw [if_pos (.inr c2)] at hr
      subst hr
      unfold isD at c2
      rw [c2]
      simp [opD]
theorem prs_zero {s : List Nat} {e : Nat} : prs s 0 e = ([], e) := rfl
theorem lf_loop (k : Nat) (s : List Nat) (st : Store) (hl : s.length ≤ 1000000) (ha : asc s) : ∀ (n j : Nat) (T : List D) (e : Nat) (o3 o4 o5 o6 : Option VV), T.length + n ≤ 1000000 →
    ∃ r, fLoop none (gN 3) (L1__law_frames_in (callN (k + 1))) ((List.range' j n).map fun (k : Nat) => D.int (k : Int)) [some (.d (.str s)), some (.d (.tup T)), some (.d (.int (e : Int))), o3, o4, o5, o6, none] st = .ok r st ∧
      (r = .rt (.d (.tup [.tup (T ++ (prs s n e).1.map D.str), .int ((prs s n e).2 : Nat)])) ∨
        ∃ o3 o4 o5 o6, r = .nx [some (.d (.str s)), some (.d (.tup (T ++ (prs s n e).1.map D.str))), some (.d (.int ((prs s n e).2 : Nat))), o3, o4, o5, o6, none])
  | 0, j, T, e, o3, o4, o5, o6, _ => ⟨_, rfl, .inr ⟨o3, o4, o5, o6, by simp [prs]⟩⟩
  | n + 1, j, T, e, o3, o4, o5, o6, hT => by
    rw [range'_cons, List.map_cons, fLoop_cons]
    simp
    obtain ⟨r, h1, h2⟩ := lf_turn k s st hl ha T e (some (.d (.int (j : Int)))) o4 o5 o6 (by omega)
    rw [h1]
    unfold prs
    cases ht : tat s e with
    | none =>
      rw [ht] at h2
      simp only at h2
      subst h2
      exact ⟨_, by simp; rfl, .inl (by simp)⟩
    | some x =>
      rw [ht] at h2
      simp only at h2
      obtain ⟨p4, p5, p6, rfl⟩ := h2
      obtain ⟨r, g1, g2⟩ := lf_loop k s st hl ha n (j + 1) (T ++ [.str x]) (e + 7 + x.length) (some (.d (.int (j : Int)))) p4 p5 p6 (by simp; omega)
      refine ⟨r, ?_, ?_⟩
      · simp only [Out.bind_okE]
        rw [flK_nx rfl]; exact g1
      · simpa using g2
theorem sp_law_frames_in (k : Nat) (s : List Nat) (st : Store) (hl : s.length ≤ 1000000) (ha : asc s) : callN (k + 2) .f__law_frames_in [.d (.str s)] st = .ok (.d (.tup [.tup ((prs s s.length 0).1.map D.str), .int ((prs s s.length 0).2 : Nat)])) st := by
  obtain ⟨r, h1, h2⟩ := lf_loop k s st hl ha s.length 0 [] 0 none none none none (by simp; omega)
  simp [un__law_frames_in, d__law_frames_in, show s.length ≤ 16777216 by omega]
  rw [rgC_1 (by omega)]
  simp [irange0]
  simp at h1
  rw [h1]
  rcases h2 with h2 | ⟨o3, o4, o5, o6, h2⟩ <;> subst h2 <;> simp
/-! same -/
def nice : Nat → D → Prop
  | _, .non => True
  | _, .bl _ => True
  | _, .int _ => True
  | _, .str s => asc s
  | n + 1, .tup xs => xs.length ≤ 1000000 ∧ ∀ x ∈ xs, nice n x
  | n + 1, .lst xs => xs.length ≤ 1000000 ∧ ∀ x ∈ xs, nice n x
  | _, _ => False
theorem Feq_self_str {a : List Nat} (ha : asc a) : Feq (.str a) (.str a) = some (.bl true) := by
  rw [Feq_ok (okD_str ha) (okD_str ha)]; unfold eqD; simp
@[simp] theorem Fne_bl {a b : Bool} : Fne (.bl a) (.bl b) = some (.bl (a != b)) := by cases a <;> cases b <;> rfl
@[simp] theorem Feq_bl {a b : Bool} : Feq (.bl a) (.bl b) = some (.bl (a == b)) := by cases a <;> cases b <;> rfl
theorem all_rep (n : Nat) : ∀ xs : List Nat, (xs.map fun _ => true).all id = true
  | [] => rfl
  | _ :: r => by simp
theorem sp_same : ∀ (n k : Nat) (d : D) (st : Store), nice n d → callN (k + n + 1) .f__law_same [.d d, .d d] st = .ok (.d (.bl true)) st
  | n, k, .non, st, h => by simp [un__law_same, d__law_same, isTy_non]
  | n, k, .bl b, st, h => by simp [un__law_same, d__law_same, isTy_bl]
  | n, k, .int i, st, h => by simp [un__law_same, d__law_same, isTy_int]
  | n, k, .str s, st, h => by
    have h : asc s := by cases n <;> exact h
    simp [un__law_same, d__law_same, isTy_str, Feq_self_str h]
  | n + 1, k, .tup xs, st, h => by
    obtain ⟨h1, h2⟩ := h
    simp [un__law_same, d__law_same, isTy_tup]
    rw [rgC_1 (by omega)]
    simp [irange0]
    rw [comp_map1 (fun (k : Nat) => D.int (k : Int)) (fun _ => .bl true) _ rfl (by
      intro j hj
      have hj : j < xs.length := by simpa using hj
      have hx : xs[j]? = some xs[j] := List.getElem?_eq_getElem hj
      simp [Fix_tup_at hx]
      have := sp_same n k xs[j] st (h2 _ (List.getElem_mem hj))
      rw [show k + (n + 1) = k + n + 1 by omega]
      exact this) (by simp; omega)]
    simp [allB_map]
  | n + 1, k, .lst xs, st, h => by
    obtain ⟨h1, h2⟩ := h
    simp [un__law_same, d__law_same, isTy_lst]
    rw [rgC_1 (by omega)]
    simp [irange0]
    rw [comp_map1 (fun (k : Nat) => D.int (k : Int)) (fun _ => .bl true) _ rfl (by
      intro j hj
      have hj : j < xs.length := by simpa using hj
      have hx : xs[j]? = some xs[j] := List.getElem?_eq_getElem hj
      simp [Fix_lst_at hx]
      have := sp_same n k xs[j] st (h2 _ (List.getElem_mem hj))
      rw [show k + (n + 1) = k + n + 1 by omega]
      exact this) (by simp; omega)]
    simp [allB_map]
  | 0, _, .tup _, _, h => h.elim
  | 0, _, .lst _, _, h => h.elim
  | 0, _, .dct _, _, h => h.elim
  | n + 1, _, .dct _, _, h => h.elim
  | 0, _, .scr _, _, h => h.elim
  | n + 1, _, .scr _, _, h => h.elim
/-! the well -/
def wl (a b c : Int) : MO := .lst [.int a, .int b, .int c]
theorem get_wl {st : Store} {j : Nat} {o : MO} (hj : j < st.length) : (st.set j o)[j]? = some o := by simp [hj]
theorem sp_take (k : Nat) (st : Store) (j : Nat) (hj : j < st.length) (a b c many : Int) (h1 : 0 < many) (h2 : many < 1073741824) :
    ∃ v a' b' c', callN (k + 1) .f__law_take [.loc j, .d (.int many)] (st.set j (wl a b c)) = .ok (.d (.int v)) (st.set j (wl a' b' c')) ∧ 0 ≤ v ∧ v < many := by
  by_cases h : 0 < a
  · refine ⟨a % many, a / many, b, c, ?_, Int.emod_nonneg _ (by omega), Int.emod_lt_of_pos _ h1⟩
    simp [un__law_take, d__law_take, wl, hj, h, h1, h2, gsK]
  · refine ⟨(b * (b % 28657 + 40009) + 50023 * (c + 1) + 17) % 2147483563 / 83 % many, a, (b * (b % 28657 + 40009) + 50023 * (c + 1) + 17) % 2147483563, c + 1, ?_, Int.emod_nonneg _ (by omega), Int.emod_lt_of_pos _ h1⟩
    have e1 : ∀ x : Int, Fmul (.int x) (.int (b % 28657 + 40009)) = some (.int (x * (b % 28657 + 40009))) := fun x => Fmul_r (by omega)
    have e2 : ∀ x : Int, Fmul (.int 50023) (.int x) = some (.int (50023 * x)) := fun x => Fmul_l (by omega)
    simp [un__law_take, d__law_take, wl, hj, h, h1, gsK, e1, e2]
theorem len_wl {st : Store} {j : Nat} {o : MO} : (st.set j o).length = st.length := by simp
/-- one of some signs -/
theorem sp_pick_str (k : Nat) (st : Store) (j : Nat) (hj : j < st.length) (a b c : Int) (z : List Nat) (h1 : 0 < z.length) (h2 : z.length < 1073741824) (h3 : z.length ≤ 16777216) :
    ∃ x a' b' c', callN (k + 2) .f__law_pick [.loc j, .d (.str z)] (st.set j (wl a b c)) = .ok (.d (.str [x])) (st.set j (wl a' b' c')) ∧ x ∈ z := by
  obtain ⟨v, a', b', c', e, v0, v1⟩ := sp_take k st j hj a b c z.length (by omega) (by omega)
  obtain ⟨i, rfl⟩ := Int.eq_ofNat_of_zero_le v0
  have hi : i < z.length := by omega
  refine ⟨z[i], a', b', c', ?_, List.getElem_mem hi⟩
  simp [un__law_pick, d__law_pick, h3, e, ixI_nat hi, hi]
/-- one of some texts -/
theorem sp_pick_lst (k : Nat) (st : Store) (j : Nat) (hj : j < st.length) (a b c : Int) (z : List D) (h1 : 0 < z.length) (h2 : z.length < 1073741824) :
    ∃ x a' b' c', callN (k + 2) .f__law_pick [.loc j, .d (.lst z)] (st.set j (wl a b c)) = .ok (.d x) (st.set j (wl a' b' c')) ∧ x ∈ z := by
  obtain ⟨v, a', b', c', e, v0, v1⟩ := sp_take k st j hj a b c z.length (by omega) (by omega)
  obtain ⟨i, rfl⟩ := Int.eq_ofNat_of_zero_le v0
  have hi : i < z.length := by omega
  refine ⟨z[i], a', b', c', ?_, List.getElem_mem hi⟩
  simp [un__law_pick, d__law_pick, e, ixI_nat hi, hi]
/-- some picks in a row -/
theorem picks (k : Nat) (st : Store) (j : Nat) (hj : j < st.length) (z : List Nat) (h1 : 0 < z.length) (h3 : z.length ≤ 16777216) (σ0 σ1 σ2 σ3 : Option VV) : ∀ (n i : Nat) (a b c : Int) (acc : List Nat), acc.length + n ≤ 16777216 →
    ∃ xs a' b' c', cLoop none (gN 5) tTrue (eCall (callN (k + 2) .f__law_pick) [eVar 0, eVar 4]) [some (.loc j), σ1, σ2, σ3, some (.d (.str z)), none] ((List.range' i n).map fun (k : Nat) => D.int (k : Int)) (acc.map fun c => .str [c]) (st.set j (wl a b c)) =
      .ok ((acc ++ xs).map fun c => .str [c]) (st.set j (wl a' b' c')) ∧ xs.length = n ∧ ∀ x ∈ xs, x ∈ z
  | 0, i, a, b, c, acc, _ => ⟨[], a, b, c, by simp [cLoop_nil], rfl, by simp⟩
  | n + 1, i, a, b, c, acc, hn => by
    obtain ⟨x, a', b', c', e, hx⟩ := sp_pick_str k st j hj a b c z h1 (by omega) h3
    obtain ⟨xs, a2, b2, c2, e2, l2, m2⟩ := picks k st j hj z h1 h3 σ0 σ1 σ2 σ3 n (i + 1) a' b' c' (acc ++ [x]) (by simp; omega)
    refine ⟨x :: xs, a2, b2, c2, ?_, by simp [l2], fun y hy => ?_⟩
    · rw [range'_cons, List.map_cons, cLoop_cons]
      simp [e]
      rw [clK_eq rfl (by simp; omega)]
      simpa using e2
    · rcases List.mem_cons.mp hy with rfl | hy
      · exact hx
      · exact m2 y hy
theorem flat1 (xs : List Nat) : (xs.map fun c => [c]).flatten = xs := by
  induction xs with
  | nil => rfl
  | cons a r ih => simp [ih]
theorem sg_small : ∀ c ∈ S3338f9, c < 128 := by decide
theorem numT_sg {n : Nat} : ∀ c ∈ numT n, c ∈ S3338f9 := fun c hc => by
  have := numT_digits n c hc
  have h2 : ∀ m : Nat, m < 10 → (48 + m) ∈ S3338f9 := by decide
  have := h2 (c - 48) (by omega)
  rwa [show 48 + (c - 48) = c by omega] at this
theorem sp_law_text2 (k : Nat) (st : Store) (j : Nat) (hj : j < st.length) (a b c most : Int) (h1 : 0 < most) (h2 : most ≤ 999) :
    ∃ t a' b' c', callN (k + 3) .f__law_text [.loc j, .d (.int most)] (st.set j (wl a b c)) = .ok (.d (.str t)) (st.set j (wl a' b' c')) ∧ okT t ∧ (t.length : Int) ≤ most + 26 := by
  obtain ⟨v, a1, b1, c1, e1, v0, v1⟩ := sp_take (k + 1) st j hj a b c 4 (by omega) (by omega)
  obtain ⟨w, a2, b2, c2, e2, w0, w1⟩ := sp_take (k + 1) st j hj a1 b1 c1 most (by omega) (by omega)
  obtain ⟨i, rfl⟩ := Int.eq_ofNat_of_zero_le v0
  obtain ⟨m, rfl⟩ := Int.eq_ofNat_of_zero_le w0
  by_cases hv : (i : Int) = 3
  · obtain ⟨u, a3, b3, c3, e3, u0, u1⟩ := sp_take (k + 1) st j hj a2 b2 c2 9 (by omega) (by omega)
    obtain ⟨x, a4, b4, c4, e4, hx⟩ := sp_pick_lst k st j hj a3 b3 c3 [.str [], .str S485b39, .str Sf10ca9, .str [32]] (by simp) (by simp)
    have hx' : ∃ z, x = .str z ∧ z.length ≤ 20 ∧ ∀ c ∈ z, c ∈ S3338f9 := by
      simp only [List.mem_cons, List.not_mem_nil, or_false] at hx
      rcases hx with rfl | rfl | rfl | rfl
      · exact ⟨_, rfl, by decide, by decide⟩
      · exact ⟨_, rfl, by decide, by decide⟩
      · exact ⟨_, rfl, by decide, by decide⟩
      · exact ⟨_, rfl, by decide, by decide⟩
    obtain ⟨z, rfl, z1, z2⟩ := hx'
    have hn := numT_le (n := (1 + u).toNat) (by omega)
    refine ⟨[100, 32] ++ numT (1 + u).toNat ++ z, a4, b4, c4, ?_, ⟨?_, ?_, ?_⟩, by simp; omega⟩
    · simp [un__law_text, d__law_text, e1, e2, hv, e3]
      rw [Fstr_int (by omega)]
      simp
      rw [Fadd_str (by simp; omega)]
      simp [e4]
      rw [Fadd_str (by simp; omega)]
      simp
    · simp
    · simp; omega
    · intro c hc
      simp only [List.mem_append] at hc
      rcases hc with (hc | hc) | hc
      · exact (show ∀ c ∈ [100, 32], c ∈ S3338f9 by decide) c hc
      · exact numT_sg c hc
      · exact z2 c hc
  · have hz : ∃ z : List Nat, [D.str S3338f9, .str S781e5e, .str S8078ba][i]? = some (.str z) ∧ 0 < z.length ∧ z.length ≤ 60 ∧ ∀ c ∈ z, c ∈ S3338f9 := by
      have : i = 0 ∨ i = 1 ∨ i = 2 := by omega
      rcases this with rfl | rfl | rfl
      · exact ⟨_, rfl, by decide, by decide, by decide⟩
      · exact ⟨_, rfl, by decide, by decide, by decide⟩
      · exact ⟨_, rfl, by decide, by decide, by decide⟩
    obtain ⟨z, z0, z1, z2, z3⟩ := hz
    obtain ⟨xs, a3, b3, c3, e3, l3, m3⟩ := picks k st j hj z z1 (by omega) none (some (.d (.int most))) (some (.d (.int (i : Int)))) (some (.d (.int (1 + (m : Int))))) (1 + m) 0 a2 b2 c2 [] (by simp; omega)
    refine ⟨xs, a3, b3, c3, ?_, ⟨by omega, by omega, fun c hc => z3 c (m3 c hc)⟩, by omega⟩
    simp [un__law_text, d__law_text, e1, e2, hv, ixI_nat (show i < 3 by omega), z0]
    rw [rgC_1 (by omega)]
    rw [show (1 + (m : Int)).toNat = 1 + m by omega]
    simp [irange0]
    simp at e3
    rw [e3]
    simp [Mjoin, allS_map, joinT_nil, flat1]
    have : (List.map (List.length ∘ fun c => [c]) xs).sum ≤ 16777216 := by
      have q : (List.map (List.length ∘ fun c => [c]) xs) = List.replicate xs.length 1 := by
        apply List.ext_getElem?; intro i; simp
        by_cases hi : i < xs.length <;> simp [hi]
      rw [q]; simp; omega
    simp [this]
theorem sp_law_text (k : Nat) (st : Store) (j : Nat) (hj : j < st.length) (a b c most : Int) (h1 : 0 < most) (h2 : most ≤ 999) :
    ∃ t a' b' c', callN (k + 3) .f__law_text [.loc j, .d (.int most)] (st.set j (wl a b c)) = .ok (.d (.str t)) (st.set j (wl a' b' c')) ∧ okT t := by
  obtain ⟨t, a', b', c', e, h, _⟩ := sp_law_text2 k st j hj a b c most h1 h2
  exact ⟨t, a', b', c', e, h⟩
/-! the law's start -/
theorem ww_loop (c : Fn → PX.Fun) (σ0 σ1 σ2 : Option VV) (st : Store) : ∀ (xs : List Int) (stir : Int) (o : Option VV), ∃ stir' o', fLoop none (gN 4) (L1__law_well c) (xs.map D.int) [σ0, σ1, σ2, some (.d (.int stir)), o] st = .ok (.nx [σ0, σ1, σ2, some (.d (.int stir')), o']) st
  | [], stir, o => ⟨stir, o, rfl⟩
  | x :: r, stir, o => by
    obtain ⟨s', o', e⟩ := ww_loop c σ0 σ1 σ2 st r ((stir * 45013 + x % 2147483399 + 37) % 2147483563) (some (.d (.int x)))
    refine ⟨s', o', ?_⟩
    rw [List.map_cons, fLoop_cons]
    unfold L1__law_well at e ⊢
    simp
    rw [Fmul_r (by omega)]
    simp [e]
theorem Fpow17 : Fpow (.int 10) (.int 17) = some (.int 100000000000000000) := by simp [Fpow]
theorem leave_new {st : Store} {o : MO} : leaveC st.length (.rt (.loc st.length)) (st ++ [o]) = .ok (.loc st.length) (st ++ [o]) := by
  simp [leaveC]
theorem sp_well (k : Nat) (ns : List Int) (t : Nat) (st : Store) : ∃ a b c, callN (k + 1) .f__law_well [.d (.scr ns), .d (.int (t : Int))] st = .ok (.loc st.length) (st ++ [wl a b c]) := by
  have main : ∀ own : Int, ∃ a b c, (sSeq (sAsg (eBin Fadd (eC (.int 50021)) (eBin Fmul (eC (.int 1013)) (eVar 1))) (gN 3))
  (sSeq (sFor (iE (eBin Fadd (eCut (eVar 0) pNone (pSome (eC (.int 5)))) (eLst [(eVar 2)]))) (gN 4) (L1__law_well (callN k)))
  (sRet (eNew [(eIf (tOr' (tE (eBin Flt (eVar 2) (eC (.int 0)))) (tE (eBin Fge (eVar 2) (eBin Fpow (eC (.int 10)) (eC (.int 17)))))) (eCall1 Fabs [(eVar 2)]) (eC (.int 0))), (eVar 3), (eC (.int 0))])))) [some (.d (.scr ns)), some (.d (.int (t : Int))), some (.d (.int own)), none, none] st = .ok (.rt (.loc st.length)) (st ++ [wl a b c]) := fun own => by
    obtain ⟨s', o', e⟩ := ww_loop (callN k) (some (.d (.scr ns))) (some (.d (.int (t : Int)))) (some (.d (.int own))) st (ns.take 5 ++ [own]) (50021 + 1013 * (t : Int)) none
    have e5 : Fadd (.lst ((ns.take 5).map D.int)) (.lst [.int own]) = some (.lst ((ns.take 5 ++ [own]).map D.int)) := by
      rw [Fadd_lst (by simp; omega)]; simp
    refine ⟨if own < 0 ∨ 100000000000000000 ≤ own then (if own < 0 then -own else own) else 0, s', 0, ?_⟩
    simp
    rw [Fmul_l (by omega)]
    simp [cut_xlit]
    have e6 := e5
    simp at e6
    rw [e6]
    simp at e
    simp [e, Fpow17, wl]
    by_cases c1 : own < 0
    · simp [c1, Fpow17]
    · by_cases c2 : 100000000000000000 ≤ own
      · simp [c1, c2, Fpow17]
      · simp [c1, c2, Fpow17]
  by_cases ht : (t : Int) < ns.length
  · have ht' : t < ns.length := by omega
    obtain ⟨a, b, c, e⟩ := main ns[t]
    refine ⟨a, b, c, ?_⟩
    simp [un__law_well, d__law_well, ht, ixI_nat ht', ht'] at e ⊢
    rw [e]
    simp [leave_new]
  · obtain ⟨a, b, c, e⟩ := main (9311 * (t : Int) + (ns.take 2).sum % 1000003 + 71)
    refine ⟨a, b, c, ?_⟩
    simp [un__law_well, d__law_well, ht] at e ⊢
    rw [Fmul_l (by omega)]
    simp [cut_xlit]
    have := allI_int (ns.take 2)
    simp at this
    simp [this, e, leave_new]
/-! streams cut anywhere -/
def ends : Nat → List (List Nat) → List Nat
  | e, [] => [e]
  | e, t :: r => e :: ends (e + 7 + t.length) r
theorem ends_ne (e : Nat) (ts : List (List Nat)) : ∃ r, ends e ts = e :: r := by cases ts <;> exact ⟨_, rfl⟩
theorem ends_le : ∀ (ts : List (List Nat)) (e x : Nat), x ∈ ends e ts → e ≤ x
  | [], e, x, h => by simp [ends] at h; omega
  | t :: r, e, x, h => by
    simp only [ends, List.mem_cons] at h
    rcases h with h | h
    · omega
    · have := ends_le r _ _ h; omega
/-- how many ends there are up to a place -/
def cnt (e at_ : Nat) (ts : List (List Nat)) : Nat := ((ends e ts).tail.filter fun x => decide (x ≤ at_)).length
theorem cnt_le : ∀ (e a : Nat) (ts : List (List Nat)), cnt e a ts < (ends e ts).length := fun e a ts => by
  obtain ⟨r, h⟩ := ends_ne e ts
  unfold cnt
  rw [h]
  have := List.length_filter_le (fun x => decide (x ≤ a)) r
  simp; omega
theorem frm_digits {t : List Nat} (h : okT t) : (frm t).take 7 = pad 4 t.length ++ pad 3 (chk t).toNat ∧ (frm t).drop 7 = t := by
  have h1 := chk_lt t
  have h2 : (pad 4 t.length).length = 4 := pad_len (by decide) (by have := h.2.1; omega)
  have h3 : (pad 3 (chk t).toNat).length = 3 := pad_len (by decide) (by omega)
  constructor
  · unfold frm; rw [List.take_left' (by simp [h2, h3])]
  · unfold frm; rw [List.drop_left' (by simp [h2, h3])]
theorem tat_frame {p t q : List Nat} (h : okT t) (a : Nat) : tat ((p ++ (frm t ++ q)).take a) p.length = if p.length + 7 + t.length ≤ a then some t else none := by
  have hf := frm_len h.2.1
  obtain ⟨f1, f2⟩ := frm_digits h
  have h1 := chk_lt t
  have h2 : (pad 4 t.length).length = 4 := pad_len (by decide) (by have := h.2.1; omega)
  have h3 : (pad 3 (chk t).toNat).length = 3 := pad_len (by decide) (by omega)
  have dr : ((p ++ (frm t ++ q)).take a).drop p.length = (frm t ++ q).take (a - p.length) := by
    rw [List.drop_take, List.drop_left]
  have dr7 : ((p ++ (frm t ++ q)).take a).drop (p.length + 7) = (t ++ q).take (a - p.length - 7) := by
    rw [← List.drop_drop, dr, List.drop_take, List.drop_append_of_le_length (by omega), f2]
  unfold tat
  rw [dr]
  unfold tatH
  rw [dr7]
  by_cases c1 : a - p.length < 7
  · have : (((frm t ++ q).take (a - p.length)).take 7).length < 7 := by simp; omega
    rw [if_pos (.inl this), if_neg (by omega)]
  · have hh : ((frm t ++ q).take (a - p.length)).take 7 = pad 4 t.length ++ pad 3 (chk t).toNat := by
      rw [List.take_take, show min 7 (a - p.length) = 7 by omega, List.take_append_of_le_length (by omega), f1]
    rw [hh]
    have hd : isD (pad 4 t.length ++ pad 3 (chk t).toNat) = true := by
      unfold isD
      refine List.all_eq_true.mpr fun c hc => decide_eq_true ((dg_iff c).mpr ?_)
      rcases List.mem_append.mp hc with hc | hc <;> exact pad_digits c hc
    rw [if_neg (by rw [hd]; simp [h2, h3])]
    have t4 : (pad 4 t.length ++ pad 3 (chk t).toNat).take 4 = pad 4 t.length := List.take_left' h2
    have d4 : (pad 4 t.length ++ pad 3 (chk t).toNat).drop 4 = pad 3 (chk t).toNat := List.drop_left' h2
    unfold tatX
    rw [t4, d4]
    unfold dv
    rw [pad_val, pad_val]
    have := h.1
    by_cases c2 : p.length + 7 + t.length ≤ a
    · have hx : ((t ++ q).take (a - p.length - 7)).take t.length = t := by
        rw [List.take_take, show min t.length (a - p.length - 7) = t.length by omega, List.take_left]
      rw [hx, if_pos c2]
      have hs : isS t = true := List.all_eq_true.mpr fun c hc => decide_eq_true (h.2.2 c hc)
      have hne : t ≠ [] := by intro z; subst z; simp at this
      rw [if_neg (by rw [hs]; simp [hne]), if_pos (by omega)]
    · rw [if_neg c2]
      have hx : (((t ++ q).take (a - p.length - 7)).take t.length).length < t.length := by simp; omega
      rw [if_pos (.inr (.inl hx))]
theorem cnt_zero {e a : Nat} {t : List Nat} {r : List (List Nat)} (h : ¬ e + 7 + t.length ≤ a) : cnt e a (t :: r) = 0 := by
  unfold cnt
  simp only [ends, List.tail_cons]
  rw [List.length_eq_zero_iff, List.filter_eq_nil_iff]
  intro x hx
  have := ends_le r _ _ hx
  simp; omega
theorem prs_cut : ∀ (ts : List (List Nat)) (p : List Nat) (a n : Nat), (∀ t ∈ ts, okT t) → p.length ≤ a → a ≤ n + p.length →
    prs ((p ++ stm ts).take a) n p.length = (ts.take (cnt p.length a ts), (ends p.length ts)[cnt p.length a ts]?.getD 0)
  | ts, p, a, 0, h, h1, h2 => by
    have : cnt p.length a ts = 0 := by
      cases ts with
      | nil => rfl
      | cons t r => exact cnt_zero (by omega)
    rw [this]
    obtain ⟨r, e⟩ := ends_ne p.length ts
    simp [prs, e]
  | [], p, a, n + 1, h, h1, h2 => by
    unfold prs
    rw [tat_none (by simp [stm]; omega)]
    simp [cnt, ends]
  | t :: r, p, a, n + 1, h, h1, h2 => by
    have ht := h t (by simp)
    have e0 : stm (t :: r) = frm t ++ stm r := by simp [stm]
    unfold prs
    rw [e0, tat_frame ht]
    by_cases c : p.length + 7 + t.length ≤ a
    · rw [if_pos c]
      have hf := frm_len ht.2.1
      have ih := prs_cut r (p ++ frm t) a n (fun t ht => h t (by simp [ht])) (by simp [hf]; omega) (by simp [hf]; omega)
      have e1 : (p ++ frm t).length = p.length + 7 + t.length := by simp [hf]; omega
      rw [e1, List.append_assoc] at ih
      simp only [ih]
      have e2 : cnt p.length a (t :: r) = cnt (p.length + 7 + t.length) a r + 1 := by
        unfold cnt
        simp only [ends, List.tail_cons]
        obtain ⟨q, e⟩ := ends_ne (p.length + 7 + t.length) r
        rw [e]
        simp [List.filter_cons, c]
      rw [e2]
      simp [ends]
    · rw [if_neg c, cnt_zero c]
      simp [ends]
theorem prs_more : ∀ (s : List Nat) (n m e : Nat), s.length ≤ n + e → n ≤ m → prs s m e = prs s n e
  | s, 0, m, e, h, _ => by
    cases m with
    | zero => rfl
    | succ m => unfold prs; rw [tat_none (by omega)]
  | s, n + 1, 0, e, h, h2 => by omega
  | s, n + 1, m + 1, e, h, h2 => by
    unfold prs
    cases ht : tat s e with
    | none => rfl
    | some x =>
      have := tat_some ht
      simp only [prs_more s n m (e + 7 + x.length) (by omega) (by omega)]
theorem prs_at {ts : List (List Nat)} (h : ∀ t ∈ ts, okT t) (a : Nat) : prs ((stm ts).take a) ((stm ts).take a).length 0 = (ts.take (cnt 0 a ts), (ends 0 ts)[cnt 0 a ts]?.getD 0) := by
  have := prs_cut ts [] a a h (by simp) (by simp)
  simp at this
  rw [← this]
  exact (prs_more _ _ _ _ (by omega) (by simp; omega)).symm
/-! the checks -/
theorem Fmul_two {a b : D} : Fmul (.lst [a, b]) (.int 2) = some (.lst [a, b, a, b]) := by simp [Fmul, line_of]
theorem Fmul_one {a : D} : Fmul (.lst [a]) (.int 2) = some (.lst [a, a]) := by simp [Fmul, line_of]
@[simp] theorem ixI_m1 {n : Nat} : ixI (n + 1) (-1) = some n := by
  unfold ixI L2.ixN; rw [if_neg (by omega), if_pos (by omega)]; congr 1; omega
@[simp] theorem permV_0 {x : VV} : permV [0] [x] = [x] := rfl
theorem asc_sg {s : List Nat} (h : ∀ c ∈ s, c ∈ S3338f9) : asc s := fun c hc => by have := sg_small c (h c hc); omega
theorem asc_app {s t : List Nat} (h : asc s) (h' : asc t) : asc (s ++ t) := fun c hc => by
  rcases List.mem_append.mp hc with hc | hc
  · exact h c hc
  · exact h' c hc
theorem asc_frm {t : List Nat} (h : okT t) : asc (frm t) := by
  refine asc_app (asc_app ?_ ?_) (asc_sg h.2.2) <;> intro c hc <;> have := pad_digits c hc <;> omega
theorem asc_stm {ts : List (List Nat)} (h : ∀ t ∈ ts, okT t) : asc (stm ts) := fun c hc => by
  unfold stm at hc
  obtain ⟨l, hl, hc⟩ := List.mem_flatten.mp hc
  obtain ⟨t, ht, rfl⟩ := List.mem_map.mp hl
  exact asc_frm (h t ht) c hc
theorem nice_pair {ts : List (List Nat)} {e : Nat} (h : ∀ t ∈ ts, asc t) (hl : ts.length ≤ 1000000) : nice 2 (.tup [.tup (ts.map D.str), .int (e : Int)]) := by
  refine ⟨by simp, fun x hx => ?_⟩
  simp only [List.mem_cons, List.not_mem_nil, or_false] at hx
  rcases hx with rfl | rfl
  · refine ⟨by simpa using hl, fun x hx => ?_⟩
    obtain ⟨t, ht, rfl⟩ := List.mem_map.mp hx
    exact h t ht
  · trivial
theorem nice_two {s : List Nat} (ha : asc s) (hl : s.length ≤ 1000000) : nice 3 (.lst [.tup [.tup ((prs s s.length 0).1.map D.str), .int ((prs s s.length 0).2 : Nat)], .tup [.tup ((prs s s.length 0).1.map D.str), .int ((prs s s.length 0).2 : Nat)]]) := by
  have key : ∀ (n e : Nat), (∀ t ∈ (prs s n e).1, asc t) ∧ (prs s n e).1.length ≤ n := by
    intro n
    induction n with
    | zero => intro e; simp [prs]
    | succ n ih =>
      intro e
      unfold prs
      cases ht : tat s e with
      | none => simp
      | some x =>
        have q := (tat_some ht).2.2
        have ih := ih (e + 7 + x.length)
        refine ⟨fun t ht => ?_, by simp; exact ih.2⟩
        rcases List.mem_cons.mp ht with rfl | ht
        · exact asc_sg fun c hc => by have := List.all_eq_true.mp q c hc; simpa using this
        · exact ih.1 t ht
  have h1 := key s.length 0
  have h2 := nice_pair (ts := (prs s s.length 0).1) (e := (prs s s.length 0).2) h1.1 (by have := h1.2; omega)
  refine ⟨by simp, fun x hx => ?_⟩
  simp only [List.mem_cons, List.not_mem_nil, or_false] at hx
  rcases hx with rfl | rfl <;> exact h2
theorem set_app {st : Store} {j : Nat} {o a : MO} (hj : j < st.length) : (st.set j o) ++ [a] = (st ++ [a]).set j o := by
  rw [List.set_append_left _ _ hj]
theorem irange_ints {lo c : Int} (h0 : 0 ≤ lo) (hc : 0 ≤ c) (n : Nat) : ∀ d ∈ irange lo n c, ∃ a : Nat, d = .int (a : Int) := fun d hd => by
  unfold irange at hd
  obtain ⟨k, _, rfl⟩ := List.mem_map.mp hd
  refine ⟨(lo + (k : Int) * c).toNat, ?_⟩
  have : 0 ≤ (k : Int) * c := Int.mul_nonneg (by omega) hc
  congr 1; omega
theorem take_app_set {st : Store} {j : Nat} {o a : MO} (hj : j < st.length) : ((st ++ [a]).set j o).take st.length = st.set j o := by
  rw [← set_app hj, List.take_left' (by simp)]
/-! writes -/
inductive Wr where
  | add (t : List Nat) | trim (n : Nat)
def wD : Wr → D
  | .add t => .tup [.str S34ec78, .str t]
  | .trim n => .tup [.str S9e2cd3, .int (n : Int)]
def size : Wr → Nat
  | .add t => t.length
  | .trim _ => 1
def tornW (log : List Nat) (w : Wr) (k : Nat) : List Nat := match w with
  | .add t => log ++ t.take k
  | .trim n => if 0 < k then log.take n else log
def wrote (log : List Nat) (w : Wr) : List Nat := tornW log w (size w)
def sgs (s : List Nat) : Prop := ∀ c ∈ s, c ∈ S3338f9
def okW (log : List Nat) : Wr → Prop
  | .add t => 1 ≤ t.length ∧ t.length ≤ 40000 ∧ sgs t
  | .trim n => n ≤ log.length
theorem feq_aa : Feq (.str S34ec78) (.str S34ec78) = some (.bl true) := by rw [Feq_ok (by decide +kernel) (by decide +kernel)]; rfl
theorem feq_at : Feq (.str S34ec78) (.str S9e2cd3) = some (.bl false) := by rw [Feq_ok (by decide +kernel) (by decide +kernel)]; rfl
theorem feq_ta : Feq (.str S9e2cd3) (.str S34ec78) = some (.bl false) := by rw [Feq_ok (by decide +kernel) (by decide +kernel)]; rfl
theorem feq_tt : Feq (.str S9e2cd3) (.str S9e2cd3) = some (.bl true) := by rw [Feq_ok (by decide +kernel) (by decide +kernel)]; rfl
theorem sp_is_between (k : Nat) (a b c : Int) (st : Store) : callN (k + 2) .f_is_between [.d (.int a), .d (.int b), .d (.int c)] st = .ok (.d (.bl (decide (b ≤ a) && decide (a ≤ c)))) st := by
  simp [un_is_between, d_is_between, un_is_whole, d_is_whole, isTy_int]
  by_cases h : b ≤ a <;> simp [h]
theorem sp_is_tuple_of (k : Nat) (xs : List D) (n : Int) (st : Store) : callN (k + 1) .f_is_tuple_of [.d (.tup xs), .d (.int n)] st = .ok (.d (.bl (decide ((xs.length : Int) = n)))) st := by
  simp [un_is_tuple_of, d_is_tuple_of, isTy_tup]
theorem sp_check_write (k : Nat) (log : List Nat) (w : Wr) (st : Store) (hl : log.length ≤ 1000000) (h : okW log w) : callN (k + 4) .f_check_write [.d (.str log), .d (wD w)] st = .ok (.d .non) st := by
  cases w with
  | trim n =>
    have h' : n ≤ log.length := h
    simp [un_check_write, d_check_write, un_is_write_of, d_is_write_of, wD, sp_is_tuple_of, feq_tt, show log.length ≤ 16777216 by omega, sp_is_between, h']
  | add t =>
    obtain ⟨h1, h2, h3⟩ := h
    have e : (t.all fun c => decide (c ∈ S3338f9)) = true := List.all_eq_true.mpr fun c hc => decide_eq_true (h3 c hc)
    simp [un_check_write, d_check_write, un_is_write_of, d_is_write_of, wD, sp_is_tuple_of, feq_at, feq_aa, sp_is_signed k t st (by omega), e, show t.length ≤ 16777216 by omega, show (1 : Int) ≤ t.length by omega, show (t.length : Int) ≤ 40000 by omega]
theorem sp_signs_of (k : Nat) (w : Wr) (st : Store) (h : size w ≤ 40000) : callN (k + 1) .f_signs_of [.d (wD w)] st = .ok (.d (.int (size w : Nat))) st := by
  cases w with
  | trim n => simp [un_signs_of, d_signs_of, wD, feq_ta, size]
  | add t =>
    have h' : t.length ≤ 40000 := h
    simp [un_signs_of, d_signs_of, wD, feq_aa, size, show t.length ≤ 16777216 by omega]
theorem sp_torn_by (k : Nat) (log : List Nat) (w : Wr) (j : Nat) (st : Store) (hl : log.length ≤ 1000000) (h : size w ≤ 40000) : callN (k + 1) .f_torn_by [.d (.str log), .d (wD w), .d (.int (j : Int))] st = .ok (.d (.str (tornW log w j))) st := by
  cases w with
  | trim n =>
    by_cases hj : 0 < j
    · simp [un_torn_by, d_torn_by, wD, feq_ta, tornW, hj, show log.length ≤ 16777216 by omega, cut_xn]
    · simp [un_torn_by, d_torn_by, wD, feq_ta, tornW, hj]
  | add t =>
    have h' : t.length ≤ 40000 := h
    simp [un_torn_by, d_torn_by, wD, feq_aa, tornW, show t.length ≤ 16777216 by omega, cut_xn]
    rw [Fadd_str (by simp; omega)]
    simp
theorem sp_written_by (k : Nat) (log : List Nat) (w : Wr) (st : Store) (hl : log.length ≤ 1000000) (h : size w ≤ 40000) : callN (k + 2) .f_written_by [.d (.str log), .d (wD w)] st = .ok (.d (.str (wrote log w))) st := by
  simp [un_written_by, d_written_by, sp_signs_of _ _ _ h, sp_torn_by _ _ _ _ _ hl h, wrote]
theorem okW_size {log : List Nat} {w : Wr} (h : okW log w) : 1 ≤ size w ∧ size w ≤ 40000 := by
  cases w with
  | trim n => exact ⟨Nat.le_refl 1, by simp [size]⟩
  | add t => exact ⟨h.1, h.2.1⟩
theorem sp_torn (k : Nat) (log : List Nat) (w : Wr) (j : Nat) (st : Store) (hl : log.length ≤ 1000000) (hs : sgs log) (h : okW log w) (hj : j ≤ size w) : callN (k + 5) .f_torn [.d (.str log), .d (wD w), .d (.int (j : Int))] st = .ok (.d (.str (tornW log w j))) st := by
  simp [un_torn, d_torn, sp_check_signs (k + 1) log st (by omega) hs, sp_check_write _ _ _ _ hl h, sp_signs_of _ _ _ (okW_size h).2, sp_is_between, hj, sp_torn_by _ _ _ _ _ hl (okW_size h).2]
/-- writes that may be done one behind the other -/
def okCh : List Nat → List Wr → Prop
  | _, [] => True
  | log, w :: r => okW log w ∧ okCh (wrote log w) r
def all : List Nat → List Wr → List Nat
  | log, [] => log
  | log, w :: r => all (wrote log w) r
theorem wrote_len {log : List Nat} {w : Wr} (h : okW log w) : (wrote log w).length ≤ log.length + 40000 := by
  cases w with
  | trim n => simp [wrote, tornW, size]; omega
  | add t => have := h.2.1; simp [wrote, tornW, size]; omega
theorem wrote_sgs {log : List Nat} {w : Wr} (hs : sgs log) (h : okW log w) (j : Nat) : sgs (tornW log w j) := by
  cases w with
  | trim n =>
    intro c hc
    unfold tornW at hc
    simp only at hc
    split at hc
    · exact hs c (List.mem_of_mem_take hc)
    · exact hs c hc
  | add t =>
    intro c hc
    rcases List.mem_append.mp hc with hc | hc
    · exact hs c hc
    · exact h.2.2 c (List.mem_of_mem_take hc)
theorem bw_loop (k : Nat) (o0 o1 : Option VV) (st : Store) : ∀ (ws : List Wr) (log : List Nat) (o3 : Option VV), okCh log ws → log.length + 40000 * ws.length ≤ 1000000 →
    ∃ o3', fLoop none (gN 3) (L1_behind_writes (callN (k + 4))) (ws.map wD) [o0, o1, some (.d (.str log)), o3] st = .ok (.nx [o0, o1, some (.d (.str (all log ws))), o3']) st
  | [], log, o3, _, _ => ⟨o3, rfl⟩
  | w :: r, log, o3, h, hl => by
    simp only [List.length_cons] at hl
    have hw := wrote_len h.1
    obtain ⟨o3', ih⟩ := bw_loop k o0 o1 st r (wrote log w) (some (.d (wD w))) h.2 (by omega)
    refine ⟨o3', ?_⟩
    rw [List.map_cons, fLoop_cons]
    unfold L1_behind_writes at ih ⊢
    simp [sp_check_write _ _ _ _ (show log.length ≤ 1000000 by omega) h.1, sp_written_by _ _ _ _ (show log.length ≤ 1000000 by omega) (okW_size h.1).2, ih, all]
theorem sp_behind (k : Nat) (log : List Nat) (ws : List Wr) (st : Store) (hs : sgs log) (h : okCh log ws) (hl : log.length + 40000 * ws.length ≤ 1000000) : callN (k + 5) .f_behind_writes [.d (.str log), .d (.tup (ws.map wD))] st = .ok (.d (.str (all log ws))) st := by
  obtain ⟨o3, e⟩ := bw_loop k (some (.d (.str log))) (some (.d (.tup (ws.map wD)))) st ws log none h hl
  simp [un_behind_writes, d_behind_writes, sp_check_signs (k + 1) log st (by omega) hs, isTy_tup, e]
theorem all_app : ∀ (ws : List Wr) (log : List Nat) (w : Wr), all log (ws ++ [w]) = wrote (all log ws) w
  | [], _, _ => rfl
  | x :: r, log, w => all_app r (wrote log x) w
theorem okCh_app : ∀ (ws : List Wr) (log : List Nat) (w : Wr), okCh log ws → okW (all log ws) w → okCh log (ws ++ [w])
  | [], _, _, _, h => ⟨h, trivial⟩
  | x :: r, log, w, h, h' => ⟨h.1, okCh_app r (wrote log x) w h.2 h'⟩
/-! the law's write -/
theorem frm_sgs {t : List Nat} (h : okT t) : sgs (frm t) := by
  have pd : ∀ w n, sgs (pad w n) := fun w n c hc => by
    have := pad_digits (w := w) (n := n) c hc
    have h2 : ∀ m : Nat, m < 10 → (48 + m) ∈ S3338f9 := by decide
    have := h2 (c - 48) (by omega)
    rwa [show 48 + (c - 48) = c by omega] at this
  intro c hc
  unfold frm at hc
  rcases List.mem_append.mp hc with hc | hc
  · rcases List.mem_append.mp hc with hc | hc
    · exact pd _ _ c hc
    · exact pd _ _ c hc
  · exact h.2.2 c hc
theorem stm_sgs {ts : List (List Nat)} (h : ∀ t ∈ ts, okT t) : sgs (stm ts) := fun c hc => by
  unfold stm at hc
  obtain ⟨l, hl, hc⟩ := List.mem_flatten.mp hc
  obtain ⟨t, ht, rfl⟩ := List.mem_map.mp hl
  exact frm_sgs (h t ht) c hc
theorem sp_stream1 (k : Nat) (t : List Nat) (st : Store) (h : okT t) : callN (k + 3) .f__law_stream [.d (.tup [.str t])] st = .ok (.d (.str (stm [t]))) st := by
  have := sp_law_stream k [t] st (by simpa using h) (by simp)
  simpa using this
theorem sp_stream2 (k : Nat) (t u : List Nat) (st : Store) (h : okT t) (h2 : okT u) : callN (k + 3) .f__law_stream [.d (.tup [.str t, .str u])] st = .ok (.d (.str (stm [t, u]))) st := by
  have := sp_law_stream k [t, u] st (by intro x hx; simp at hx; rcases hx with rfl | rfl <;> assumption) (by simp)
  simpa using this
theorem stm_pos {t : List Nat} {r : List (List Nat)} (h : okT t) : 8 ≤ (stm (t :: r)).length := by
  have h1 := frm_len h.2.1
  have := h.1
  simp [stm, h1]; omega
theorem texts_loop4 (k : Nat) (st : Store) (j : Nat) (hj : j < st.length) (most : Int) (h1 : 0 < most) (h2 : most ≤ 999) (σ : PX.Env) (jj : Nat) (hσ : ∀ o : Option VV, (σ.set 4 o).length = σ.length ∧ ∀ st, eVar jj (σ.set 4 o) st = .ok (.loc j) st) (h4 : 4 < σ.length) : ∀ (n i : Nat) (a b c : Int) (acc : List (List Nat)), acc.length + n ≤ 16777216 → (∀ t ∈ acc, okT t) →
    ∃ (ts : List (List Nat)) (a' b' c' : Int), cLoop none (gN 4) tTrue (eCall (callN (k + 3) .f__law_text) [eVar jj, eC (.int most)]) σ ((List.range' i n).map fun (k : Nat) => D.int (k : Int)) (acc.map D.str) (st.set j (wl a b c)) =
      .ok (ts.map D.str) (st.set j (wl a' b' c')) ∧ ts.length = acc.length + n ∧ ∀ t ∈ ts, okT t
  | 0, i, a, b, c, acc, _, ha => ⟨acc, a, b, c, by simp [cLoop_nil], rfl, ha⟩
  | n + 1, i, a, b, c, acc, hn, ha => by
    obtain ⟨x, a', b', c', e, hx⟩ := sp_law_text k st j hj a b c most h1 h2
    obtain ⟨ts, a2, b2, c2, e2, l2, m2⟩ := texts_loop4 k st j hj most h1 h2 σ jj hσ h4 n (i + 1) a' b' c' (acc ++ [x]) (by simp; omega) (by
      intro t ht
      rcases List.mem_append.mp ht with ht | ht
      · exact ha t ht
      · simp at ht; subst ht; exact hx)
    refine ⟨ts, a2, b2, c2, ?_, by simp at l2; omega, m2⟩
    have hg : ∀ st, gN 4 (.d (.int (i : Int))) σ st = .ok (σ.set 4 (some (.d (.int (i : Int))))) st := fun st => by simp [gN, h4]
    rw [range'_cons, List.map_cons, cLoop_cons, hg]
    simp [(hσ _).2, e]
    rw [clK_eq rfl (by simp; omega)]
    simpa using e2
theorem prs_all {ts : List (List Nat)} (h : ∀ t ∈ ts, okT t) : prs (stm ts) (stm ts).length 0 = (ts, (stm ts).length) := by
  have e := prs_at h (stm ts).length
  rw [List.take_length] at e
  rw [e]
  have tot : ∀ (ts : List (List Nat)) (e : Nat), (∀ t ∈ ts, okT t) → (ends e ts).getLast? = some (e + (stm ts).length) ∧ (ends e ts).length = ts.length + 1 ∧ ∀ x ∈ ends e ts, x ≤ e + (stm ts).length := by
    intro ts
    induction ts with
    | nil => intro e _; simp [ends, stm]
    | cons t r ih =>
      intro e h
      obtain ⟨i1, i2, i3⟩ := ih (e + 7 + t.length) fun t ht => h t (by simp [ht])
      have hf := frm_len (h t (by simp)).2.1
      have el : (stm (t :: r)).length = 7 + t.length + (stm r).length := by simp [stm, hf]
      refine ⟨?_, by simp [ends, i2], fun x hx => ?_⟩
      · obtain ⟨q, hq⟩ := ends_ne (e + 7 + t.length) r
        simp only [ends]
        rw [hq, List.getLast?_cons_cons, ← hq, i1]
        congr 1; omega
      · simp only [ends, List.mem_cons] at hx
        rcases hx with rfl | hx
        · omega
        · have := i3 x hx; omega
  obtain ⟨t1, t2, t3⟩ := tot ts 0 h
  have hc : cnt 0 (stm ts).length ts = ts.length := by
    unfold cnt
    rw [List.filter_eq_self.mpr fun x hx => decide_eq_true (by have := t3 x (List.mem_of_mem_tail hx); omega)]
    simp [t2]
  rw [hc, List.take_length]
  rw [List.getLast?_eq_getElem?, t2] at t1
  simp at t1
  simp [t1]
theorem asc_sgs {s : List Nat} (h : sgs s) : asc s := asc_sg h
theorem tornW_len (log : List Nat) (w : Wr) (n : Nat) (h : size w ≤ 40000) : (tornW log w n).length ≤ log.length + 40000 := by
  cases w with
  | trim m => simp only [tornW]; split <;> simp <;> omega
  | add t => have h' : t.length ≤ 40000 := h; simp [tornW]; omega
/-- the numbers that are tried -/
theorem nums (n : Nat) (h : 1 ≤ n) : ∃ js : List Nat, irange 0 (((n : Int) + (1 + (n : Int) / 10) - 1) / (1 + (n : Int) / 10)).toNat (1 + (n : Int) / 10) ++ [.int (n : Int)] = js.map (fun (j : Nat) => D.int (j : Int)) ∧ js.getLast? = some n ∧ (∀ j ∈ js, j ≤ n) ∧ js.length ≤ n + 1 := by
  let q := (((n : Int) + (1 + (n : Int) / 10) - 1) / (1 + (n : Int) / 10)).toNat
  have hc : (0 : Int) < 1 + (n : Int) / 10 := by omega
  have hb : ∀ k : Nat, k < q → (k : Int) * (1 + (n : Int) / 10) < n := by
    intro k hk
    have h1 : ((k : Int) + 1) ≤ ((n : Int) + (1 + (n : Int) / 10) - 1) / (1 + (n : Int) / 10) := by omega
    have h2 := (Int.le_ediv_iff_mul_le hc).mp h1
    have h3 : ((k : Int) + 1) * (1 + (n : Int) / 10) = (k : Int) * (1 + (n : Int) / 10) + (1 + (n : Int) / 10) := by rw [Int.add_mul, Int.one_mul]
    omega
  have hq : q ≤ n := by
    cases e : q with
    | zero => omega
    | succ m =>
      have := hb m (by omega)
      have h4 : (m : Int) * 1 ≤ (m : Int) * (1 + (n : Int) / 10) := Int.mul_le_mul_of_nonneg_left (by omega) (by omega)
      omega
  refine ⟨((List.range q).map fun (k : Nat) => ((k : Int) * (1 + (n : Int) / 10)).toNat) ++ [n], ?_, by simp, ?_, by simp; omega⟩
  · unfold irange
    rw [List.map_append, List.map_map]
    congr 1
    apply List.map_congr_left
    intro k hk
    have h0 : 0 ≤ (k : Int) * (1 + (n : Int) / 10) := Int.mul_nonneg (by omega) (by omega)
    simp only [Function.comp]
    congr 1; omega
  · intro j hj
    rcases List.mem_append.mp hj with hj | hj
    · obtain ⟨k, hk, rfl⟩ := List.mem_map.mp hj
      have := hb k (by simpa using hk)
      omega
    · simp at hj; omega
theorem Fix_m1 {xs : List D} {d : D} (h : xs.getLast? = some d) : Fix (.lst xs) (.int (-1)) = some d := by
  rw [List.getLast?_eq_getElem?] at h
  have hl : 0 < xs.length := by
    cases xs with
    | nil => simp at h
    | cons a r => simp
  obtain ⟨m, hm⟩ : ∃ m, xs.length = m + 1 := ⟨xs.length - 1, by omega⟩
  rw [Fix_lst, hm, ixI_m1]
  rw [hm] at h
  simpa using h
theorem Feq_str0 (w : Wr) : Fix (wD w) (.int 0) = some (.str (match w with | .add _ => S34ec78 | .trim _ => S9e2cd3)) := by cases w <;> simp [wD]
theorem nice_strs {xs : List (List Nat)} (h : ∀ x ∈ xs, asc x) (hl : xs.length ≤ 1000000) : nice 1 (.lst (xs.map D.str)) := by
  refine ⟨by simpa using hl, fun d hd => ?_⟩
  obtain ⟨x, hx, rfl⟩ := List.mem_map.mp hd
  exact h x hx
theorem permV_10 {x y : VV} : permV [1, 0] [x, y] = [y, x] := rfl
theorem permV_210 {x y z : VV} : permV [2, 1, 0] [x, y, z] = [z, y, x] := rfl
theorem parts_ch (here t : List Nat) (at_ : Nat) (h1 : 1 ≤ at_) (h2 : at_ ≤ t.length) (hs : sgs t) (hl : t.length ≤ 40000) :
    ∃ ws : List Wr, (if (at_ : Int) < t.length then [D.tup [.str S34ec78, .str (t.take at_)], .tup [.str S34ec78, .str (t.drop at_)]] else [D.tup [.str S34ec78, .str (t.take at_)]]) = ws.map wD ∧ okCh here ws ∧ all here ws = here ++ t ∧ ws.length ≤ 2 := by
  have s1 : sgs (t.take at_) := fun c hc => hs c (List.mem_of_mem_take hc)
  have s2 : sgs (t.drop at_) := fun c hc => hs c (List.mem_of_mem_drop hc)
  by_cases h : at_ < t.length
  · refine ⟨[.add (t.take at_), .add (t.drop at_)], by simp [h, wD], ⟨⟨by simp; omega, by simp; omega, s1⟩, ⟨by simp; omega, by simp; omega, s2⟩, trivial⟩, ?_, by simp⟩
    have q1 : wrote here (.add (t.take at_)) = here ++ t.take at_ := by simp only [wrote, tornW, size, List.take_length]
    have q2 : wrote (here ++ t.take at_) (.add (t.drop at_)) = here ++ t.take at_ ++ t.drop at_ := by simp only [wrote, tornW, size, List.take_length]
    simp only [all, q1, q2, List.append_assoc, List.take_append_drop]
  · refine ⟨[.add (t.take at_)], by simp [h, wD], ⟨⟨by simp; omega, by simp; omega, s1⟩, trivial⟩, ?_, by simp⟩
    have q1 : wrote here (.add (t.take at_)) = here ++ t.take at_ := by simp only [wrote, tornW, size, List.take_length]
    simp only [all, q1]
    rw [List.take_of_length_le (by omega)]
end LW
namespace LW
open PX PySem
/-! opening -/
def isE (t : List Nat) : Bool := List.isPrefixOf [100, 32] t
/-- the places (from one) of the texts that begin with d and a blank -/
def idx (i : Nat) : List (List Nat) → List Nat
  | [] => []
  | t :: r => if isE t then (i + 1) :: idx (i + 1) r else idx (i + 1) r
theorem idx_pos : ∀ (ts : List (List Nat)) (i x : Nat), x ∈ idx i ts → i < x ∧ x ≤ i + ts.length
  | [], i, x, h => by simp [idx] at h
  | t :: r, i, x, h => by
    unfold idx at h
    split at h
    · rcases List.mem_cons.mp h with rfl | h
      · simp
      · have := idx_pos r _ _ h; simp; omega
    · have := idx_pos r _ _ h; simp; omega
theorem idx_len : ∀ (ts : List (List Nat)) (i : Nat), (idx i ts).length ≤ ts.length
  | [], i => by simp [idx]
  | t :: r, i => by
    have := idx_len r (i + 1)
    unfold idx; split <;> simp <;> omega
/-- the last of them, or none -/
def lst (i : Nat) (ts : List (List Nat)) : Nat := (idx i ts).getLastD 0
theorem idx_sorted : ∀ (ts : List (List Nat)) (i : Nat), (idx i ts).Pairwise (· < ·)
  | [], i => by simp [idx]
  | t :: r, i => by
    unfold idx
    split
    · refine List.pairwise_cons.mpr ⟨fun x hx => (idx_pos r _ _ hx).1, idx_sorted r _⟩
    · exact idx_sorted r _
theorem maxI_last : ∀ (n : Nat) (r : List Nat), (n :: r).Pairwise (· < ·) → maxI ((n :: r).map fun (k : Nat) => (k : Int)) = (((n :: r).getLastD 0 : Nat) : Int)
  | n, [], _ => rfl
  | n, m :: r, h => by
    have h2 := (List.pairwise_cons.mp h).2
    have ih := maxI_last m r h2
    have hle : n ≤ (m :: r).getLastD 0 := by
      have h1 := (List.pairwise_cons.mp h).1
      rw [List.getLastD_eq_getLast?]
      cases e : (m :: r).getLast? with
      | none => simp at e
      | some x => have := h1 x (List.mem_of_getLast? e); simp; omega
    rw [List.map_cons]
    show max (n : Int) (maxI ((m :: r).map fun (k : Nat) => (k : Int))) = _
    rw [ih]
    have : (n :: m :: r).getLastD 0 = (m :: r).getLastD 0 := by simp [List.getLastD]
    rw [this]; omega
theorem maxI_last0 : ∀ (l : List Nat), l.Pairwise (· < ·) → maxI ((l.map fun (k : Nat) => (k : Int)) ++ [0]) = ((l.getLastD 0 : Nat) : Int)
  | [], _ => rfl
  | [n], _ => by simp [maxI]
  | n :: m :: r, h => by
    have h2 := (List.pairwise_cons.mp h).2
    have ih := maxI_last0 (m :: r) h2
    have e := maxI_last n (m :: r) h
    have e2 := maxI_last m r h2
    rw [List.map_cons, List.cons_append]
    show max (n : Int) (maxI (((m :: r).map fun (k : Nat) => (k : Int)) ++ [0])) = _
    rw [ih, ← e2]
    rw [List.map_cons] at e
    exact e
theorem sp_is_end (k : Nat) (t : List Nat) (st : Store) : callN (k + 1) .f_is_end [.d (.str t)] st = .ok (.d (.bl (isE t))) st := by
  simp [un_is_end, d_is_end, isE]
def enL (i : Nat) : List (List Nat) → List (Nat × List Nat)
  | [] => []
  | t :: r => (i + 1, t) :: enL (i + 1) r
theorem pairs_enL (i : Nat) (ts : List (List Nat)) : pairs ((i : Int) + 1) (ts.map D.str) = (enL i ts).map fun p => D.tup [.int (p.1 : Int), .str p.2] := by
  induction ts generalizing i with
  | nil => rfl
  | cons t r ih =>
    have := ih (i + 1)
    rw [show ((i + 1 : Nat) : Int) = (i : Int) + 1 by omega] at this
    simp [pairs, enL, this]
theorem enL_len (i : Nat) (ts : List (List Nat)) : (enL i ts).length = ts.length := by
  induction ts generalizing i with
  | nil => rfl
  | cons t r ih => simp [enL, ih]
theorem enL_idx (i : Nat) (ts : List (List Nat)) : ((enL i ts).filter fun p => isE p.2).map (fun p => D.int (p.1 : Int)) = (idx i ts).map fun (n : Nat) => D.int (n : Int) := by
  induction ts generalizing i with
  | nil => rfl
  | cons t r ih =>
    unfold enL idx
    by_cases h : isE t = true
    · rw [List.filter_cons, if_pos h, if_pos h, List.map_cons, List.map_cons, ih]
    · rw [List.filter_cons, if_neg h, if_neg h, ih]
theorem allI_nat (l : List Nat) : allI (l.map fun (n : Nat) => D.int (n : Int)) = some (l.map fun (n : Nat) => (n : Int)) := allI_map (fun (n : Nat) => (n : Int)) l
theorem FmaxD_idx (l : List Nat) (h : l.Pairwise (· < ·)) : FmaxD [.lst (l.map fun (n : Nat) => D.int (n : Int))] [.int 0] = some (.int ((l.getLastD 0 : Nat) : Int)) := by
  simp only [FmaxD, atomI, allI_nat]
  cases l with
  | nil => rfl
  | cons n r =>
    have := maxI_last n r h
    rw [List.map_cons] at this ⊢
    simp only [this]; rfl
theorem sp_whole_notes (k : Nat) (s : List Nat) (st : Store) (hl : s.length ≤ 1000000) : callN (k + 4) .f_whole_notes [.d (.str s)] st = .ok (.d (.lst (((prs s s.length 0).1.take (lst 0 (prs s s.length 0).1)).map D.str))) st := by
  have hpl : (prs s s.length 0).1.length ≤ 16777216 := by
    have key : ∀ (n e : Nat), (prs s n e).1.length ≤ n := by
      intro n
      induction n with
      | zero => intro e; simp [prs]
      | succ n ih =>
        intro e
        unfold prs
        cases ht : tat s e with
        | none => simp
        | some x => have := ih (e + 7 + x.length); simp; omega
    have := key s.length 0
    omega
  simp [un_whole_notes, d_whole_notes, sp_frames_by k s st hl]
  have hp := pairs_enL 0 (prs s s.length 0).1
  simp at hp
  rw [hp, comp_map _ (fun p => isE p.2) (fun p => .int (p.1 : Int)) _ rfl (by intro p hp; simp [sp_is_end]) (by rw [enL_len]; exact hpl), enL_idx]
  simp
  rw [FmaxD_idx _ (idx_sorted _ _)]
  simp [cut_xn, lst]
/-- where the frames of texts end -/
def eo (ts : List (List Nat)) : Nat := (ts.map fun t => 7 + t.length).sum
theorem sp_end_of (k : Nat) (ts : List (List Nat)) (st : Store) (hl : ts.length ≤ 16777216) (h : ∀ t ∈ ts, t.length ≤ 1000000) : callN (k + 1) .f_end_of [.d (.lst (ts.map D.str))] st = .ok (.d (.int (eo ts : Nat))) st := by
  simp [un_end_of, d_end_of]
  rw [comp_map1 D.str (fun t => .int (7 + (t.length : Int))) ts rfl (by
    intro t ht
    have := h t ht
    simp [show t.length ≤ 16777216 by omega]) hl]
  simp [allI_map, eo]
  induction ts with
  | nil => rfl
  | cons t r ih => simp [ih (by simp at hl; omega) (fun t ht => h t (by simp [ht]))]; 
theorem sp_trim_writes (k : Nat) (s : List Nat) (e : Nat) (st : Store) (hl : s.length ≤ 1000000) : callN (k + 1) .f_trim_writes [.d (.str s), .d (.int (e : Int))] st = .ok (.d (.lst (if e < s.length then [.tup [.str S9e2cd3, .int (e : Int)]] else []))) st := by
  by_cases h : e < s.length <;> simp [un_trim_writes, d_trim_writes, show s.length ≤ 16777216 by omega, h]
theorem prs_len (s : List Nat) : ∀ (n e : Nat), (prs s n e).1.length ≤ n := by
  intro n
  induction n with
  | zero => intro e; simp [prs]
  | succ n ih =>
    intro e
    unfold prs
    cases ht : tat s e with
    | none => simp
    | some x => have := ih (e + 7 + x.length); simp; omega
theorem prs_mem (s : List Nat) : ∀ (n e : Nat), ∀ t ∈ (prs s n e).1, 1 ≤ t.length ∧ t.length ≤ s.length ∧ sgs t := by
  intro n
  induction n with
  | zero => intro e t ht; simp [prs] at ht
  | succ n ih =>
    intro e t ht
    unfold prs at ht
    cases hx : tat s e with
    | none => rw [hx] at ht; simp at ht
    | some x =>
      rw [hx] at ht
      rcases List.mem_cons.mp ht with rfl | ht
      · have q := tat_some hx
        exact ⟨q.1, by omega, fun c hc => by have := List.all_eq_true.mp q.2.2 c hc; simpa using this⟩
      · exact ih _ t ht
/-- the texts that opening tells -/
def kept' (s : List Nat) : List (List Nat) := (prs s s.length 0).1.take (lst 0 (prs s s.length 0).1)
def opn (ts : List (List Nat)) (n : Nat) : D := .tup [.tup (ts.map D.str), .int (eo ts : Nat), .tup (if eo ts < n then [.tup [.str S9e2cd3, .int (eo ts : Nat)]] else [])]
theorem kept_mem (s : List Nat) : ∀ t ∈ kept' s, 1 ≤ t.length ∧ t.length ≤ s.length ∧ sgs t := fun t ht => prs_mem s _ _ t (List.mem_of_mem_take ht)
theorem kept_len (s : List Nat) : (kept' s).length ≤ s.length := by
  have := prs_len s s.length 0
  simp [kept']; omega
theorem sp_opened (k : Nat) (s : List Nat) (st : Store) (hl : s.length ≤ 1000000) (hs : sgs s) : callN (k + 6) .f_opened [.d (.str s)] st = .ok (.d (opn (kept' s) s.length)) st := by
  have h1 := fun st => sp_whole_notes k s st hl
  have h2 := fun st => sp_end_of (k + 3) (kept' s) st (by have := kept_len s; omega) (fun t ht => by have := kept_mem s t ht; omega)
  have h3 := fun e st => sp_trim_writes (k + 3) s e st hl
  have h4 : ∀ st, callN (k + 4) .f_whole_notes [.d (.str s)] st = .ok (.d (.lst ((kept' s).map D.str))) st := h1
  unfold opn
  generalize hW : (if eo (kept' s) < s.length then [D.tup [.str S9e2cd3, .int (eo (kept' s) : Nat)]] else []) = W at *
  have h3 : ∀ st, callN (k + 4) .f_trim_writes [.d (.str s), .d (.int (eo (kept' s) : Nat))] st = .ok (.d (.lst W)) st := fun st => by rw [← hW]; exact h3 _ st
  generalize kept' s = KK at *
  generalize eo KK = EE at *
  have h5 : ∀ st, callN (k + 5) .f_opened_by [.d (.str s)] st = .ok (.d (.tup [.lst (KK.map D.str), .int (EE : Nat), .lst W])) st := fun st => by
    rw [un_opened_by]
    unfold d_opened_by
    simp [h4, h2, h3]
  simp [un_opened, d_opened, sp_check_signs (k + 2) s st (by omega) hs, h5]
theorem isE_take (t : List Nat) : isE t = decide (t.take 2 = [100, 32]) := by
  unfold isE
  match t with
  | [] => rfl
  | [a] => simp [List.isPrefixOf]
  | a :: b :: r =>
    have e1 : ((100 : Nat) == a) = decide (a = 100) := by
      by_cases h : a = 100
      · subst h; rfl
      · rw [decide_eq_false h]; exact beq_eq_false_iff_ne.mpr fun z => h z.symm
    have e2 : ((32 : Nat) == b) = decide (b = 32) := by
      by_cases h : b = 32
      · subst h; rfl
      · rw [decide_eq_false h]; exact beq_eq_false_iff_ne.mpr fun z => h z.symm
    simp only [List.isPrefixOf, e1, e2]
    simp
theorem range_idx (P : List (List Nat)) : ∀ (r pre : List (List Nat)), P = pre ++ r → ((List.range' pre.length r.length).filter fun k => isE (P[k]?.getD [])).map (fun (k : Nat) => D.int ((k : Int) + 1)) = (idx pre.length r).map fun (n : Nat) => D.int (n : Int)
  | [], pre, _ => rfl
  | t :: r, pre, e => by
    have hg : P[pre.length]? = some t := by rw [e]; simp
    have ih := range_idx P r (pre ++ [t]) (by simp [e])
    simp at ih
    rw [List.length_cons, range'_cons]
    unfold idx
    by_cases h : isE t = true
    · rw [List.filter_cons, if_pos (by rw [hg]; exact h), if_pos h, List.map_cons, List.map_cons, ih]; simp
    · rw [List.filter_cons, if_neg (by rw [hg]; exact h), if_neg h, ih]
theorem eo_stm : ∀ {ts : List (List Nat)}, (∀ t ∈ ts, okT t) → (stm ts).length = eo ts
  | [], _ => rfl
  | t :: r, h => by
    have ih := eo_stm (ts := r) fun t ht => h t (by simp [ht])
    have hf := frm_len (h t (by simp)).2.1
    simp [stm, eo] at ih ⊢
    simp [hf, ih]
theorem feq_d {t : List Nat} (h : asc t) : Feq (.str (t.take 2)) (.str [100, 32]) = some (.bl (isE t)) := by
  rw [Feq_ok (okD_str (asc_sub h fun c hc => List.mem_of_mem_take hc)) (by decide +kernel), isE_take]
  congr 2
  unfold eqD
  by_cases q : t.take 2 = [100, 32] <;> simp [q]
theorem Fmax_idx (l : List Nat) (h : l.Pairwise (· < ·)) : Fmax [.lst ((l.map fun (n : Nat) => D.int (n : Int)) ++ [.int 0])] = some (.int ((l.getLastD 0 : Nat) : Int)) := by
  have e : allI ((l.map fun (n : Nat) => D.int (n : Int)) ++ [.int 0]) = some ((l.map fun (n : Nat) => (n : Int)) ++ [0]) := by
    induction l with
    | nil => rfl
    | cons n r ih => simp [allI, ih (List.pairwise_cons.mp h).2]
  have m := maxI_last0 l h
  simp only [Fmax, e]
  cases l with
  | nil => rfl
  | cons n r =>
    rw [List.map_cons, List.cons_append] at m ⊢
    simp only [m]
theorem sp_law_opened (k : Nat) (s : List Nat) (st : Store) (hl : s.length ≤ 999) (hs : sgs s) (hfew : (prs s s.length 0).1.length ≤ 100) : callN (k + 4) .f__law_opened [.d (.str s)] st = .ok (.d (opn (kept' s) s.length)) st := by
  have hf := fun st => sp_law_frames_in (k + 1) s st (by omega) (asc_sgs hs)
  have hm := prs_mem s s.length 0
  have hok : ∀ t ∈ kept' s, okT t := fun t ht => by
    have := kept_mem s t ht
    exact ⟨this.1, by omega, this.2.2⟩
  have hst := fun st => sp_law_stream k (kept' s) st hok (by simp [kept']; omega)
  have he := eo_stm hok
  have hel : (stm (kept' s)).length ≤ 16777216 := by
    have h1 := stm_len hok
    have h2 : (kept' s).length ≤ 100 := by simp [kept']; omega
    omega
  have hel' : eo (kept' s) ≤ 16777216 := he ▸ hel
  unfold kept' at hst he hel hel' ⊢
  generalize hP : (prs s s.length 0).1 = P at *
  have hfil := range_idx P P [] rfl
  simp at hfil
  simp at hst
  simp [un__law_opened, d__law_opened, hf]
  rw [rgC_1 (by omega)]
  simp [irange0]
  rw [comp_map (fun (k : Nat) => D.int (k : Int)) (fun k => isE (P[k]?.getD [])) (fun (k : Nat) => .int ((k : Int) + 1)) _ rfl (by
    intro j hj
    have hj : j < P.length := by simpa using hj
    have hx : P[j]? = some P[j] := List.getElem?_eq_getElem hj
    have hin := hm P[j] (List.getElem_mem hj)
    simp [ixI_nat hj, hx, show P[j].length ≤ 16777216 by omega, cut_xlit, feq_d (asc_sgs hin.2.2)]) (by simp; omega), hfil]
  have hil := idx_len P 0
  simp
  rw [Fadd_lst (by simp; omega)]
  simp [-Fmax_2]
  rw [Fmax_idx _ (idx_sorted _ _)]
  unfold opn
  generalize hW : (if eo (P.take (lst 0 P)) < s.length then [D.tup [.str S9e2cd3, .int (eo (P.take (lst 0 P)) : Nat)]] else []) = W at *
  simp [cut_xn, lst] at hst hel hel' he hW ⊢
  simp [hst, hel, hel', he, show s.length ≤ 16777216 by omega]
  by_cases q : eo (P.take ((idx 0 P).getLast?.getD 0)) < s.length
  · rw [if_pos q] at hW; subst hW; simp [q, cut_xn]
  · rw [if_neg q] at hW; subst hW; simp [q, cut_xn]
/-! the law's check -/
theorem idx_take : ∀ (ts : List (List Nat)) (i c : Nat), idx i (ts.take c) = (idx i ts).filter fun x => decide (x ≤ i + c)
  | [], i, c => by simp [idx]
  | t :: r, i, 0 => by
    rw [List.take_zero]
    show [] = _
    symm
    rw [List.filter_eq_nil_iff]
    intro x hx
    have := idx_pos _ _ _ hx
    simp; omega
  | t :: r, i, c + 1 => by
    have ih := idx_take r (i + 1) c
    rw [show i + 1 + c = i + (c + 1) by omega] at ih
    rw [List.take_succ_cons]
    unfold idx
    split
    · rw [List.filter_cons, if_pos (by simp), ih]
    · exact ih
theorem eo_cnt : ∀ (ts : List (List Nat)) (e a i : Nat), e ≤ a → i ≤ ts.length → (e + eo (ts.take i) ≤ a ↔ i ≤ cnt e a ts)
  | [], e, a, i, h, hi => by
    have : i = 0 := by simpa using hi
    subst this
    simp [eo, cnt]; exact h
  | t :: r, e, a, 0, h, hi => by simp [eo]; exact h
  | t :: r, e, a, i + 1, h, hi => by
    have e1 : eo ((t :: r).take (i + 1)) = 7 + t.length + eo (r.take i) := by simp [eo]
    rw [e1]
    by_cases c : e + 7 + t.length ≤ a
    · have ih := eo_cnt r (e + 7 + t.length) a i c (by simp at hi; omega)
      have e2 : cnt e a (t :: r) = cnt (e + 7 + t.length) a r + 1 := by
        unfold cnt
        simp only [ends, List.tail_cons]
        obtain ⟨q, eq⟩ := ends_ne (e + 7 + t.length) r
        rw [eq]
        simp [List.filter_cons, c]
      rw [e2]
      constructor
      · intro z; have := ih.mp (by omega); omega
      · intro z; have := ih.mpr (by omega); omega
    · rw [cnt_zero c]
      constructor
      · intro z; omega
      · intro z; omega
theorem lst_le (ts : List (List Nat)) : lst 0 ts ≤ ts.length := by
  unfold lst
  rw [List.getLastD_eq_getLast?]
  cases e : (idx 0 ts).getLast? with
  | none => simp
  | some x => have := idx_pos ts 0 x (List.mem_of_getLast? e); simp; omega
theorem lst_mem (ts : List (List Nat)) (h : lst 0 ts ≠ 0) : lst 0 ts ∈ idx 0 ts := by
  unfold lst at h ⊢
  rw [List.getLastD_eq_getLast?] at h ⊢
  cases e : (idx 0 ts).getLast? with
  | none => rw [e] at h; simp at h
  | some x => exact List.mem_of_getLast? e
/-- the last one among the first of them -/
theorem lst_last {ts : List (List Nat)} {m : Nat} (h1 : m ∈ idx 0 ts) (h2 : ∀ x ∈ idx 0 ts, x ≤ m) : lst 0 ts = m := by
  have hs := idx_sorted ts 0
  unfold lst
  rw [List.getLastD_eq_getLast?]
  obtain ⟨l, x, e⟩ : ∃ l x, idx 0 ts = l ++ [x] := by
    have hne : idx 0 ts ≠ [] := by intro z; rw [z] at h1; simp at h1
    exact ⟨_, _, (List.dropLast_concat_getLast hne).symm⟩
  rw [e] at h1 h2 hs ⊢
  simp
  have a1 := h2 x (by simp)
  rcases List.mem_append.mp h1 with h | h
  · have := (List.pairwise_append.mp hs).2.2 m h x (by simp); omega
  · simp at h; exact h.symm
theorem lst_take {ts : List (List Nat)} {c : Nat} : lst 0 (ts.take (lst 0 (ts.take c))) = lst 0 (ts.take c) := by
  by_cases h : lst 0 (ts.take c) = 0
  · rw [h]; simp [lst, idx]
  · have hm := lst_mem _ h
    have hle := lst_le (ts.take c)
    generalize hq : lst 0 (ts.take c) = m at *
    rw [idx_take] at hm
    have hm2 := (List.mem_filter.mp hm).1
    refine lst_last ?_ fun x hx => ?_
    · rw [idx_take]; exact List.mem_filter.mpr ⟨hm2, by simp⟩
    · rw [idx_take] at hx
      have := (List.mem_filter.mp hx).2
      simpa using this
theorem lst_app {ts : List (List Nat)} {a b : List Nat} (h : isE b = true) : lst 0 (ts ++ [a, b]) = ts.length + 2 := by
  have key : ∀ (ts : List (List Nat)) (i : Nat), (idx i (ts ++ [a, b])).getLast? = some (i + ts.length + 2) := by
    intro ts
    induction ts with
    | nil => intro i; simp only [List.nil_append, idx]; split <;> simp [h]
    | cons t r ih =>
      intro i
      have := ih (i + 1)
      simp only [List.cons_append, idx]
      split
      · obtain ⟨q, hq⟩ : ∃ q, idx (i + 1) (r ++ [a, b]) = q := ⟨_, rfl⟩
        rw [hq] at this ⊢
        cases q with
        | nil => simp at this
        | cons y z => rw [List.getLast?_cons_cons, this]; simp; omega
      · rw [this]; simp; omega
  unfold lst
  rw [List.getLastD_eq_getLast?, key]; simp
theorem kept_cut {ts : List (List Nat)} (h : ∀ t ∈ ts, okT t) (a : Nat) : kept' ((stm ts).take a) = ts.take (lst 0 (ts.take (cnt 0 a ts))) := by
  unfold kept'
  rw [prs_at h a]
  simp only
  rw [List.take_take, Nat.min_eq_left]
  have := lst_le (ts.take (cnt 0 a ts))
  simp at this; omega
theorem kept_all {ts : List (List Nat)} (h : ∀ t ∈ ts, okT t) : kept' (stm ts) = ts.take (lst 0 ts) := by
  unfold kept'
  rw [prs_all h]
theorem stm_take {ts : List (List Nat)} (h : ∀ t ∈ ts, okT t) (m : Nat) : (stm ts).take (eo (ts.take m)) = stm (ts.take m) := by
  have e : stm ts = stm (ts.take m) ++ stm (ts.drop m) := by
    unfold stm; rw [← List.flatten_append, ← List.map_append, List.take_append_drop]
  have h2 : (stm (ts.take m)).length = eo (ts.take m) := eo_stm fun t ht => h t (List.mem_of_mem_take ht)
  rw [e, ← h2, List.take_left]
def pD (p : Nat × Nat) : D := .tup [.int (p.1 : Int), .int (p.2 : Int)]
def pE (ts : List (List Nat)) (i : Nat) : Nat × Nat := (i, eo (ts.take i))
theorem lr_loop1 (k : Nat) (ts : List (List Nat)) (h : ∀ t ∈ ts, okT t) (hl : ts.length ≤ 100) (o0 o2 : Option VV) (st : Store) (tail : List (Option VV)) : ∀ (r pre : List (List Nat)) (acc : List D) (o4 : Option VV), ts = pre ++ r → acc.length + r.length ≤ 1000 →
    ∃ o4', fLoop none (gN 4) (L1__law_right (callN (k + 3))) ((List.range' pre.length r.length).map fun (k : Nat) => D.int (k : Int)) (o0 :: some (.d (.tup (ts.map D.str))) :: o2 :: some (.loc st.length) :: o4 :: tail) (st ++ [.lst acc]) =
      .ok (.nx (o0 :: some (.d (.tup (ts.map D.str))) :: o2 :: some (.loc st.length) :: o4' :: tail)) (st ++ [.lst (acc ++ (idx pre.length r).map fun i => pD (pE ts i))])
  | [], pre, acc, o4, _, _ => ⟨o4, by simp [fLoop_nil, idx]⟩
  | t :: r, pre, acc, o4, e, hn => by
    have hg : ts[pre.length]? = some t := by rw [e]; simp
    have ht := h t (by rw [e]; simp)
    simp only [List.length_cons] at hn
    have hlt : pre.length < ts.length := by rw [e]; simp
    rw [List.length_cons, range'_cons, List.map_cons, fLoop_cons]
    have hst := fun st => sp_law_stream k (ts.take (pre.length + 1)) st (fun t ht => h t (List.mem_of_mem_take ht)) (by simp; omega)
    have he : (stm (ts.take (pre.length + 1))).length = eo (ts.take (pre.length + 1)) := eo_stm fun t ht => h t (List.mem_of_mem_take ht)
    have hel : (stm (ts.take (pre.length + 1))).length ≤ 16777216 := by
      have := stm_len (ts := ts.take (pre.length + 1)) fun t ht => h t (List.mem_of_mem_take ht)
      simp at this; omega
    have hc : cut (ts.map D.str) none (some ((pre.length : Int) + 1)) = (ts.take (pre.length + 1)).map D.str := by
      rw [show ((pre.length : Int) + 1) = ((pre.length + 1 : Nat) : Int) by omega, cut_xn, List.map_take]
    by_cases hE : isE t = true
    · obtain ⟨o4', ih⟩ := lr_loop1 k ts h hl o0 o2 st tail r (pre ++ [t]) (acc ++ [pD (pE ts (pre.length + 1))]) (some (.d (.int (pre.length : Int)))) (by simp [e]) (by simp; omega)
      refine ⟨o4', ?_⟩
      unfold L1__law_right at ih ⊢
      unfold idx
      rw [if_pos hE]
      generalize hS : stm (ts.take (pre.length + 1)) = S at *
      generalize hT : (ts.take (pre.length + 1)).map D.str = TT at *
      simp [ixI_nat hlt, hg, show t.length ≤ 16777216 by have := ht.2.1; omega, cut_xlit, feq_d (asc_sgs ht.2.2), hE, hc, hst, hel, show acc.length < 16777216 by omega]
      simp [pD, pE, he] at ih ⊢
      exact ih
    · obtain ⟨o4', ih⟩ := lr_loop1 k ts h hl o0 o2 st tail r (pre ++ [t]) acc (some (.d (.int (pre.length : Int)))) (by simp [e]) (by omega)
      refine ⟨o4', ?_⟩
      simp only [Bool.not_eq_true] at hE
      unfold L1__law_right at ih ⊢
      unfold idx
      rw [if_neg (by simp [hE])]
      simp [ixI_nat hlt, hg, show t.length ≤ 16777216 by have := ht.2.1; omega, cut_xlit, feq_d (asc_sgs ht.2.2), hE]
      simp at ih
      exact ih
def trW (e at_ : Nat) : List Wr := if e < at_ then [.trim e] else []
theorem opn_eq (ts : List (List Nat)) (n : Nat) : opn ts n = .tup [.tup (ts.map D.str), .int (eo ts : Nat), .tup ((trW (eo ts) n).map wD)] := by
  unfold opn trW
  by_cases h : eo ts < n <;> simp [h, wD]
theorem asc_trim : asc S9e2cd3 := by
  have : ∀ c ∈ S9e2cd3, c < 1114112 := by decide
  exact this
theorem nice_opn {ts : List (List Nat)} {n : Nat} (h : ∀ t ∈ ts, asc t) (hl : ts.length ≤ 1000000) : nice 3 (opn ts n) := by
  unfold opn
  refine ⟨by simp, fun x hx => ?_⟩
  simp only [List.mem_cons, List.not_mem_nil, or_false] at hx
  rcases hx with rfl | rfl | rfl
  · refine ⟨by simpa using hl, fun x hx => ?_⟩
    obtain ⟨t, ht, rfl⟩ := List.mem_map.mp hx
    exact h t ht
  · trivial
  · refine ⟨by split <;> simp, fun x hx => ?_⟩
    split at hx
    · simp only [List.mem_cons, List.not_mem_nil, or_false] at hx
      subst hx
      refine ⟨by simp, fun x hx => ?_⟩
      simp only [List.mem_cons, List.not_mem_nil, or_false] at hx
      rcases hx with rfl | rfl
      · exact asc_trim
      · trivial
    · simp at hx
theorem nice_pair2 {ts : List (List Nat)} {e : Nat} (h : ∀ t ∈ ts, asc t) (hl : ts.length ≤ 1000000) : nice 2 (.tup [.tup (ts.map D.str), .int (e : Int)]) := nice_pair h hl
/-- the ends that the law keeps, up to a place -/
theorem ends_last (ts : List (List Nat)) (a : Nat) : (((0, 0) :: (idx 0 ts).map (pE ts)).filter fun p => decide (p.2 ≤ a)).getLast? = some (pE ts (lst 0 (ts.take (cnt 0 a ts)))) := by
  have hc : cnt 0 a ts ≤ ts.length := by
    have := cnt_le 0 a ts
    have h2 : ∀ (ts : List (List Nat)) (e : Nat), (ends e ts).length = ts.length + 1 := by
      intro ts
      induction ts with
      | nil => intro e; rfl
      | cons t r ih => intro e; simp [ends, ih]
    rw [h2] at this; omega
  have e1 : (0, 0) :: (idx 0 ts).map (pE ts) = (0 :: idx 0 ts).map (pE ts) := by simp [pE, eo]
  rw [e1, List.filter_map]
  have e2 : (0 :: idx 0 ts).filter ((fun p => decide (p.2 ≤ a)) ∘ pE ts) = 0 :: idx 0 (ts.take (cnt 0 a ts)) := by
    rw [idx_take, List.filter_cons, if_pos (by simp [pE, eo])]
    congr 1
    apply List.filter_congr
    intro x hx
    have hx2 := idx_pos ts 0 x hx
    have := eo_cnt ts 0 a x (by omega) (by omega)
    rw [Nat.zero_add] at this
    exact decide_eq_decide.mpr (by rw [Nat.zero_add]; exact this)
  rw [e2, List.getLast?_map]
  unfold lst
  rw [List.getLastD_eq_getLast?]
  cases q : idx 0 (ts.take (cnt 0 a ts)) with
  | nil => simp
  | cons x r => rw [List.getLast?_cons_cons]; cases q2 : (x :: r).getLast? with
    | none => simp at q2
    | some y => simp
theorem cut2 (a b c : D) : cut [a, b, c] none (some 2) = [a, b] := by rw [cut_xlit _ _ (by omega)]; rfl
theorem fne_unit : Fne (.tup []) (.tup []) = some (.bl false) := by rw [Fne_ok (by decide +kernel) (by decide +kernel)]; rfl
/-- the loop over the writes that opening wants -/
theorem lr_wr (k : Nat) (cutS : List Nat) (T : List (List Nat)) (n : Nat) (number : Nat) (hn : number ≤ 1) (hcl : cutS.length ≤ 100000) (hs : sgs cutS) (hT : ∀ t ∈ T, okT t) (hTl : T.length ≤ 1000) (he : eo T ≤ cutS.length) (st : Store)
    (h0 : kept' cutS = T) (h1 : kept' (cutS.take (eo T)) = T) (o0 o1 o2 o3 o4 o5 o6 o12 o13 o14 o15 o16 : Option VV) (d7 : D) (hd : d7 = opn T n) : ∀ (ws : List Wr) (o10 o11 : Option VV), (∀ w ∈ ws, w = .trim (eo T)) →
    ∃ o10' o11', fLoop none (gN 10) (L2__law_right (callN (k + 6))) (ws.map wD) [o0, o1, o2, o3, o4, o5, o6, some (.d d7), some (.d (.str cutS)), some (.d (.int (number : Int))), o10, o11, o12, o13, o14, o15, o16] st =
      .ok (.nx [o0, o1, o2, o3, o4, o5, o6, some (.d d7), some (.d (.str cutS)), some (.d (.int (number : Int))), o10', o11', o12, o13, o14, o15, o16]) st
  | [], o10, o11, _ => ⟨o10, o11, rfl⟩
  | w :: r, o10, o11, hw => by
    have ew := hw w (by simp)
    subst ew
    have hto := sp_torn (k + 1) cutS (.trim (eo T)) number st (by omega) hs he (by simpa [size] using hn)
    have hs2 : sgs (cutS.take (eo T)) := fun c hc => hs c (List.mem_of_mem_take hc)
    have ho1 := sp_opened k cutS st (by omega) hs
    have ho2 := sp_opened k (cutS.take (eo T)) st (by simp; omega) hs2
    rw [h0] at ho1
    rw [h1] at ho2
    have hpr := nice_pair (ts := T) (e := eo T) (fun t ht => asc_sgs (hT t ht).2.2) (by omega)
    have hsame := sp_same 2 (k + 3) _ st hpr
    have hlen : (cutS.take (eo T)).length = eo T := by simp; omega
    rw [hlen] at ho2
    have hop2 : opn T (eo T) = .tup [.tup (T.map D.str), .int (eo T : Nat), .tup []] := by unfold opn; simp
    rw [hop2] at ho2
    have hnum : number = 0 ∨ number = 1 := by omega
    rcases hnum with rfl | rfl
    · obtain ⟨o10', o11', ih⟩ := lr_wr k cutS T n 0 hn hcl hs hT hTl he st h0 h1 o0 o1 o2 o3 o4 o5 o6 o12 o13 o14 o15 o16 d7 hd r (some (.d (wD (.trim (eo T))))) (some (.d (.str cutS))) (fun w hw' => hw w (by simp [hw']))
      refine ⟨o10', o11', ?_⟩
      have ht0 : tornW cutS (.trim (eo T)) 0 = cutS := by simp [tornW]
      rw [ht0] at hto
      rw [List.map_cons, fLoop_cons]
      unfold L2__law_right at ih ⊢
      rw [hd] at ih ⊢
      unfold opn at ho1 ih ⊢
      generalize (if eo T < cutS.length then [D.tup [.str S9e2cd3, .int (eo T : Nat)]] else []) = W1 at *
      generalize (if eo T < n then [D.tup [.str S9e2cd3, .int (eo T : Nat)]] else []) = W2 at *
      simp at hto
      simp [hto, ho1, cut2, hsame]
      simp at ih
      exact ih
    · obtain ⟨o10', o11', ih⟩ := lr_wr k cutS T n 1 hn hcl hs hT hTl he st h0 h1 o0 o1 o2 o3 o4 o5 o6 o12 o13 o14 o15 o16 d7 hd r (some (.d (wD (.trim (eo T))))) (some (.d (.str (cutS.take (eo T))))) (fun w hw' => hw w (by simp [hw']))
      refine ⟨o10', o11', ?_⟩
      have ht0 : tornW cutS (.trim (eo T)) 1 = cutS.take (eo T) := by simp [tornW]
      rw [ht0] at hto
      rw [List.map_cons, fLoop_cons]
      unfold L2__law_right at ih ⊢
      rw [hd] at ih ⊢
      unfold opn at ih ⊢
      generalize (if eo T < n then [D.tup [.str S9e2cd3, .int (eo T : Nat)]] else []) = W2 at *
      generalize cutS.take (eo T) = C2 at *
      simp at hto
      simp [hto, ho2, cut2, hsame, fne_unit]
      simp at ih
      exact ih
theorem okT_a : okT S94f0af := ⟨by decide, by decide, by decide⟩
theorem okT_b : okT Sc872f1 := ⟨by decide, by decide, by decide⟩
theorem isE_b : isE Sc872f1 = true := by decide
theorem ge_step {ts : List (List Nat)} (h : ∀ t ∈ ts, okT t) {m : Nat} : ∀ t ∈ ts.take m, okT t := fun t ht => h t (List.mem_of_mem_take ht)
/-- one cut of the law -/
theorem lr_turn (k : Nat) (ts : List (List Nat)) (h : ∀ t ∈ ts, okT t) (hl : ts.length ≤ 50) (st : Store) (j : Nat) (hj : j < st.length) (a : Nat) (ha : a ≤ (stm ts).length) (x y z : Int) (n3 : Nat) (hj3 : j ≠ n3) (hn3 : (st.set j (wl x y z))[n3]? = some (.lst (((0, 0) :: (idx 0 ts).map (pE ts)).map pD))) (o5 o6 o7 o8 o9 o10 o11 o12 o13 : Option VV) :
    ∃ o5' o6' o7' o8' o9' o10' o11' o12' o13' x' y' z', L4__law_right (callN (k + 6)) [some (.loc j), some (.d (.tup (ts.map D.str))), some (.d (.str (stm ts))), some (.loc n3), some (.d (.int (a : Int))), o5, o6, o7, o8, o9, o10, o11, o12, o13, none, none, none] (st.set j (wl x y z)) =
      .ok (.nx [some (.loc j), some (.d (.tup (ts.map D.str))), some (.d (.str (stm ts))), some (.loc n3), some (.d (.int (a : Int))), o5', o6', o7', o8', o9', o10', o11', o12', o13', none, none, none]) (st.set j (wl x' y' z')) := by
  have hsl := stm_len h
  let m := lst 0 (ts.take (cnt 0 a ts))
  have hm : lst 0 (ts.take (cnt 0 a ts)) = m := rfl
  have hT := ge_step h (m := m)
  have hTl : (ts.take m).length ≤ 50 := by simp; omega
  let E := eo (ts.take m)
  have hE : eo (ts.take m) = E := rfl
  have hsE : (stm ts).take E = stm (ts.take m) := stm_take h m
  have hlE : (stm (ts.take m)).length = E := eo_stm hT
  have hea : E ≤ a := by
    have hc : cnt 0 a ts ≤ ts.length := by
      have := cnt_le 0 a ts
      have h2 : ∀ (ts : List (List Nat)) (e : Nat), (ends e ts).length = ts.length + 1 := by
        intro ts
        induction ts with
        | nil => intro e; rfl
        | cons t r ih => intro e; simp [ends, ih]
      rw [h2] at this; omega
    have h2 := lst_le (ts.take (cnt 0 a ts))
    simp at h2
    have := (eo_cnt ts 0 a m (by omega) (by omega)).mpr (by omega)
    omega
  let C := (stm ts).take a
  have hC : (stm ts).take a = C := rfl
  have hCl : C.length = a := by simp [C]; omega
  have hCs : sgs C := fun c hc => stm_sgs h c (List.mem_of_mem_take hc)
  have hk0 : kept' C = ts.take m := kept_cut h a
  have hCE : C.take E = stm (ts.take m) := by
    rw [← hsE]; simp only [C]; rw [List.take_take, Nat.min_eq_left hea]
  have hlm : lst 0 (ts.take m) = m := lst_take
  have hk1 : kept' (C.take E) = ts.take m := by
    rw [hCE, kept_all hT, hlm, List.take_take, Nat.min_self]
  have hop := fun st => sp_opened k C st (by omega) hCs
  rw [hk0, hCl] at hop
  have hlast := ends_last ts a
  rw [hm] at hlast
  have hfl : ((((0, 0) :: (idx 0 ts).map (pE ts)).filter fun p => decide (p.2 ≤ a)).map pD).getLast? = some (pD (m, E)) := by rw [List.getLast?_map, hlast]; rfl
  have hfix := Fix_m1 hfl
  have hil := idx_len ts 0
  have hcm : ∀ (σ : PX.Env), σ.length = 17 → σ[4]? = some (some (.d (.int (a : Int)))) → cLoop (some (n3, .lst (((0, 0) :: (idx 0 ts).map (pE ts)).map pD))) (gN 16) (tE (eBin Fle (eBin Fix (eVar 16) (eC (.int 1))) (eVar 4))) (eVar 16) σ (((0, 0) :: (idx 0 ts).map (pE ts)).map pD) [] (st.set j (wl x y z)) =
      .ok ((((0, 0) :: (idx 0 ts).map (pE ts)).filter fun p => decide (p.2 ≤ a)).map pD) (st.set j (wl x y z)) := by
    intro σ h1 h2
    refine comp_map pD (fun p => decide (p.2 ≤ a)) pD _ (kept_of hn3) (fun p hp => ?_) (by simp; omega)
    match σ, h1, h2 with
    | [s0, s1, s2, s3, s4, s5, s6, s7, s8, s9, s10, s11, s12, s13, s14, s15, s16], _, h2 =>
      simp at h2
      subst h2
      simp [pD]
  have hsame0 := sp_same 3 (k + 2) _ (st.set j (wl x y z)) (nice_opn (ts := ts.take m) (n := a) (fun t ht => asc_sgs (hT t ht).2.2) (by omega))
  obtain ⟨v, x1, y1, z1, e1, v0, v1⟩ := sp_take (k + 5) st j hj x y z 12 (by omega) (by omega)
  have hDD := opn_eq (ts.take m) a
  rw [hE] at hDD
  have hW : ∀ w ∈ trW E a, w = .trim (eo (ts.take m)) := by
    intro w hw
    unfold trW at hw
    split at hw
    · simpa using hw
    · simp at hw
  have hch : okCh C (trW E a) := by
    unfold trW
    split
    · exact ⟨by show E ≤ C.length; omega, trivial⟩
    · trivial
  have hall : all C (trW E a) = stm (ts.take m) := by
    unfold trW
    split
    · simp only [all, wrote, tornW, size]; exact hCE
    · have : E = a := by omega
      simp only [all, C, ← this, hsE]
  have htl : (trW E a).length ≤ 1 := by unfold trW; split <;> simp
  have hbe := fun st => sp_behind (k + 1) C (trW E a) st hCs hch (by omega)
  rw [hall] at hbe
  have hsR : sgs (stm (ts.take m)) := stm_sgs hT
  have hfa := fun st => sp_frame (k + 2) S94f0af st okT_a.1 okT_a.2.1 okT_a.2.2
  have hfb := fun st => sp_frame (k + 2) Sc872f1 st okT_b.1 okT_b.2.1 okT_b.2.2
  have hla := frm_len okT_a.2.1
  have hlb := frm_len okT_b.2.1
  have hab : ∀ t ∈ ts.take m ++ [S94f0af, Sc872f1], okT t := fun t ht => by
    rcases List.mem_append.mp ht with ht | ht
    · exact hT t ht
    · simp only [List.mem_cons, List.not_mem_nil, or_false] at ht
      rcases ht with rfl | rfl
      · exact okT_a
      · exact okT_b
  let M := ts.take m ++ [S94f0af, Sc872f1]
  have hM : stm M = stm (ts.take m) ++ frm S94f0af ++ frm Sc872f1 := by simp [M, stm]
  have hslT := stm_len hT
  have hslM := stm_len hab
  have hMl : (stm M).length ≤ 100000 := by simp [M] at hslM ⊢; simp at hTl; omega
  have hoM := fun st => sp_opened k (stm M) st (by omega) (stm_sgs hab)
  have hlM : lst 0 M = M.length := by simp only [M]; rw [lst_app isE_b]; simp
  rw [kept_all hab, hlM, List.take_length] at hoM
  have heM : (stm M).length = eo M := eo_stm hab
  have hopM : opn M (stm M).length = .tup [.tup (M.map D.str), .int ((stm M).length : Nat), .tup []] := by rw [heM]; unfold opn; simp
  rw [hopM] at hoM
  have hnM := nice_opn (ts := M) (n := (stm M).length) (fun t ht => asc_sgs (hab t ht).2.2) (by simp [M]; omega)
  rw [hopM] at hnM
  have hsameM := fun st => sp_same 3 (k + 2) _ st hnM
  have hfi := fun st => sp_frames_in (k + 2) (stm (ts.take m)) st (by omega)
  rw [prs_all hT] at hfi
  have g1 : Fadd (.str (stm (ts.take m))) (.str (frm S94f0af)) = some (.str (stm (ts.take m) ++ frm S94f0af)) := Fadd_str (by have := okT_a.2.1; omega)
  have g2 : Fadd (.str (stm (ts.take m) ++ frm S94f0af)) (.str (frm Sc872f1)) = some (.str (stm M)) := by rw [hM]; exact Fadd_str (by have := okT_a.2.1; have := okT_b.2.1; simp; omega)
  have hMD : M.map D.str = (ts.take m).map D.str ++ [.str S94f0af, .str Sc872f1] := by simp [M]
  have g3 : Fadd (.tup ((ts.take m).map D.str)) (.tup [.str S94f0af, .str Sc872f1]) = some (.tup (M.map D.str)) := by rw [hMD]; exact Fadd_tup (by simp; omega)
  rw [hDD] at hop hsame0
  obtain ⟨b10, b11, w0⟩ := lr_wr k C (ts.take m) a 0 (by omega) (by omega) hCs hT (by omega) (by omega) (st.set j (wl x1 y1 z1)) hk0 hk1 (some (.loc j)) (some (.d (.tup (ts.map D.str)))) (some (.d (.str (stm ts)))) (some (.loc n3)) (some (.d (.int (a : Int)))) (some (.d (.int (m : Int)))) (some (.d (.int (E : Int)))) o12 o13 none none none _ hDD.symm (trW E a) o10 o11 hW
  obtain ⟨c10, c11, w1⟩ := lr_wr k C (ts.take m) a 1 (by omega) (by omega) hCs hT (by omega) (by omega) (st.set j (wl x1 y1 z1)) hk0 hk1 (some (.loc j)) (some (.d (.tup (ts.map D.str)))) (some (.d (.str (stm ts)))) (some (.loc n3)) (some (.d (.int (a : Int)))) (some (.d (.int (m : Int)))) (some (.d (.int (E : Int)))) o12 o13 none none none _ hDD.symm (trW E a) b10 b11 hW
  have hif : ∀ (σ : PX.Env) (st : Store), eVar 6 σ st = .ok (.d (.int (E : Int))) st → (eIfC (eTup [(eTup [(eC (.str S9e2cd3)), (eVar 6)])]) (eTup []) σ (decide (E < a)) st) = .ok (.d (.tup ((trW E a).map wD))) st := by
    intro σ st h6
    by_cases hEa : E < a
    · simp [h6, hEa, trW, wD]
    · simp [h6, hEa, trW]
  have hcT : cut (ts.map D.str) none (some (m : Int)) = (ts.take m).map D.str := by rw [cut_xn, List.map_take]
  have hcC : Fcut (.str (stm ts)) none (some (a : Int)) = some (.str C) := by rw [Fcut_str (by omega), cut_xn]
  have hRl : (stm (ts.take m)).length ≤ 16777216 := by omega
  have hMl' : (stm M).length ≤ 16777216 := by omega
  generalize hEL : ((0, 0) :: (idx 0 ts).map (pE ts)).map pD = EL at *
  generalize hFL : (((0, 0) :: (idx 0 ts).map (pE ts)).filter fun p => decide (p.2 ≤ a)).map pD = FL at *
  generalize (ts.take m).map D.str = TD at *
  generalize hWD : (trW E a).map wD = WD at *
  generalize stm (ts.take m) = R at *
  generalize stm M = MS at *
  generalize M.map D.str = MD at *
  generalize ts.map D.str = TS at *
  generalize frm S94f0af = FA at *
  generalize frm Sc872f1 = FB at *
  have hfix0 : Fix (.lst FL) (.int (-1)) = some (.tup [.int (m : Int), .int (E : Int)]) := hfix
  unfold L4__law_right
  simp [-Fix_lst, hn3]
  rw [hcm _ rfl rfl]
  simp [-Fix_lst, hfix0, hcT]
  rw [hif _ _ (by simp)]
  simp [hcC, hop, hsame0, e1]
  by_cases hv : v = 0
  · refine ⟨some (.d (.int (m : Int))), some (.d (.int (E : Int))), some (.d (.tup [.tup TD, .int (E : Int), .tup WD])), some (.d (.str C)), some (.d (.int 1)), c10, c11, some (.d (.str R)), some (.d (.str MS)), x1, y1, z1, ?_⟩
    simp [hv]
    rw [fLoop_cons]
    unfold L3__law_right
    simp
    simp at w0 w1
    rw [w0]
    simp
    rw [fLoop_cons]
    simp
    rw [w1]
    simp [fLoop_nil, hbe, hfa, hfb, g1, g2, g3, hcT, hoM, hMl', hsameM, hfi, hRl]
  · refine ⟨some (.d (.int (m : Int))), some (.d (.int (E : Int))), some (.d (.tup [.tup TD, .int (E : Int), .tup WD])), some (.d (.str C)), o9, o10, o11, o12, o13, x1, y1, z1, ?_⟩
    simp [hv]
theorem irange_upto (L : Nat) (c : Int) (hc : 0 < c) : ∀ d ∈ irange 0 (((L : Int) + 1 + c - 1) / c).toNat c, ∃ a : Nat, d = .int (a : Int) ∧ a ≤ L := fun d hd => by
  unfold irange at hd
  obtain ⟨k, hk, rfl⟩ := List.mem_map.mp hd
  have hk : k < (((L : Int) + 1 + c - 1) / c).toNat := by simpa using hk
  have h1 : ((k : Int) + 1) ≤ ((L : Int) + 1 + c - 1) / c := by omega
  have h2 := (Int.le_ediv_iff_mul_le hc).mp h1
  have h3 : ((k : Int) + 1) * c = (k : Int) * c + c := by rw [Int.add_mul, Int.one_mul]
  have h0 : 0 ≤ (k : Int) * c := Int.mul_nonneg (by omega) (by omega)
  refine ⟨((k : Int) * c).toNat, ?_, by omega⟩
  congr 1; omega
theorem lr_loop4 (k : Nat) (ts : List (List Nat)) (h : ∀ t ∈ ts, okT t) (hl : ts.length ≤ 50) (st : Store) (j : Nat) (hj : j < st.length) (n3 : Nat) (hj3 : j ≠ n3) (hn3 : st[n3]? = some (.lst (((0, 0) :: (idx 0 ts).map (pE ts)).map pD))) : ∀ (ds : List D) (x y z : Int) (o4 o5 o6 o7 o8 o9 o10 o11 o12 o13 : Option VV), (∀ d ∈ ds, ∃ a : Nat, d = .int (a : Int) ∧ a ≤ (stm ts).length) →
    ∃ o4' o5' o6' o7' o8' o9' o10' o11' o12' o13' x' y' z', fLoop none (gN 4) (L4__law_right (callN (k + 6))) ds [some (.loc j), some (.d (.tup (ts.map D.str))), some (.d (.str (stm ts))), some (.loc n3), o4, o5, o6, o7, o8, o9, o10, o11, o12, o13, none, none, none] (st.set j (wl x y z)) =
      .ok (.nx [some (.loc j), some (.d (.tup (ts.map D.str))), some (.d (.str (stm ts))), some (.loc n3), o4', o5', o6', o7', o8', o9', o10', o11', o12', o13', none, none, none]) (st.set j (wl x' y' z'))
  | [], x, y, z, o4, o5, o6, o7, o8, o9, o10, o11, o12, o13, _ => ⟨o4, o5, o6, o7, o8, o9, o10, o11, o12, o13, x, y, z, rfl⟩
  | d :: r, x, y, z, o4, o5, o6, o7, o8, o9, o10, o11, o12, o13, hd => by
    obtain ⟨a, rfl, ha⟩ := hd d (by simp)
    obtain ⟨p5, p6, p7, p8, p9, p10, p11, p12, p13, x1, y1, z1, e1⟩ := lr_turn k ts h hl st j hj a ha x y z n3 hj3 (by rw [List.getElem?_set_ne hj3]; exact hn3) o5 o6 o7 o8 o9 o10 o11 o12 o13
    obtain ⟨q4, q5, q6, q7, q8, q9, q10, q11, q12, q13, x2, y2, z2, e2⟩ := lr_loop4 k ts h hl st j hj n3 hj3 hn3 r x1 y1 z1 (some (.d (.int (a : Int)))) p5 p6 p7 p8 p9 p10 p11 p12 p13 (fun d hd' => hd d (by simp [hd']))
    refine ⟨q4, q5, q6, q7, q8, q9, q10, q11, q12, q13, x2, y2, z2, ?_⟩
    rw [fLoop_cons]
    simp [e1, e2]
theorem prs_len8 (s : List Nat) : ∀ (n e : Nat), e ≤ s.length → e + 8 * (prs s n e).1.length ≤ s.length := by
  intro n
  induction n with
  | zero => intro e h; simpa [prs] using h
  | succ n ih =>
    intro e h
    unfold prs
    cases ht : tat s e with
    | none => simpa using h
    | some x =>
      have h1 := tat_some ht
      have := ih (e + 7 + x.length) (by omega)
      simp; omega
theorem lr_loop5 (k : Nat) (S : List Nat) (hS : sgs S) (hSl : S.length ≤ 700) (st : Store) (j : Nat) (hj : j < st.length) (o1 o3 o5 o6 o7 o8 o9 o10 o11 o12 o13 : Option VV) : ∀ (n i : Nat) (a b c : Int) (o4 o14 o15 : Option VV),
    ∃ o4' o14' o15' a' b' c', fLoop none (gN 14) (L5__law_right (callN (k + 6))) ((List.range' i n).map fun (k : Nat) => D.int (k : Int)) [some (.loc j), o1, some (.d (.str S)), o3, o4, o5, o6, o7, o8, o9, o10, o11, o12, o13, o14, o15, none] (st.set j (wl a b c)) =
      .ok (.nx [some (.loc j), o1, some (.d (.str S)), o3, o4', o5, o6, o7, o8, o9, o10, o11, o12, o13, o14', o15', none]) (st.set j (wl a' b' c'))
  | 0, i, a, b, c, o4, o14, o15 => ⟨o4, o14, o15, a, b, c, rfl⟩
  | n + 1, i, a, b, c, o4, o14, o15 => by
    have hm : (1 : Int) ≤ max 1 (S.length : Int) := by omega
    obtain ⟨v, a1, b1, c1, e1, v0, v1⟩ := sp_take (k + 5) st j hj a b c (max 1 (S.length : Int)) (by omega) (by omega)
    obtain ⟨w, rfl⟩ := Int.eq_ofNat_of_zero_le v0
    obtain ⟨x, a2, b2, c2, e2, hx⟩ := sp_pick_str (k + 4) st j hj a1 b1 c1 S18bfb0 (by decide) (by decide) (by decide)
    have ok1 : okT Sd82ee8 := ⟨by decide, by decide, by decide⟩
    have ok2 : okT [100] := ⟨by decide, by decide, by decide⟩
    have ok3 : okT S8b6550 := ⟨by decide, by decide, by decide⟩
    have l1 := frm_len ok1.2.1
    have l2 := frm_len ok2.2.1
    have l3 := frm_len ok3.2.1
    have m1 : Sd82ee8.length ≤ 10 := by decide
    have m3 : S8b6550.length ≤ 10 := by decide
    obtain ⟨y, a3, b3, c3, e3, hy⟩ := sp_pick_lst (k + 4) st j hj a2 b2 c2 [.str [], .str [48], .str (frm Sd82ee8), .str (frm [100] ++ frm S8b6550)] (by simp) (by simp)
    have hy' : ∃ z, y = .str z ∧ z.length ≤ 60 ∧ sgs z := by
      simp only [List.mem_cons, List.not_mem_nil, or_false] at hy
      rcases hy with rfl | rfl | rfl | rfl
      · exact ⟨_, rfl, by decide, (by decide : ∀ c ∈ ([] : List Nat), c ∈ S3338f9)⟩
      · exact ⟨_, rfl, by decide, (by decide : ∀ c ∈ [48], c ∈ S3338f9)⟩
      · exact ⟨_, rfl, by omega, frm_sgs ok1⟩
      · refine ⟨_, rfl, by simp at l2 ⊢; omega, fun c hc => ?_⟩
        rcases List.mem_append.mp hc with hc | hc
        · exact frm_sgs ok2 c hc
        · exact frm_sgs ok3 c hc
    obtain ⟨z, rfl, z1, z2⟩ := hy'
    have hxa : x ∈ S3338f9 := (by decide : ∀ c ∈ S18bfb0, c ∈ S3338f9) x hx
    let bent : List Nat := S.take w ++ [x] ++ S.drop (w + 1) ++ z
    have hbl : bent.length ≤ 761 := by simp [bent]; omega
    have hba : sgs bent := by
      intro c hc
      simp only [bent, List.mem_append] at hc
      rcases hc with ((hc | hc) | hc) | hc
      · exact hS c (List.mem_of_mem_take hc)
      · simp at hc; subst hc; exact hxa
      · exact hS c (List.mem_of_mem_drop hc)
      · exact z2 c hc
    obtain ⟨q4, q14, q15, a4, b4, c4, ih⟩ := lr_loop5 k S hS hSl st j hj o1 o3 o5 o6 o7 o8 o9 o10 o11 o12 o13 n (i + 1) a3 b3 c3 (some (.d (.int (w : Int)))) (some (.d (.int (i : Int)))) (some (.d (.str bent)))
    refine ⟨q4, q14, q15, a4, b4, c4, ?_⟩
    have f1 := fun st => sp_opened k bent st (by omega) hba
    have f2 := fun st => sp_law_opened (k + 2) bent st (by omega) hba (by have := prs_len8 bent bent.length 0 (by omega); omega)
    have hnn := nice_opn (ts := kept' bent) (n := bent.length) (fun t ht => asc_sgs (kept_mem bent t ht).2.2) (by have := kept_len bent; omega)
    have hn2 : nice 4 (.lst [opn (kept' bent) bent.length, opn (kept' bent) bent.length]) := by
      refine ⟨by simp, fun x hx => ?_⟩
      simp only [List.mem_cons, List.not_mem_nil, or_false] at hx
      rcases hx with rfl | rfl <;> exact hnn
    have f3 := fun st => sp_same 4 (k + 1) _ st hn2
    have g1 := fun st => sp_law_frame (k + 4) Sd82ee8 st ok1.2.1 ok1.2.2
    have g2 := fun st => sp_law_frame (k + 4) [100] st ok2.2.1 ok2.2.2
    have g3 := fun st => sp_law_frame (k + 4) S8b6550 st ok3.2.1 ok3.2.2
    have g4 : Fadd (.str (frm [100])) (.str (frm S8b6550)) = some (.str (frm [100] ++ frm S8b6550)) := Fadd_str (by simp at l2; omega)
    have x1 : Fcut (.str S) none (some (w : Int)) = some (.str (S.take w)) := by rw [Fcut_str (by omega), cut_xn]
    have x2 : Fcut (.str S) (some ((w : Int) + 1)) none = some (.str (S.drop (w + 1))) := by
      rw [Fcut_str (by omega), show ((w : Int) + 1) = ((w + 1 : Nat) : Int) by omega, cut_nx]
    have x3 : Fadd (.str (S.take w)) (.str [x]) = some (.str (S.take w ++ [x])) := by rw [Fadd_str (by simp; omega)]
    have x4 : Fadd (.str (S.take w ++ [x])) (.str (S.drop (w + 1))) = some (.str (S.take w ++ [x] ++ S.drop (w + 1))) := by rw [Fadd_str (by simp; omega)]
    have x5 : Fadd (.str (S.take w ++ [x] ++ S.drop (w + 1))) (.str z) = some (.str bent) := by rw [Fadd_str (by simp; omega)]
    rw [range'_cons, List.map_cons, fLoop_cons]
    unfold L5__law_right at ih ⊢
    generalize opn (kept' bent) bent.length = O at *
    generalize bent = bb at *
    generalize frm Sd82ee8 = F1 at *
    generalize frm [100] ++ frm S8b6550 = F2 at *
    generalize frm [100] = F3 at *
    generalize frm S8b6550 = F4 at *
    generalize S.take w ++ [x] ++ S.drop (w + 1) = b3' at *
    generalize S.take w ++ [x] = b2' at *
    have hsl' : S.length ≤ 16777216 := by omega
    simp [hsl', e1, x1, x2, x3, x4, x5, g1, g2, g3, g4, e2, e3, f1, f2, Fmul_one, f3, ih]
theorem sp_right (k : Nat) (ts : List (List Nat)) (h : ∀ t ∈ ts, okT t) (hl : ts.length ≤ 50) (hS : (stm ts).length ≤ 700) (st : Store) (j : Nat) (hj : j < st.length) (a b c : Int) :
    ∃ a' b' c', callN (k + 7) .f__law_right [.loc j, .d (.tup (ts.map D.str))] (st.set j (wl a b c)) = .ok (.d (.bl true)) (st.set j (wl a' b' c')) := by
  obtain ⟨p4, e1⟩ := lr_loop1 (k + 3) ts h (by omega) (some (.loc j)) (some (.d (.str (stm ts)))) (st.set j (wl a b c)) [none, none, none, none, none, none, none, none, none, none, none, none] ts [] [pD (0, 0)] none rfl (by simp; omega)
  have hst := fun st => sp_law_stream (k + 3) ts st h (by omega)
  have hmap : (pD (0, 0)) :: (idx 0 ts).map (fun i => pD (pE ts i)) = ((0, 0) :: (idx 0 ts).map (pE ts)).map pD := by simp [Function.comp_def]
  simp at e1
  rw [hmap] at e1
  rw [set_app hj, set_app hj] at e1
  obtain ⟨q4, q5, q6, q7, q8, q9, q10, q11, q12, q13, a2, b2, c2, e2⟩ := lr_loop4 k ts h hl (st ++ [.lst (((0, 0) :: (idx 0 ts).map (pE ts)).map pD)]) j (by simp; omega) st.length (by omega) (by simp)
    (irange 0 ((((stm ts).length : Int) + 1 + (1 + ((stm ts).length : Int) / 20) - 1) / (1 + ((stm ts).length : Int) / 20)).toNat (1 + ((stm ts).length : Int) / 20)) a b c p4 none none none none none none none none none (irange_upto _ _ (by omega))
  obtain ⟨r4, r14, r15, a3, b3, c3, e3⟩ := lr_loop5 k (stm ts) (stm_sgs h) hS (st ++ [.lst (((0, 0) :: (idx 0 ts).map (pE ts)).map pD)]) j (by simp; omega) (some (.d (.tup (ts.map D.str)))) (some (.loc st.length)) q5 q6 q7 q8 q9 q10 q11 q12 q13 4 0 a2 b2 c2 q4 none none
  refine ⟨a3, b3, c3, ?_⟩
  generalize ((0, 0) :: (idx 0 ts).map (pE ts)).map pD = EL at *
  simp [un__law_right, d__law_right, hst]
  rw [rgC_1 (by omega)]
  simp [irange0]
  rw [set_app hj]
  have e0 : pD (0, 0) = .tup [.int 0, .int 0] := rfl
  rw [← e0, e1]
  simp [show (stm ts).length ≤ 16777216 by omega]
  rw [rgC_3 (by omega)]
  simp
  rw [e2]
  simp [irange0]
  try simp at e3
  rw [e3]
  simp [take_app_set hj]
theorem texts_loop5 (k : Nat) (st : Store) (j : Nat) (hj : j < st.length) (σ0 σ1 σ3 σ4 : Option VV) : ∀ (n i : Nat) (a b c : Int) (acc : List (List Nat)), acc.length + n ≤ 16777216 → (∀ t ∈ acc, okT t ∧ t.length ≤ 51) →
    ∃ (ts : List (List Nat)) (a' b' c' : Int), cLoop none (gN 5) tTrue (eCall (callN (k + 3) .f__law_text) [eVar 2, eC (.int 25)]) [σ0, σ1, some (.loc j), σ3, σ4, none] ((List.range' i n).map fun (k : Nat) => D.int (k : Int)) (acc.map D.str) (st.set j (wl a b c)) =
      .ok (ts.map D.str) (st.set j (wl a' b' c')) ∧ ts.length = acc.length + n ∧ ∀ t ∈ ts, okT t ∧ t.length ≤ 51
  | 0, i, a, b, c, acc, _, ha => ⟨acc, a, b, c, by simp [cLoop_nil], rfl, ha⟩
  | n + 1, i, a, b, c, acc, hn, ha => by
    obtain ⟨x, a', b', c', e, hx, hx2⟩ := sp_law_text2 k st j hj a b c 25 (by omega) (by omega)
    obtain ⟨ts, a2, b2, c2, e2, l2, m2⟩ := texts_loop5 k st j hj σ0 σ1 σ3 σ4 n (i + 1) a' b' c' (acc ++ [x]) (by simp; omega) (by
      intro t ht
      rcases List.mem_append.mp ht with ht | ht
      · exact ha t ht
      · simp at ht; subst ht; exact ⟨hx, by omega⟩)
    refine ⟨ts, a2, b2, c2, ?_, by simp at l2; omega, m2⟩
    rw [range'_cons, List.map_cons, cLoop_cons]
    simp [e]
    rw [clK_eq rfl (by simp; omega)]
    simpa using e2
theorem stm_len58 : ∀ {ts : List (List Nat)}, (∀ t ∈ ts, okT t ∧ t.length ≤ 51) → (stm ts).length ≤ 58 * ts.length
  | [], _ => by simp [stm]
  | t :: r, h => by
    have := stm_len58 (ts := r) fun t ht => h t (by simp [ht])
    have h1 := frm_len (h t (by simp)).1.2.1
    have := (h t (by simp)).2
    simp [stm] at *
    omega
theorem law_turn1 (k : Nat) (st : Store) (j : Nat) (hj : j < st.length) (many : Nat) (hm : many ≤ 6) (σ0 σ1 σ4 : Option VV) (a b c : Int) :
    ∃ σ4' a' b' c', L1_law (callN (k + 7)) [σ0, σ1, some (.loc j), some (.d (.int (many : Int))), σ4, none] (st.set j (wl a b c)) = .ok (.nx [σ0, σ1, some (.loc j), some (.d (.int (many : Int))), σ4', none]) (st.set j (wl a' b' c')) := by
  obtain ⟨ts, a1, b1, c1, e1, l1, m1⟩ := texts_loop5 (k + 4) st j hj σ0 σ1 (some (.d (.int (many : Int)))) σ4 many 0 a b c [] (by simp; omega) (by simp)
  simp at l1
  have q1 : okT S687a61 ∧ S687a61.length ≤ 51 := ⟨⟨by decide, by decide, by decide⟩, by decide⟩
  have q2 : okT S0426fb ∧ S0426fb.length ≤ 51 := ⟨⟨by decide, by decide, by decide⟩, by decide⟩
  have q3 : okT Seb819f ∧ Seb819f.length ≤ 51 := ⟨⟨by decide, by decide, by decide⟩, by decide⟩
  have m2 : ∀ t ∈ ts ++ [S687a61, S0426fb, Seb819f], okT t ∧ t.length ≤ 51 := fun t ht => by
    rcases List.mem_append.mp ht with ht | ht
    · exact m1 t ht
    · simp only [List.mem_cons, List.not_mem_nil, or_false] at ht
      rcases ht with rfl | rfl | rfl <;> assumption
  have s1 := stm_len58 m1
  have s2 := stm_len58 m2
  simp at s2
  obtain ⟨a2, b2, c2, e2⟩ := sp_right k ts (fun t ht => (m1 t ht).1) (by omega) (by omega) st j hj a1 b1 c1
  obtain ⟨a3, b3, c3, e3⟩ := sp_right k (ts ++ [S687a61, S0426fb, Seb819f]) (fun t ht => (m2 t ht).1) (by simp; omega) (by omega) st j hj a2 b2 c2
  refine ⟨some (.d (.tup (ts.map D.str))), a3, b3, c3, ?_⟩
  unfold L1_law
  simp
  rw [rgC_1 (by omega)]
  simp [irange0]
  simp at e1 e3
  rw [e1]
  simp [e2]
  rw [Fadd_tup (by simp; omega)]
  simp [e3]
theorem law_five (k : Nat) (st : Store) (j : Nat) (hj : j < st.length) (σ0 σ1 : Option VV) : ∀ (ps : List Nat) (σ3 σ4 : Option VV) (a b c : Int), (∀ p ∈ ps, p ≤ 6) →
    ∃ σ3' σ4' a' b' c', fLoop none (gN 3) (L1_law (callN (k + 7))) (ps.map fun (p : Nat) => D.int (p : Int)) [σ0, σ1, some (.loc j), σ3, σ4, none] (st.set j (wl a b c)) = .ok (.nx [σ0, σ1, some (.loc j), σ3', σ4', none]) (st.set j (wl a' b' c'))
  | [], σ3, σ4, a, b, c, _ => ⟨σ3, σ4, a, b, c, rfl⟩
  | p :: r, σ3, σ4, a, b, c, h => by
    obtain ⟨s4, a1, b1, c1, e1⟩ := law_turn1 k st j hj p (h p (by simp)) σ0 σ1 σ4 a b c
    obtain ⟨t3, t4, a2, b2, c2, e2⟩ := law_five k st j hj σ0 σ1 r (some (.d (.int (p : Int)))) s4 a1 b1 c1 (fun p hp => h p (by simp [hp]))
    refine ⟨t3, t4, a2, b2, c2, ?_⟩
    rw [List.map_cons, fLoop_cons]
    simp [e1, e2]
theorem law_turns (k : Nat) (ns : List Int) : ∀ (n i : Nat) (o1 o2 o3 o4 : Option VV) (st : Store),
    ∃ o1' o2' o3' o4' st', fLoop none (gN 1) (L2_law (callN (k + 7))) ((List.range' i n).map fun (k : Nat) => D.int (k : Int)) [some (.d (.scr ns)), o1, o2, o3, o4, none] st = .ok (.nx [some (.d (.scr ns)), o1', o2', o3', o4', none]) st'
  | 0, i, o1, o2, o3, o4, st => ⟨o1, o2, o3, o4, st, rfl⟩
  | n + 1, i, o1, o2, o3, o4, st => by
    obtain ⟨a, b, c, e1⟩ := sp_well (k + 6) ns i st
    obtain ⟨t3, t4, a2, b2, c2, e2⟩ := law_five k (st ++ [wl a b c]) st.length (by simp) (some (.d (.scr ns))) (some (.d (.int (i : Int)))) [0, 1, 3, 6] o3 o4 a b c (by decide)
    obtain ⟨q1, q2, q3, q4, st', ih⟩ := law_turns k ns n (i + 1) (some (.d (.int (i : Int)))) (some (.loc st.length)) t3 t4 (st ++ [wl a2 b2 c2])
    refine ⟨q1, q2, q3, q4, st', ?_⟩
    rw [range'_cons, List.map_cons, fLoop_cons]
    simp at e2
    unfold L2_law at ih ⊢
    simp [e1, e2, ih]
theorem law_true : ∀ ns : List Int, ns.length ≤ 63 → ∃ st', callN 20 .f_law [.d (.scr ns)] [] = .ok (.d (.bl true)) st' := fun ns hl => by
  obtain ⟨q1, q2, q3, q4, st', e⟩ := law_turns 12 ns (max 2 (min (ns.length : Int) 4)).toNat 0 none none none none []
  refine ⟨st'.take 0, ?_⟩
  rw [un_law]
  unfold d_law
  simp
  rw [rgC_1 (by omega)]
  simp [irange0]
  simp at e
  rw [e]
  simp
end LW

namespace LW
open PySem PySem.Spec PyProof.Rows L2 TL PX
theorem the_end {l : PySem.W.OpenLaw} {w : World} {K : PySem.W.Frag} {mg : Str → Option Value} {fa : Addr} (hfa : mg "law" = some (.ref fa)) (T : Top K mg) : ∃ fd : FuncData, (∀ (s : Shared) (v : Value), BindsTo s fd ⟨[v], []⟩ [("script", v)]) ∧ ∀ base : Heap, K.In base → base.Ns mainGlobals mg → FnOk l.prog w K mg base CX0 20 fa fd ["script"] (spL K) :=
  law_end (F := callN 20 .f_law) hfa (T.f .f_law) (fun _ _ _ _ _ _ _ => rfl) (fun base => ok_all T 20 .f_law) law_true
end LW
open PySem PySem.W PyProof.Rows
set_option maxHeartbeats 0 in
theorem PySem.Challenge.cw_patchforms_k45_opening_cut_anywhere_holds : PySem.Challenge.rw_patchforms_k45_opening_cut_anywhere.Holds := by
  w_on; o_law; k_head; (case hw => w_witness2)
  k_fill
  refine L2.walk_of (l := PySem.Challenge.rw_patchforms_k45_opening_cut_anywhere) (n := 63) (k := 20) (x := "script") (CX := fun _ => L2.CX0) (sp := fun w => PX.spL _) rfl (by decide) rfl ⟨rfl, by decide, by decide⟩ (fun w h Y => PySem.W.kIn_of Y) ?F (fun _ _ a ns hl _ hS => ⟨a, ns, rfl, hS, hl, fun _ => rfl⟩) (fun _ _ _ _ _ h => h)
  case F =>
    intro w mg fa h KX G hmg
    refine LW.the_end hmg ⟨fun g => ?f, ?b_abs, ?b_all, ?b_bool, ?b_divmod, ?b_enumerate, ?b_int, ?b_isinstance, ?b_len, ?b_list, ?b_max, ?b_min, ?b_range, ?b_str, ?b_sum, ?b_tuple, ?g_ADD, ?g_BLANK, ?g_CHECK_DIGITS, ?g_DIGITS, ?g_HEAD, ?g_LENGTH_DIGITS, ?g_LONGEST_FRAMED, ?g_LONGEST_WRITE, ?g_MODULUS, ?g_OF_END, ?g_SIGNS, ?g_TRIM⟩
    case f =>
      cases g
      · refine' PX.Tp.mk1 (x := "is_whole") (st := LW.s_is_whole) (ps := LW.p_is_whole) KX G ?a ?l ?c ?k fun _ _ _ _ _ _ us hl => match us, hl with | [_], _ => rfl
        (case a => k_is); (case l => k_is); (case c => k_is); (case k => k_is)
      · refine' PX.Tp.mk1 (x := "is_between") (st := LW.s_is_between) (ps := LW.p_is_between) KX G ?a ?l ?c ?k fun _ _ _ _ _ _ us hl => match us, hl with | [_, _, _], _ => rfl
        (case a => k_is); (case l => k_is); (case c => k_is); (case k => k_is)
      · refine' PX.Tp.mk1 (x := "is_tuple_of") (st := LW.s_is_tuple_of) (ps := LW.p_is_tuple_of) KX G ?a ?l ?c ?k fun _ _ _ _ _ _ us hl => match us, hl with | [_, _], _ => rfl
        (case a => k_is); (case l => k_is); (case c => k_is); (case k => k_is)
      · refine' PX.Tp.mk1 (x := "is_text_of") (st := LW.s_is_text_of) (ps := LW.p_is_text_of) KX G ?a ?l ?c ?k fun _ _ _ _ _ _ us hl => match us, hl with | [_, _], _ => rfl
        (case a => k_is); (case l => k_is); (case c => k_is); (case k => k_is)
      · refine' PX.Tp.mk1 (x := "is_signed") (st := LW.s_is_signed) (ps := LW.p_is_signed) KX G ?a ?l ?c ?k fun _ _ _ _ _ _ us hl => match us, hl with | [_], _ => rfl
        (case a => k_is); (case l => k_is); (case c => k_is); (case k => k_is)
      · refine' PX.Tp.mk1 (x := "check_text") (st := LW.s_check_text) (ps := LW.p_check_text) KX G ?a ?l ?c ?k fun _ _ _ _ _ _ us hl => match us, hl with | [_], _ => rfl
        (case a => k_is); (case l => k_is); (case c => k_is); (case k => k_is)
      · refine' PX.Tp.mk1 (x := "check_signs") (st := LW.s_check_signs) (ps := LW.p_check_signs) KX G ?a ?l ?c ?k fun _ _ _ _ _ _ us hl => match us, hl with | [_], _ => rfl
        (case a => k_is); (case l => k_is); (case c => k_is); (case k => k_is)
      · refine' PX.Tp.mk1 (x := "is_write_of") (st := LW.s_is_write_of) (ps := LW.p_is_write_of) KX G ?a ?l ?c ?k fun _ _ _ _ _ _ us hl => match us, hl with | [_, _], _ => rfl
        (case a => k_is); (case l => k_is); (case c => k_is); (case k => k_is)
      · refine' PX.Tp.mk1 (x := "signs_of") (st := LW.s_signs_of) (ps := LW.p_signs_of) KX G ?a ?l ?c ?k fun _ _ _ _ _ _ us hl => match us, hl with | [_], _ => rfl
        (case a => k_is); (case l => k_is); (case c => k_is); (case k => k_is)
      · refine' PX.Tp.mk1 (x := "check_of") (st := LW.s_check_of) (ps := LW.p_check_of) KX G ?a ?l ?c ?k fun _ _ _ _ _ _ us hl => match us, hl with | [_], _ => rfl
        (case a => k_is); (case l => k_is); (case c => k_is); (case k => k_is)
      · refine' PX.Tp.mk1 (x := "frame_of") (st := LW.s_frame_of) (ps := LW.p_frame_of) KX G ?a ?l ?c ?k fun _ _ _ _ _ _ us hl => match us, hl with | [_], _ => rfl
        (case a => k_is); (case l => k_is); (case c => k_is); (case k => k_is)
      · refine' PX.Tp.mk1 (x := "text_at") (st := LW.s_text_at) (ps := LW.p_text_at) KX G ?a ?l ?c ?k fun _ _ _ _ _ _ us hl => match us, hl with | [_, _], _ => rfl
        (case a => k_is); (case l => k_is); (case c => k_is); (case k => k_is)
      · refine' PX.Tp.mk1 (x := "frames_by") (st := LW.s_frames_by) (ps := LW.p_frames_by) KX G ?a ?l ?c ?k fun _ _ _ _ _ _ us hl => match us, hl with | [_], _ => rfl
        (case a => k_is); (case l => k_is); (case c => k_is); (case k => k_is)
      · refine' PX.Tp.mk1 (x := "torn_by") (st := LW.s_torn_by) (ps := LW.p_torn_by) KX G ?a ?l ?c ?k fun _ _ _ _ _ _ us hl => match us, hl with | [_, _, _], _ => rfl
        (case a => k_is); (case l => k_is); (case c => k_is); (case k => k_is)
      · refine' PX.Tp.mk1 (x := "written_by") (st := LW.s_written_by) (ps := LW.p_written_by) KX G ?a ?l ?c ?k fun _ _ _ _ _ _ us hl => match us, hl with | [_, _], _ => rfl
        (case a => k_is); (case l => k_is); (case c => k_is); (case k => k_is)
      · refine' PX.Tp.mk1 (x := "is_end") (st := LW.s_is_end) (ps := LW.p_is_end) KX G ?a ?l ?c ?k fun _ _ _ _ _ _ us hl => match us, hl with | [_], _ => rfl
        (case a => k_is); (case l => k_is); (case c => k_is); (case k => k_is)
      · refine' PX.Tp.mk1 (x := "whole_notes") (st := LW.s_whole_notes) (ps := LW.p_whole_notes) KX G ?a ?l ?c ?k fun _ _ _ _ _ _ us hl => match us, hl with | [_], _ => rfl
        (case a => k_is); (case l => k_is); (case c => k_is); (case k => k_is)
      · refine' PX.Tp.mk1 (x := "end_of") (st := LW.s_end_of) (ps := LW.p_end_of) KX G ?a ?l ?c ?k fun _ _ _ _ _ _ us hl => match us, hl with | [_], _ => rfl
        (case a => k_is); (case l => k_is); (case c => k_is); (case k => k_is)
      · refine' PX.Tp.mk1 (x := "trim_writes") (st := LW.s_trim_writes) (ps := LW.p_trim_writes) KX G ?a ?l ?c ?k fun _ _ _ _ _ _ us hl => match us, hl with | [_, _], _ => rfl
        (case a => k_is); (case l => k_is); (case c => k_is); (case k => k_is)
      · refine' PX.Tp.mk1 (x := "opened_by") (st := LW.s_opened_by) (ps := LW.p_opened_by) KX G ?a ?l ?c ?k fun _ _ _ _ _ _ us hl => match us, hl with | [_], _ => rfl
        (case a => k_is); (case l => k_is); (case c => k_is); (case k => k_is)
      · refine' PX.Tp.mk1 (x := "check_write") (st := LW.s_check_write) (ps := LW.p_check_write) KX G ?a ?l ?c ?k fun _ _ _ _ _ _ us hl => match us, hl with | [_, _], _ => rfl
        (case a => k_is); (case l => k_is); (case c => k_is); (case k => k_is)
      · refine' PX.Tp.mk1 (x := "torn") (st := LW.s_torn) (ps := LW.p_torn) KX G ?a ?l ?c ?k fun _ _ _ _ _ _ us hl => match us, hl with | [_, _, _], _ => rfl
        (case a => k_is); (case l => k_is); (case c => k_is); (case k => k_is)
      · refine' PX.Tp.mk1 (x := "behind_writes") (st := LW.s_behind_writes) (ps := LW.p_behind_writes) KX G ?a ?l ?c ?k fun _ _ _ _ _ _ us hl => match us, hl with | [_, _], _ => rfl
        (case a => k_is); (case l => k_is); (case c => k_is); (case k => k_is)
      · refine' PX.Tp.mk1 (x := "opened") (st := LW.s_opened) (ps := LW.p_opened) KX G ?a ?l ?c ?k fun _ _ _ _ _ _ us hl => match us, hl with | [_], _ => rfl
        (case a => k_is); (case l => k_is); (case c => k_is); (case k => k_is)
      · refine' PX.Tp.mk1 (x := "frame") (st := LW.s_frame) (ps := LW.p_frame) KX G ?a ?l ?c ?k fun _ _ _ _ _ _ us hl => match us, hl with | [_], _ => rfl
        (case a => k_is); (case l => k_is); (case c => k_is); (case k => k_is)
      · refine' PX.Tp.mk1 (x := "frames_in") (st := LW.s_frames_in) (ps := LW.p_frames_in) KX G ?a ?l ?c ?k fun _ _ _ _ _ _ us hl => match us, hl with | [_], _ => rfl
        (case a => k_is); (case l => k_is); (case c => k_is); (case k => k_is)
      · refine' PX.Tp.mk1 (x := "_law_well") (st := LW.s__law_well) (ps := LW.p__law_well) KX G ?a ?l ?c ?k fun _ _ _ _ _ _ us hl => match us, hl with | [_, _], _ => rfl
        (case a => k_is); (case l => k_is); (case c => k_is); (case k => k_is)
      · refine' PX.Tp.mk1 (x := "_law_take") (st := LW.s__law_take) (ps := LW.p__law_take) KX G ?a ?l ?c ?k fun _ _ _ _ _ _ us hl => match us, hl with | [_, _], _ => rfl
        (case a => k_is); (case l => k_is); (case c => k_is); (case k => k_is)
      · refine' PX.Tp.mk1 (x := "_law_pick") (st := LW.s__law_pick) (ps := LW.p__law_pick) KX G ?a ?l ?c ?k fun _ _ _ _ _ _ us hl => match us, hl with | [_, _], _ => rfl
        (case a => k_is); (case l => k_is); (case c => k_is); (case k => k_is)
      · refine' PX.Tp.mk1 (x := "_law_same") (st := LW.s__law_same) (ps := LW.p__law_same) KX G ?a ?l ?c ?k fun _ _ _ _ _ _ us hl => match us, hl with | [_, _], _ => rfl
        (case a => k_is); (case l => k_is); (case c => k_is); (case k => k_is)
      · refine' PX.Tp.mk1 (x := "_law_check") (st := LW.s__law_check) (ps := LW.p__law_check) KX G ?a ?l ?c ?k fun _ _ _ _ _ _ us hl => match us, hl with | [_], _ => rfl
        (case a => k_is); (case l => k_is); (case c => k_is); (case k => k_is)
      · refine' PX.Tp.mk1 (x := "_law_digits") (st := LW.s__law_digits) (ps := LW.p__law_digits) KX G ?a ?l ?c ?k fun _ _ _ _ _ _ us hl => match us, hl with | [_, _], _ => rfl
        (case a => k_is); (case l => k_is); (case c => k_is); (case k => k_is)
      · refine' PX.Tp.mk1 (x := "_law_frame") (st := LW.s__law_frame) (ps := LW.p__law_frame) KX G ?a ?l ?c ?k fun _ _ _ _ _ _ us hl => match us, hl with | [_], _ => rfl
        (case a => k_is); (case l => k_is); (case c => k_is); (case k => k_is)
      · refine' PX.Tp.mk1 (x := "_law_stream") (st := LW.s__law_stream) (ps := LW.p__law_stream) KX G ?a ?l ?c ?k fun _ _ _ _ _ _ us hl => match us, hl with | [_], _ => rfl
        (case a => k_is); (case l => k_is); (case c => k_is); (case k => k_is)
      · refine' PX.Tp.mk1 (x := "_law_frames_in") (st := LW.s__law_frames_in) (ps := LW.p__law_frames_in) KX G ?a ?l ?c ?k fun _ _ _ _ _ _ us hl => match us, hl with | [_], _ => rfl
        (case a => k_is); (case l => k_is); (case c => k_is); (case k => k_is)
      · refine' PX.Tp.mk1 (x := "_law_opened") (st := LW.s__law_opened) (ps := LW.p__law_opened) KX G ?a ?l ?c ?k fun _ _ _ _ _ _ us hl => match us, hl with | [_], _ => rfl
        (case a => k_is); (case l => k_is); (case c => k_is); (case k => k_is)
      · refine' PX.Tp.mk1 (x := "_law_text") (st := LW.s__law_text) (ps := LW.p__law_text) KX G ?a ?l ?c ?k fun _ _ _ _ _ _ us hl => match us, hl with | [_, _], _ => rfl
        (case a => k_is); (case l => k_is); (case c => k_is); (case k => k_is)
      · refine' PX.Tp.mk1 (x := "_law_right") (st := LW.s__law_right) (ps := LW.p__law_right) KX G ?a ?l ?c ?k fun _ _ _ _ _ _ us hl => match us, hl with | [_, _], _ => rfl
        (case a => k_is); (case l => k_is); (case c => k_is); (case k => k_is)
      · refine' PX.Tp.mk1 (x := "law") (st := LW.s_law) (ps := LW.p_law) KX G ?a ?l ?c ?k fun _ _ _ _ _ _ us hl => match us, hl with | [_], _ => rfl
        (case a => k_is); (case l => k_is); (case c => k_is); (case k => k_is)
    case b_abs => refine' PySem.W.mg_none_of KX G ?z; (case z => k_is)
    case b_all => refine' PySem.W.mg_none_of KX G ?z; (case z => k_is)
    case b_bool => refine' PySem.W.mg_none_of KX G ?z; (case z => k_is)
    case b_divmod => refine' PySem.W.mg_none_of KX G ?z; (case z => k_is)
    case b_enumerate => refine' PySem.W.mg_none_of KX G ?z; (case z => k_is)
    case b_int => refine' PySem.W.mg_none_of KX G ?z; (case z => k_is)
    case b_isinstance => refine' PySem.W.mg_none_of KX G ?z; (case z => k_is)
    case b_len => refine' PySem.W.mg_none_of KX G ?z; (case z => k_is)
    case b_list => refine' PySem.W.mg_none_of KX G ?z; (case z => k_is)
    case b_max => refine' PySem.W.mg_none_of KX G ?z; (case z => k_is)
    case b_min => refine' PySem.W.mg_none_of KX G ?z; (case z => k_is)
    case b_range => refine' PySem.W.mg_none_of KX G ?z; (case z => k_is)
    case b_str => refine' PySem.W.mg_none_of KX G ?z; (case z => k_is)
    case b_sum => refine' PySem.W.mg_none_of KX G ?z; (case z => k_is)
    case b_tuple => refine' PySem.W.mg_none_of KX G ?z; (case z => k_is)
    case g_ADD => refine' PX.glob_str KX G ?z rfl; (case z => k_is)
    case g_BLANK => refine' PX.glob_str KX G ?z rfl; (case z => k_is)
    case g_CHECK_DIGITS => refine' PX.glob_int KX G ?z; (case z => k_is)
    case g_DIGITS => refine' PX.glob_str KX G ?z rfl; (case z => k_is)
    case g_HEAD => refine' PX.glob_int KX G ?z; (case z => k_is)
    case g_LENGTH_DIGITS => refine' PX.glob_int KX G ?z; (case z => k_is)
    case g_LONGEST_FRAMED => refine' PX.glob_int KX G ?z; (case z => k_is)
    case g_LONGEST_WRITE => refine' PX.glob_int KX G ?z; (case z => k_is)
    case g_MODULUS => refine' PX.glob_int KX G ?z; (case z => k_is)
    case g_OF_END => refine' PX.glob_str KX G ?z rfl; (case z => k_is)
    case g_SIGNS => refine' PX.glob_str KX G ?z rfl; (case z => k_is)
    case g_TRIM => refine' PX.glob_str KX G ?z rfl; (case z => k_is)
