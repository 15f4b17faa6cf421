import PyProof.Rows.All
import Wide.All
import OpenK.AllK
import Wide.FinOn
import HandS.ForMost
import HandS.IsInst
import HandS.StrMore
import HandS.TupAny
import HandS.Deep
import HandS.Flow
import HandS.TupMul
import HandS.RaiseMore
import HandS.Walk
import HandS.Zip
import HandS.ExcOwn
import HandS.HeadHook1
import HandS.HeadHook2
import HandS.Head2
import HandS.HeadEnd
import HandS.Replace
import HandS.Codes
import PySem.Challenge.RW_oncehome_k01_letters
set_option Elab.async false
set_option linter.all false
set_option maxRecDepth 100000
set_option maxHeartbeats 8000000
/-! BV1: values by content. Data (PyData) stand in an immutable part B of the abstract heap; lists, dicts, instances that change stand apart, owned by one slot each. -/
namespace BV
open PySem PySem.Spec PyProof.Rows L2

abbrev D := PyData
abbrev Fg := PySem.W.Frag
abbrev St := L2.St

theorem Same.seqT {K : Fg} {H H' : Hp} {a : Addr} {xs : List V} (e : Same H H') (h : SqT K H a xs) : SqT K H' a xs := by
  rcases h with (h | ⟨o, h⟩) | h
  · exact .inl (.inl (e _ _ h))
  · exact .inl (.inr ⟨o, e _ _ h⟩)
  · exact .inr h
mutual
/-- the value v is the data x in the part B that stays: its lists and tuples stand there (or a tuple of the module's) -/
inductive Dq (K : Fg) (B : Hp) : V → D → Prop
  | non : Dq K B .non .none
  | bl (b : Bool) : Dq K B (.bl b) (.bool b)
  | int (i : Int) : Dq K B (.int i) (.int i)
  | str (x : Str) : Dq K B (.str x) (.str x)
  | lst {a : Addr} {vs : List V} {ds : List D} : B a = some (.lst vs) → DqAll K B vs ds → Dq K B (.ref a) (.list ds)
  | tup {a : Addr} {vs : List V} {ds : List D} : SqT K B a vs → DqAll K B vs ds → Dq K B (.ref a) (.tuple ds)
inductive DqAll (K : Fg) (B : Hp) : List V → List D → Prop
  | nil : DqAll K B [] []
  | cons {v : V} {vs : List V} {d : D} {ds : List D} : Dq K B v d → DqAll K B vs ds → DqAll K B (v :: vs) (d :: ds)
end
mutual
theorem dq_dp {K : Fg} {B : Hp} : ∀ (x : D) (v : V), Dq K B v x → L2.Dp K B v x
  | .none, _, h => by cases h; exact .non
  | .bool _, _, h => by cases h; exact .bl _
  | .int _, _, h => by cases h; exact .int _
  | .str _, _, h => by cases h; exact .str _
  | .list xs, _, h => by
    cases h with
    | lst h1 h2 => exact .lst (SqL.of h1) (dqs_dps xs _ h2)
  | .tuple xs, _, h => by
    cases h with
    | tup h1 h2 => exact .tup h1 (dqs_dps xs _ h2)
  | .dict _, _, h => by cases h
theorem dqs_dps {K : Fg} {B : Hp} : ∀ (xs : List D) (vs : List V), DqAll K B vs xs → L2.DpAll K B vs xs
  | [], _, h => by cases h; exact .nil
  | x :: xs, _, h => by
    cases h with
    | cons h1 h2 => exact .cons (dq_dp x _ h1) (dqs_dps xs _ h2)
end
mutual
theorem dp_mono {K : Fg} {H H' : Hp} (e : Same H H') : ∀ (x : D) (v : V), Dq K H v x → Dq K H' v x
  | .none, _, h => by cases h; exact .non
  | .bool _, _, h => by cases h; exact .bl _
  | .int _, _, h => by cases h; exact .int _
  | .str _, _, h => by cases h; exact .str _
  | .list xs, _, h => by
    cases h with
    | lst h1 h2 => exact .lst (e _ _ h1) (dps_mono e xs _ h2)
  | .tuple xs, _, h => by
    cases h with
    | tup h1 h2 => exact .tup (Same.seqT e h1) (dps_mono e xs _ h2)
  | .dict _, _, h => by cases h
theorem dps_mono {K : Fg} {H H' : Hp} (e : Same H H') : ∀ (xs : List D) (vs : List V), DqAll K H vs xs → DqAll K H' vs xs
  | [], _, h => by cases h; exact .nil
  | x :: xs, _, h => by
    cases h with
    | cons h1 h2 => exact .cons (dp_mono e x _ h1) (dps_mono e xs _ h2)
end
theorem dps_length {K : Fg} {H : Hp} : ∀ {vs : List V} {xs : List D}, DqAll K H vs xs → vs.length = xs.length
  | _, _, .nil => rfl
  | _, _, .cons _ h => by rw [List.length_cons, List.length_cons, dps_length h]
theorem dps_get {K : Fg} {H : Hp} : ∀ {vs : List V} {xs : List D} (i : Nat) {x : D}, DqAll K H vs xs → xs[i]? = some x → ∃ v, vs[i]? = some v ∧ Dq K H v x
  | _, _, _, _, .nil, e => by simp at e
  | _, _, 0, _, .cons h _, e => by simp at e; subst e; exact ⟨_, rfl, h⟩
  | _, _, i + 1, _, .cons _ h, e => by
    obtain ⟨v, h1, h2⟩ := dps_get i h (by simpa using e)
    exact ⟨v, by simpa using h1, h2⟩
theorem dps_getV {K : Fg} {H : Hp} : ∀ {vs : List V} {xs : List D} (i : Nat) {v : V}, DqAll K H vs xs → vs[i]? = some v → ∃ x, xs[i]? = some x ∧ Dq K H v x
  | _, _, _, _, .nil, e => by simp at e
  | _, _, 0, _, .cons h _, e => by simp at e; subst e; exact ⟨_, rfl, h⟩
  | _, _, i + 1, _, .cons _ h, e => by
    obtain ⟨v, h1, h2⟩ := dps_getV i h (by simpa using e)
    exact ⟨v, by simpa using h1, h2⟩
theorem dps_app {K : Fg} {H : Hp} : ∀ {vs ws : List V} {xs ys : List D}, DqAll K H vs xs → DqAll K H ws ys → DqAll K H (vs ++ ws) (xs ++ ys)
  | _, _, _, _, .nil, h => h
  | _, _, _, _, .cons a b, h => .cons a (dps_app b h)
theorem dps_one {K : Fg} {H : Hp} {v : V} {x : D} (h : Dq K H v x) : DqAll K H [v] [x] := .cons h .nil
theorem dps_set {K : Fg} {H : Hp} : ∀ {vs : List V} {xs : List D} (i : Nat) {v : V} {x : D}, DqAll K H vs xs → Dq K H v x → DqAll K H (vs.set i v) (xs.set i x)
  | _, _, _, _, _, .nil, _ => .nil
  | _, _, 0, _, _, .cons _ b, h => .cons h b
  | _, _, i + 1, _, _, .cons a b, h => .cons a (dps_set i b h)
theorem dps_take {K : Fg} {H : Hp} : ∀ {vs : List V} {xs : List D} (n : Nat), DqAll K H vs xs → DqAll K H (vs.take n) (xs.take n)
  | _, _, 0, _ => by simp; exact .nil
  | _, _, _ + 1, .nil => by simp; exact .nil
  | _, _, n + 1, .cons a b => .cons a (dps_take n b)
theorem dps_drop {K : Fg} {H : Hp} : ∀ {vs : List V} {xs : List D} (n : Nat), DqAll K H vs xs → DqAll K H (vs.drop n) (xs.drop n)
  | _, _, 0, h => h
  | _, _, _ + 1, .nil => by simp; exact .nil
  | _, _, n + 1, .cons _ b => dps_drop n b

/-! ### what a slot holds -/
/-- un: nothing that is known; d: data; l, k, t, o: a list, a dict (keys ints and texts; tuples of them), an instance, that this slot alone holds -/
inductive Sl where
  | un
  | d (x : D)
  | l (xs : List D)
  | k (kvs : List (Key × D))
  | t (kvs : List (List Key × D))
  | o (c : Str) (fs : List (Str × Sl))
abbrev Env := List Sl

/-- a value with the slots behind it; an exception of the class c with its argument; none of these: nothing is said -/
inductive RE (α : Type) where
  | ok (a : α) (e : Env)
  | ex (c : Str) (x : D) (e : Env)
  | no
def RE.bind {α β : Type} (r : RE α) (f : α → Env → RE β) : RE β :=
  match r with
  | .ok a e => f a e
  | .ex c x e => .ex c x e
  | .no => .no
/-- where a statement ends -/
inductive RS where
  | nx (e : Env)
  | rt (r : Sl) (e : Env)
  | bk (e : Env)
  | ct (e : Env)
  | ex (c : Str) (x : D) (e : Env)
  | no
/-- what a def gives: its answer, and what its parameters hold behind it -/
inductive RF where
  | ok (r : Sl) (outs : List Sl)
  | ex (c : Str) (x : D) (outs : List Sl)
  | no

structure Tb where
  K : Fg
  cls : Str → Option Addr
  pins : List Nat
  W : Option WX

/-- the pairs of a dict -/
inductive DpKV {κ : Type} (K : Fg) (H : Hp) : List (κ × V) → List (κ × D) → Prop
  | nil : DpKV K H [] []
  | cons {k : κ} {v : V} {x : D} {kvs : List (κ × V)} {kxs : List (κ × D)} : Dq K H v x → DpKV K H kvs kxs → DpKV K H ((k, v) :: kvs) ((k, x) :: kxs)
theorem dpkv_mono {κ : Type} {K : Fg} {H H' : Hp} (e : Same H H') : ∀ {kvs : List (κ × V)} {kxs : List (κ × D)}, DpKV K H kvs kxs → DpKV K H' kvs kxs
  | _, _, .nil => .nil
  | _, _, .cons a b => .cons (dp_mono e _ _ a) (dpkv_mono e b)

theorem ne_none_of {α : Type} {o : Option α} {x : α} (h : o = some x) : o ≠ none := fun z => by rw [h] at z; cases z
mutual
/-- the value v holds the content; A: the addresses that it owns -/
inductive Own (K : Fg) (cls : Str → Option Addr) (B H : Hp) : Sl → V → List Addr → Prop
  | d {x : D} {v : V} : Dq K B v x → Own K cls B H (.d x) v []
  | l {xs : List D} {vs : List V} {p : Addr} : B p = none → H p = some (.lst vs) → DqAll K B vs xs → Own K cls B H (.l xs) (.ref p) [p]
  | k {xs : List (Key × D)} {vs : List (Key × V)} {p : Addr} : B p = none → H p = some (.dK vs) → DpKV K B vs xs → Own K cls B H (.k xs) (.ref p) [p]
  | t {xs : List (List Key × D)} {vs : List (List Key × V)} {p : Addr} : B p = none → H p = some (.dT vs) → DpKV K B vs xs → Own K cls B H (.t xs) (.ref p) [p]
  | o {c : Str} {C dx p : Addr} {fs : List (Str × Sl)} {vs : List (Str × V)} {A : List Addr} : cls c = some C → B p = none → H p = some (.ins C dx vs) → OwnF K cls B H fs vs A → Own K cls B H (.o c fs) (.ref p) (p :: A)
inductive OwnF (K : Fg) (cls : Str → Option Addr) (B H : Hp) : List (Str × Sl) → List (Str × V) → List Addr → Prop
  | nil : OwnF K cls B H [] [] []
  | cons {f : Str} {s : Sl} {v : V} {fs : List (Str × Sl)} {vs : List (Str × V)} {A1 A2 : List Addr} : Own K cls B H s v A1 → OwnF K cls B H fs vs A2 → OwnF K cls B H ((f, s) :: fs) ((f, v) :: vs) (A1 ++ A2)
end

/-- the slots -/
inductive EnvR (K : Fg) (cls : Str → Option Addr) (B H : Hp) : List (Option V) → Env → List Addr → Prop
  | nil : EnvR K cls B H [] [] []
  | un {s : Option V} {σ : List (Option V)} {env : Env} {A : List Addr} : EnvR K cls B H σ env A → EnvR K cls B H (s :: σ) (.un :: env) A
  | cons {v : V} {σ : List (Option V)} {e : Sl} {env : Env} {A1 A2 : List Addr} : Own K cls B H e v A1 → EnvR K cls B H σ env A2 → EnvR K cls B H (some v :: σ) (e :: env) (A1 ++ A2)

/-- from a state to a later one: what changed is owned (A), or new -/
structure Tr (B H : Hp) (A : List Addr) (B' H' : Hp) (A' : List Addr) : Prop where
  bb : Same B B'
  fr : ∀ a o, a ∉ A → H a = some o → H' a = some o
  st : ∀ a, H' a = none → H a = none
  nb : ∀ a, a ∉ A → H a ≠ none → B a = none → B' a = none
  na : ∀ a, a ∈ A' → a ∈ A ∨ H a = none
theorem Tr.refl {B H : Hp} {A : List Addr} : Tr B H A B H A := ⟨Same.refl B, fun _ _ _ h => h, fun _ h => h, fun _ _ _ h => h, fun _ h => .inl h⟩
theorem Tr.trans {B H B1 H1 B2 H2 : Hp} {A A1 A2 : List Addr} (a : Tr B H A B1 H1 A1) (b : Tr B1 H1 A1 B2 H2 A2) : Tr B H A B2 H2 A2 where
  bb := a.bb.trans b.bb
  fr := fun x o hx e => b.fr x o (fun h => (a.na x h).elim hx fun z => by rw [z] at e; cases e) (a.fr x o hx e)
  st := fun x h => a.st x (b.st x h)
  nb := fun x hx h z => b.nb x (fun q => (a.na x q).elim hx h) (fun q => h (a.st x q)) (a.nb x hx h z)
  na := fun x h => (b.na x h).elim (a.na x) fun z => .inr (a.st x z)
/-- the same with more that is owned, and left alone -/
theorem Tr.widen {B H B' H' : Hp} {A A' R : List Addr} (t : Tr B H A B' H' A') : Tr B H (A ++ R) B' H' (A' ++ R) where
  bb := t.bb
  fr := fun x o hx e => t.fr x o (fun h => hx (List.mem_append_left _ h)) e
  st := t.st
  nb := fun x hx h z => t.nb x (fun q => hx (List.mem_append_left _ q)) h z
  na := fun x h => (List.mem_append.mp h).elim (fun z => (t.na x z).elim (fun q => .inl (List.mem_append_left _ q)) .inr) fun z => .inl (List.mem_append_right _ z)
theorem Tr.widen0 {B H B' H' : Hp} {R : List Addr} (t : Tr B H [] B' H' []) : Tr B H R B' H' R := t.widen (R := R)
theorem Tr.less {B H B' H' : Hp} {A A' A2 : List Addr} (t : Tr B H A B' H' A') (h : ∀ a ∈ A2, a ∈ A') : Tr B H A B' H' A2 := ⟨t.bb, t.fr, t.st, t.nb, fun x q => t.na x (h x q)⟩
theorem Tr.perm {B H B' H' : Hp} {A A' A1 A2 : List Addr} (t : Tr B H A B' H' A') (h1 : ∀ a, a ∈ A ↔ a ∈ A1) (h2 : ∀ a ∈ A2, a ∈ A') : Tr B H A1 B' H' A2 :=
  ⟨t.bb, fun x o hx e => t.fr x o (fun h => hx ((h1 x).mp h)) e, t.st, fun x hx h z => t.nb x (fun q => hx ((h1 x).mp q)) h z, fun x q => (t.na x (h2 x q)).imp (h1 x).mp id⟩

section
variable {K : Fg} {cls : Str → Option Addr} {B H B' H' : Hp}
mutual
theorem own_known : ∀ {s : Sl} {v : V} {A : List Addr}, Own K cls B H s v A → ∀ a ∈ A, H a ≠ none ∧ B a = none
  | _, _, _, .d _, _, h => nomatch h
  | _, _, _, .l h1 h2 _, a, h => by
    obtain rfl := List.mem_singleton.mp h
    exact ⟨ne_none_of h2, h1⟩
  | _, _, _, .k h1 h2 _, a, h => by
    obtain rfl := List.mem_singleton.mp h
    exact ⟨ne_none_of h2, h1⟩
  | _, _, _, .t h1 h2 _, a, h => by
    obtain rfl := List.mem_singleton.mp h
    exact ⟨ne_none_of h2, h1⟩
  | _, _, _, .o _ h1 h2 h3, a, h => by
    rcases List.mem_cons.mp h with rfl | h
    · exact ⟨ne_none_of h2, h1⟩
    · exact ownF_known h3 a h
theorem ownF_known : ∀ {fs : List (Str × Sl)} {vs : List (Str × V)} {A : List Addr}, OwnF K cls B H fs vs A → ∀ a ∈ A, H a ≠ none ∧ B a = none
  | _, _, _, .nil, _, h => nomatch h
  | _, _, _, .cons h1 h2, a, h => (List.mem_append.mp h).elim (own_known h1 a) (ownF_known h2 a)
end
theorem env_known : ∀ {σ : List (Option V)} {env : Env} {A : List Addr}, EnvR K cls B H σ env A → ∀ a ∈ A, H a ≠ none ∧ B a = none
  | _, _, _, .nil, _, h => nomatch h
  | _, _, _, .un h1, a, h => env_known h1 a h
  | _, _, _, .cons h1 h2, a, h => (List.mem_append.mp h).elim (own_known h1 a) (env_known h2 a)

/-- what is owned and left alone stays -/
structure Keeps (B H B' H' : Hp) (A : List Addr) : Prop where
  bb : Same B B'
  fr : ∀ a o, a ∈ A → H a = some o → H' a = some o
  nb : ∀ a, a ∈ A → B a = none → B' a = none
theorem Tr.keeps {A A' R : List Addr} (t : Tr B H A B' H' A') (hd : ∀ a ∈ R, a ∉ A) (hk : ∀ a ∈ R, H a ≠ none) : Keeps B H B' H' R :=
  ⟨t.bb, fun a o h e => t.fr a o (hd a h) e, fun a h z => t.nb a (hd a h) (hk a h) z⟩
mutual
theorem own_keep : ∀ {s : Sl} {v : V} {A : List Addr}, Own K cls B H s v A → Keeps B H B' H' A → Own K cls B' H' s v A
  | _, _, _, .d h, k => .d (dp_mono k.bb _ _ h)
  | _, _, _, .l h1 h2 h3, k => .l (k.nb _ List.mem_cons_self h1) (k.fr _ _ List.mem_cons_self h2) (dps_mono k.bb _ _ h3)
  | _, _, _, .k h1 h2 h3, k => .k (k.nb _ List.mem_cons_self h1) (k.fr _ _ List.mem_cons_self h2) (dpkv_mono k.bb h3)
  | _, _, _, .t h1 h2 h3, k => .t (k.nb _ List.mem_cons_self h1) (k.fr _ _ List.mem_cons_self h2) (dpkv_mono k.bb h3)
  | _, _, _, .o h0 h1 h2 h3, k => .o h0 (k.nb _ List.mem_cons_self h1) (k.fr _ _ List.mem_cons_self h2) (ownF_keep h3 ⟨k.bb, fun a o h => k.fr a o (List.mem_cons_of_mem _ h), fun a h => k.nb a (List.mem_cons_of_mem _ h)⟩)
theorem ownF_keep : ∀ {fs : List (Str × Sl)} {vs : List (Str × V)} {A : List Addr}, OwnF K cls B H fs vs A → Keeps B H B' H' A → OwnF K cls B' H' fs vs A
  | _, _, _, .nil, _ => .nil
  | _, _, _, .cons h1 h2, k => .cons (own_keep h1 ⟨k.bb, fun a o h => k.fr a o (List.mem_append_left _ h), fun a h => k.nb a (List.mem_append_left _ h)⟩) (ownF_keep h2 ⟨k.bb, fun a o h => k.fr a o (List.mem_append_right _ h), fun a h => k.nb a (List.mem_append_right _ h)⟩)
end
theorem env_keep : ∀ {σ : List (Option V)} {env : Env} {A : List Addr}, EnvR K cls B H σ env A → Keeps B H B' H' A → EnvR K cls B' H' σ env A
  | _, _, _, .nil, _ => .nil
  | _, _, _, .un h, k => .un (env_keep h k)
  | _, _, _, .cons h1 h2, k => .cons (own_keep h1 ⟨k.bb, fun a o h => k.fr a o (List.mem_append_left _ h), fun a h => k.nb a (List.mem_append_left _ h)⟩) (env_keep h2 ⟨k.bb, fun a o h => k.fr a o (List.mem_append_right _ h), fun a h => k.nb a (List.mem_append_right _ h)⟩)
theorem env_len : ∀ {σ : List (Option V)} {env : Env} {A : List Addr}, EnvR K cls B H σ env A → σ.length = env.length
  | _, _, _, .nil => rfl
  | _, _, _, .un h => by rw [List.length_cons, List.length_cons, env_len h]
  | _, _, _, .cons _ h => by rw [List.length_cons, List.length_cons, env_len h]

/-- the slot i taken out -/
theorem env_at : ∀ {σ : List (Option V)} {env : Env} {A : List Addr} (i : Nat) {e : Sl}, EnvR K cls B H σ env A → env[i]? = some e → e ≠ .un →
    ∃ v A1 A2 A3, σ[i]? = some (some v) ∧ Own K cls B H e v A2 ∧ A = A1 ++ A2 ++ A3 ∧
      (∀ {B' H' : Hp} {s' : Option V} {e' : Sl} {A2' : List Addr}, (e' = .un ∧ A2' = [] ∨ ∃ v', s' = some v' ∧ Own K cls B' H' e' v' A2') → Keeps B H B' H' (A1 ++ A3) → EnvR K cls B' H' (σ.set i s') (env.set i e') (A1 ++ A2' ++ A3))
  | _, _, _, i, e, .nil, h, _ => by simp at h
  | _, _, _, 0, e, .un r, h, n => by simp at h; exact absurd h.symm n
  | _, _, _, 0, e, .cons (A1 := A1) (A2 := A2) o r, h, n => by
    simp at h
    subst h
    refine ⟨_, [], A1, A2, rfl, o, by simp, fun {B' H' s' e' A2'} ho k => ?_⟩
    have r' := env_keep (B' := B') (H' := H') r ⟨k.bb, fun a o h => k.fr a o (by simpa using h), fun a h => k.nb a (by simpa using h)⟩
    rcases ho with ⟨rfl, rfl⟩ | ⟨v', rfl, ho⟩
    · simpa using EnvR.un (s := s') r'
    · simpa using EnvR.cons ho r'
  | _, _, _, i + 1, e, .un (s := s) r, h, n => by
    obtain ⟨v, A1, A2, A3, h1, h2, h3, h4⟩ := env_at i r (by simpa using h) n
    exact ⟨v, A1, A2, A3, by simpa using h1, h2, h3, fun ho k => .un (h4 ho k)⟩
  | _, _, _, i + 1, e, .cons (A1 := Ah) (A2 := At) o r, h, n => by
    obtain ⟨v, A1, A2, A3, h1, h2, h3, h4⟩ := env_at i r (by simpa using h) n
    refine ⟨v, Ah ++ A1, A2, A3, by simpa using h1, h2, by rw [h3]; simp [List.append_assoc], fun {B' H' s' e' A2'} ho k => ?_⟩
    have q := h4 (B' := B') (H' := H') (s' := s') ho ⟨k.bb, fun a o h => k.fr a o (by rcases List.mem_append.mp h with h | h <;> simp [h]), fun a h => k.nb a (by rcases List.mem_append.mp h with h | h <;> simp [h])⟩
    have o' := own_keep (B' := B') (H' := H') o ⟨k.bb, fun a o h => k.fr a o (by simp [h]), fun a h => k.nb a (by simp [h])⟩
    have z := EnvR.cons o' q
    simpa [List.append_assoc] using z
/-- any slot set anew, what it held dropped -/
theorem env_set : ∀ {σ : List (Option V)} {env : Env} {A : List Addr} (i : Nat) {s' : Option V} {e' : Sl} {A2 : List Addr}, EnvR K cls B H σ env A → (e' = .un ∧ A2 = [] ∨ ∃ v', s' = some v' ∧ Own K cls B H e' v' A2) → (∀ a ∈ A2, a ∉ A) → A.Nodup → A2.Nodup →
    ∃ A', EnvR K cls B H (σ.set i s') (env.set i e') A' ∧ A'.Nodup ∧ ∀ a ∈ A', a ∈ A ∨ a ∈ A2
  | _, _, _, i, s', e', A2, .nil, _, _, _, _ => ⟨[], by simpa using EnvR.nil, List.nodup_nil, fun _ h => nomatch h⟩
  | _, _, _, 0, s', e', A2, .un r, ho, hd, hn, h2 => by
    rename_i A
    rcases ho with ⟨rfl, rfl⟩ | ⟨v', rfl, ho⟩
    · exact ⟨_, EnvR.un (s := s') r, hn, fun a h => .inl h⟩
    · exact ⟨_, EnvR.cons ho r, List.nodup_append.mpr ⟨h2, hn, fun a ha b hb q => hd a ha (q ▸ hb)⟩, fun a h => (List.mem_append.mp h).symm⟩
  | _, _, _, 0, s', e', A2, .cons (A1 := Ah) (A2 := At) o r, ho, hd, hn, h2 => by
    have hn' := (List.nodup_append.mp hn).2.1
    rcases ho with ⟨rfl, rfl⟩ | ⟨v', rfl, ho⟩
    · exact ⟨_, EnvR.un (s := s') r, hn', fun a h => .inl (List.mem_append_right _ h)⟩
    · exact ⟨_, EnvR.cons ho r, List.nodup_append.mpr ⟨h2, hn', fun a ha b hb q => hd a ha (q ▸ List.mem_append_right _ hb)⟩, fun a h => (List.mem_append.mp h).elim .inr fun z => .inl (List.mem_append_right _ z)⟩
  | _, _, _, i + 1, s', e', A2, .un r, ho, hd, hn, h2 => by
    obtain ⟨A', h3, h4, h5⟩ := env_set i r ho hd hn h2
    exact ⟨A', .un h3, h4, h5⟩
  | _, _, _, i + 1, s', e', A2, .cons (A1 := Ah) (A2 := At) o r, ho, hd, hn, h2 => by
    obtain ⟨n1, n2, n3⟩ := List.nodup_append.mp hn
    obtain ⟨A', h3, h4, h5⟩ := env_set i r ho (fun a h z => hd a h (List.mem_append_right _ z)) n2 h2
    refine ⟨_, .cons o h3, List.nodup_append.mpr ⟨n1, h4, fun a ha b hb q => ?_⟩, fun a h => (List.mem_append.mp h).elim (fun z => .inl (List.mem_append_left _ z)) fun z => (h5 a z).imp (List.mem_append_right _) id⟩
    rcases h5 b hb with z | z
    · exact n3 a ha b z q
    · exact hd b z (q ▸ List.mem_append_left _ ha)
end

structure Good (T : Tb) (B H : Hp) (σ : List (Option V)) (env : Env) (A : List Addr) : Prop where
  bh : Same B H
  er : EnvR T.K T.cls B H σ env A
  nd : A.Nodup
end BV

/-! BV2: the judgements: an expression's data, a new list's content, a test, arguments, a statement; the rule of sequence. -/
namespace BV
open PySem PySem.Spec PyProof.Rows L2

/-- the field that an error's argument is kept in -/
def fldOf (c : Str) : Str := if c = "TextError" then "at" else if c = "CommandError" then "line" else "reason"
/-- an exception of the class c with the argument x: its class, its own dict -/
def XcR (T : Tb) (B H : Hp) (cl : Value) (d : Option Addr) (c : Str) (x : D) : Prop :=
  ∃ C dd v, T.cls c = some C ∧ cl = .ref C ∧ d = some dd ∧ H dd = some (.xd [(fldOf c, v)]) ∧ Dq T.K B v x
def Pin (T : Tb) (σ σ' : St) : Prop := ∀ i ∈ T.pins, σ'[i]? = σ[i]?
theorem Pin.refl {T : Tb} {σ : St} : Pin T σ σ := fun _ _ => rfl
theorem Pin.trans {T : Tb} {σ σ1 σ2 : St} (a : Pin T σ σ1) (b : Pin T σ1 σ2) : Pin T σ σ2 := fun i h => (b i h).trans (a i h)

/-- v may be read as x: it is x in the part that stays, or a list that is owned, its items in the part that stays -/
def Pk (K : Fg) (B H : Hp) (v : V) (x : D) : Prop := Dq K B v x ∨ ∃ p vs xs, v = .ref p ∧ x = .list xs ∧ H p = some (.lst vs) ∧ DqAll K B vs xs
theorem Pk.dp {K : Fg} {B H : Hp} {v : V} {x : D} (e : Same B H) (h : Pk K B H v x) : L2.Dp K H v x := by
  rcases h with h | ⟨p, vs, xs, rfl, rfl, h1, h2⟩
  · exact dq_dp _ _ (dp_mono e _ _ h)
  · exact .lst (SqL.of h1) (dqs_dps _ _ (dps_mono e _ _ h2))
/-- a list's items -/
theorem Pk.items {K : Fg} {B H : Hp} {v : V} {xs : List D} (e : Same B H) (h : Pk K B H v (.list xs)) : ∃ p vs, v = .ref p ∧ H p = some (.lst vs) ∧ DqAll K B vs xs := by
  rcases h with h | ⟨p, vs, xs', rfl, e1, h1, h2⟩
  · cases h with
    | lst h1 h2 => exact ⟨_, _, rfl, e _ _ h1, h2⟩
  · cases e1
    exact ⟨p, vs, rfl, h1, h2⟩
theorem Pk.tup {K : Fg} {B H : Hp} {v : V} {xs : List D} (e : Same B H) (h : Pk K B H v (.tuple xs)) : ∃ p vs, v = .ref p ∧ SqT K H p vs ∧ DqAll K B vs xs := by
  rcases h with h | ⟨p, vs, xs', rfl, e1, h1, h2⟩
  · cases h with
    | tup h1 h2 => exact ⟨_, _, rfl, Same.seqT e h1, h2⟩
  · cases e1
theorem Pk.int {K : Fg} {B H : Hp} {v : V} {i : Int} (h : Pk K B H v (.int i)) : v = .int i := by
  rcases h with h | ⟨p, vs, xs', _, e1, _, _⟩
  · cases h; rfl
  · cases e1
theorem Pk.str {K : Fg} {B H : Hp} {v : V} {i : Str} (h : Pk K B H v (.str i)) : v = .str i := by
  rcases h with h | ⟨p, vs, xs', _, e1, _, _⟩
  · cases h; rfl
  · cases e1
theorem Pk.bool {K : Fg} {B H : Hp} {v : V} {i : Bool} (h : Pk K B H v (.bool i)) : v = .bl i := by
  rcases h with h | ⟨p, vs, xs', _, e1, _, _⟩
  · cases h; rfl
  · cases e1
theorem Pk.none {K : Fg} {B H : Hp} {v : V} (h : Pk K B H v .none) : v = .non := by
  rcases h with h | ⟨p, vs, xs', _, e1, _, _⟩
  · cases h; rfl
  · cases e1
inductive PkAll (K : Fg) (B H : Hp) : List V → List D → Prop
  | nil : PkAll K B H [] []
  | cons {v : V} {x : D} {vs : List V} {xs : List D} : Pk K B H v x → PkAll K B H vs xs → PkAll K B H (v :: vs) (x :: xs)
theorem pkall_of {K : Fg} {B H : Hp} : ∀ {vs : List V} {xs : List D}, DqAll K B vs xs → PkAll K B H vs xs
  | _, _, .nil => .nil
  | _, _, .cons a b => .cons (.inl a) (pkall_of b)

/-- an exception on the way -/
def exE (T : Tb) (σ : St) (B H : Hp) (A : List Addr) (c : Str) (x : D) (env : Env) : Prop :=
  ∃ W, T.W = some W ∧ ∀ cl d B' H' A', Tr B H A B' H' A' → Good T B' H' σ env A' → XcR T B' H' cl d c x → W cl d σ H'
theorem exE.trans {T : Tb} {σ : St} {B H B1 H1 : Hp} {A A1 : List Addr} {c : Str} {x : D} {env : Env} (t : Tr B H A B1 H1 A1) (h : exE T σ B H A c x env) : exE T σ B1 H1 A1 c x env := by
  obtain ⟨W, e, h⟩ := h
  exact ⟨W, e, fun cl d B' H' A' t' g x => h cl d B' H' A' (t.trans t') g x⟩

/-- what is wanted: R tells the value from the content -/
def ev {α β : Type} (T : Tb) (R : Hp → Hp → α → β → List Addr → Prop) (B H : Hp) (A : List Addr) (σ : St) (Q : β → Hp → Prop) : RE α → Prop
  | .ok x env' => ∀ v B' H' A' A2, Tr B H A B' H' (A' ++ A2) → Good T B' H' σ env' A' → R B' H' x v A2 → A2.Nodup → (∀ a ∈ A2, a ∉ A') → Q v H'
  | .ex c x env' => exE T σ B H A c x env'
  | .no => False
theorem ev.trans {α β : Type} {T : Tb} {R : Hp → Hp → α → β → List Addr → Prop} {B H B1 H1 : Hp} {A A1 : List Addr} {σ : St} {Q : β → Hp → Prop} {r : RE α} (t : Tr B H A B1 H1 A1) (h : ev T R B H A σ Q r) : ev T R B1 H1 A1 σ Q r := by
  cases r with
  | ok x env' => exact fun v B' H' A' A2 t' => h v B' H' A' A2 (t.trans t')
  | ex c x env' => exact exE.trans t h
  | no => exact h
theorem ev.imp {α β : Type} {T : Tb} {R R' : Hp → Hp → α → β → List Addr → Prop} {B H : Hp} {A : List Addr} {σ : St} {Q : β → Hp → Prop} {r : RE α} (h : ev T R B H A σ Q r) (i : ∀ B H x v A2, R' B H x v A2 → R B H x v A2) : ev T R' B H A σ Q r := by
  cases r with
  | ok x env' => exact fun v B' H' A' A2 t' g q => h v B' H' A' A2 t' g (i _ _ _ _ _ q)
  | ex c x env' => exact h
  | no => exact h

/-- .. with the part that stays told -/
def gB {α β : Type} (T : Tb) (R : Hp → Hp → α → β → List Addr → Prop) (m : Env → RE α) (B : Hp) (σ : St) (H : Hp) (Q : β → Hp → Prop) : Prop :=
  ∃ env A, Good T B H σ env A ∧ ev T R B H A σ Q (m env)
def gen {α β : Type} (T : Tb) (R : Hp → Hp → α → β → List Addr → Prop) (m : Env → RE α) (σ : St) (H : Hp) (Q : β → Hp → Prop) : Prop := ∃ B, gB T R m B σ H Q

def rD (K : Fg) : Hp → Hp → D → V → List Addr → Prop := fun B _ x v A2 => A2 = [] ∧ Dq K B v x
def rP (K : Fg) : Hp → Hp → D → V → List Addr → Prop := fun B H x v A2 => A2 = [] ∧ Pk K B H v x
def rN (T : Tb) : Hp → Hp → Sl → V → List Addr → Prop := fun B H s v A2 => Own T.K T.cls B H s v A2
def rT : Hp → Hp → Bool → Bool → List Addr → Prop := fun _ _ x v A2 => A2 = [] ∧ v = x
def rA (K : Fg) : Hp → Hp → List D → List V → List Addr → Prop := fun B _ xs vs A2 => A2 = [] ∧ DqAll K B vs xs
def rAP (K : Fg) : Hp → Hp → List D → List V → List Addr → Prop := fun B H xs vs A2 => A2 = [] ∧ PkAll K B H vs xs

/-- data; data or an owned list, read at once; a new thing; a test; arguments -/
def teD (T : Tb) (m : Env → RE D) : TE := fun σ H Q => gen T (rD T.K) m σ H Q
def teP (T : Tb) (m : Env → RE D) : TE := fun σ H Q => gen T (rP T.K) m σ H Q
def teN (T : Tb) (m : Env → RE Sl) : TE := fun σ H Q => gen T (rN T) m σ H Q
def ttD (T : Tb) (m : Env → RE Bool) : TT := fun σ H Q => gen T rT m σ H Q
def taD (T : Tb) (m : Env → RE (List D)) : TA := fun σ H Q => gen T (rA T.K) m σ H Q
def taP (T : Tb) (m : Env → RE (List D)) : TA := fun σ H Q => gen T (rAP T.K) m σ H Q

section
variable {X : Cx} {e : Expr} {t t' : TE}
theorem pew (h : PE X e t) (i : ∀ σ H Q, t' σ H Q → t σ H Q) : PE X e t' := ⟨fun pins s σ H Q I q => h.run pins s σ H Q I (i σ H Q q)⟩
theorem ptw {t t' : TT} (h : PT X e t) (i : ∀ σ H Q, t' σ H Q → t σ H Q) : PT X e t' := ⟨fun pins s σ H Q I q => h.run pins s σ H Q I (i σ H Q q)⟩
theorem pww {t t' : TT} (h : PW X e t) (i : ∀ σ H Q, t' σ H Q → t σ H Q) : PW X e t' := ⟨fun wh pins s σ H Q I q => h.run wh pins s σ H Q I (i σ H Q q)⟩
theorem paw {es : List Expr} {t t' : TA} (h : PA X es t) (i : ∀ σ H Q, t' σ H Q → t σ H Q) : PA X es t' := ⟨fun pos pins s σ H Q I q => h.run pos pins s σ H Q I (i σ H Q q)⟩
theorem psw {st : Stmt} {t t' : TS} (h : PS X st t) (i : ∀ D σ H, t' D σ H → t D σ H) : PS X st t' := ⟨fun pins s σ H D I q => h.run pins s σ H D I (i D σ H q)⟩
theorem pssw {st : List Stmt} {t t' : TS} (h : PSs X st t) (i : ∀ D σ H, t' D σ H → t D σ H) : PSs X st t' := ⟨fun pins s σ H D I q => h.run pins s σ H D I (i D σ H q)⟩
end

section
variable {T : Tb} {α β γ δ : Type} {R1 : Hp → Hp → γ → δ → List Addr → Prop} {R : Hp → Hp → α → β → List Addr → Prop} {σ : St} {B H : Hp} {Q : β → Hp → Prop} {m : Env → RE γ} {k : γ → Env → RE α}
/-- THE RULE of sequence: the first part, then the rest, where the first part owns nothing new -/
theorem seqB (h : gB T R (fun env => (m env).bind k) B σ H Q) (ho : ∀ B H x v A2, R1 B H x v A2 → A2 = []) :
    gB T R1 m B σ H (fun v H1 => ∃ x B1, Same B B1 ∧ R1 B1 H1 x v [] ∧ gB T R (k x) B1 σ H1 Q) := by
  obtain ⟨env, A, g, h⟩ := h
  refine ⟨env, A, g, ?_⟩
  cases e : m env with
  | ok x env1 =>
    simp only [e, RE.bind] at h
    intro v B1 H1 A1 A2 t g1 r n d
    obtain rfl := ho _ _ _ _ _ r
    rw [List.append_nil] at t
    exact ⟨x, B1, t.bb, r, env1, A1, g1, ev.trans t h⟩
  | ex c x env1 =>
    simp only [e, RE.bind] at h
    exact h
  | no =>
    simp only [e, RE.bind] at h
    exact h
theorem seqE (h : gen T R (fun env => (m env).bind k) σ H Q) (ho : ∀ B H x v A2, R1 B H x v A2 → A2 = []) :
    gen T R1 m σ H (fun v H1 => ∃ x B1, R1 B1 H1 x v [] ∧ gB T R (k x) B1 σ H1 Q) := by
  obtain ⟨B, h⟩ := h
  obtain ⟨env, A, g, h⟩ := seqB h ho
  refine ⟨B, env, A, g, ?_⟩
  cases e : m env with
  | ok x env1 =>
    rw [e] at h
    exact fun v B' H' A' A2 t g' r n d => let ⟨x, B1, _, a, b⟩ := h v B' H' A' A2 t g' r n d; ⟨x, B1, a, b⟩
  | ex c x env1 => rw [e] at h; exact h
  | no => rw [e] at h; exact h
/-- a step that is done at once -/
def lft {α : Type} (o : Option α) (env : Env) : RE α := match o with
  | some x => .ok x env
  | none => .no
/-- done: what the step made owns nothing new -/
theorem doneB {o : Option α} (h : gB T R (fun env => lft o env) B σ H Q) : ∃ x, o = some x ∧ Same B H ∧ ∀ v B' H', Tr B H [] B' H' [] → Same B' H' → R B' H' x v [] → Q v H' := by
  obtain ⟨env, A, g, h⟩ := h
  cases o with
  | none => exact h.elim
  | some x =>
    refine ⟨x, rfl, g.bh, fun v B' H' t s r => ?_⟩
    have k : Keeps B H B' H' A := t.keeps (fun _ _ => List.not_mem_nil) fun a ha => (env_known g.er a ha).1
    exact h v B' H' A [] (by simpa using t.widen0) ⟨s, env_keep g.er k, g.nd⟩ r List.nodup_nil fun _ z => nomatch z
/-- done: a new thing -/
theorem doneN {o : Option α} (h : gB T R (fun env => lft o env) B σ H Q) : ∃ x, o = some x ∧ Same B H ∧ ∀ v B' H' A2, Tr B H [] B' H' A2 → Same B' H' → R B' H' x v A2 → A2.Nodup → (∀ a ∈ A2, H a = none) → Q v H' := by
  obtain ⟨env, A, g, h⟩ := h
  cases o with
  | none => exact h.elim
  | some x =>
    refine ⟨x, rfl, g.bh, fun v B' H' A2 t s r n f => ?_⟩
    have k : Keeps B H B' H' A := t.keeps (fun _ _ => List.not_mem_nil) fun a ha => (env_known g.er a ha).1
    have w := t.widen (R := A)
    refine h v B' H' A A2 (w.perm (fun a => by simp) fun a ha => ?_) ⟨s, env_keep g.er k, g.nd⟩ r n fun a ha hb => (env_known g.er a hb).1 (f a ha)
    rcases List.mem_append.mp ha with z | z
    · exact List.mem_append_right _ z
    · exact List.mem_append_left _ z
end
theorem rD_nil {K : Fg} : ∀ B H x v A2, rD K B H x v A2 → A2 = [] := fun _ _ _ _ _ h => h.1
theorem rP_nil {K : Fg} : ∀ B H x v A2, rP K B H x v A2 → A2 = [] := fun _ _ _ _ _ h => h.1
theorem rT_nil : ∀ B H x v A2, rT B H x v A2 → A2 = [] := fun _ _ _ _ _ h => h.1
theorem rA_nil {K : Fg} : ∀ B H x v A2, rA K B H x v A2 → A2 = [] := fun _ _ _ _ _ h => h.1
theorem rAP_nil {K : Fg} : ∀ B H x v A2, rAP K B H x v A2 → A2 = [] := fun _ _ _ _ _ h => h.1

theorem gB_gen {α β : Type} {T : Tb} {R : Hp → Hp → α → β → List Addr → Prop} {m : Env → RE α} {B : Hp} {σ : St} {H : Hp} {Q : β → Hp → Prop} (h : gB T R m B σ H Q) : gen T R m σ H Q := ⟨B, h⟩

/-! ### from one mode to another -/
section
variable {X : Cx} {T : Tb} {e : Expr} {m : Env → RE D}
theorem bp_d (h : PE X e (teD T m)) : PE X e (teP T m) := pew h fun σ H Q ⟨B, env, A, g, q⟩ => ⟨B, env, A, g, q.imp fun _ _ _ _ _ r => ⟨r.1, .inl r.2⟩⟩
/-- a new list is frozen -/
def frz : RE Sl → RE D
  | .ok (.l xs) env => .ok (.list xs) env
  | .ok (.d x) env => .ok x env
  | .ok _ _ => .no
  | .ex c x env => .ex c x env
  | .no => .no
theorem frz_to {m : Env → RE Sl} : ∀ σ H Q, teD T (fun env => frz (m env)) σ H Q → teN T m σ H Q := fun σ H Q ⟨B, env, A, g, q⟩ => by
  refine ⟨B, env, A, g, ?_⟩
  cases em : m env with
  | ok s env' =>
    simp only [em] at q
    intro v B' H' A' A2 t g' r n d
    cases s with
    | d x =>
      cases r with
      | d hd => exact q v B' H' A' [] t g' ⟨rfl, hd⟩ n d
    | l xs =>
      cases r with
      | l h1 h2 h3 =>
        rename_i vs p
        have sb : Same B' (upd B' p (.lst vs)) := fun b o e => by rw [upd_ne (ne_of_none e h1)]; exact e
        have sh : Same (upd B' p (.lst vs)) H' := fun b o e => by
          by_cases hb : b = p
          · subst hb; rw [upd_same] at e; cases e; exact h2
          · rw [upd_ne hb] at e; exact g'.bh b o e
        have dis : ∀ a ∈ A', a ≠ p := fun a ha z => d p (List.mem_singleton.mpr rfl) (z ▸ ha)
        refine q (.ref p) (upd B' p (.lst vs)) H' A' [] ?_ ⟨sh, env_keep g'.er ⟨sb, fun _ _ _ e => e, fun a ha z => by rw [upd_ne (dis a ha)]; exact z⟩, g'.nd⟩ ⟨rfl, .lst upd_same (dps_mono sb _ _ h3)⟩ List.nodup_nil fun _ z => nomatch z
        refine ⟨t.bb.trans sb, t.fr, t.st, fun a ha hk hb => ?_, fun a ha => t.na a (List.mem_append_left _ (by simpa using ha))⟩
        have np : a ≠ p := fun z => (t.na p (List.mem_append_right _ (List.mem_singleton.mpr rfl))).elim (fun w => ha (z ▸ w)) fun w => hk (z ▸ w)
        rw [upd_ne np]
        exact t.nb a ha hk hb
    | un => exact q.elim
    | k _ => exact q.elim
    | t _ => exact q.elim
    | o _ _ => exact q.elim
  | ex c x env' => simp only [em] at q; exact q
  | no => simp only [em] at q; exact q
theorem bd_n {m : Env → RE Sl} (h : PE X e (teN T m)) : PE X e (teD T fun env => frz (m env)) := pew h frz_to
end
end BV

/-! BV3: expressions. -/
namespace BV
open PySem PySem.Spec PyProof.Rows L2

theorem lim_eq : (sizeLine : Nat) = 16777216 := sizeLine_eq
theorem le_lim {n : Nat} (h : n ≤ 16777216) : n ≤ sizeLine := by rw [lim_eq]; exact h
theorem lt_lim {n : Nat} (h : n < 16777216) : n < sizeLine := by rw [lim_eq]; exact h

theorem ev.mono {α β : Type} {T : Tb} {R : Hp → Hp → α → β → List Addr → Prop} {B H : Hp} {A : List Addr} {σ : St} {Q Q' : β → Hp → Prop} {r : RE α} (h : ev T R B H A σ Q r) (i : ∀ v H, Q v H → Q' v H) : ev T R B H A σ Q' r := by
  cases r with
  | ok x env' => exact fun v B' H' A' A2 t' g q n d => i _ _ (h v B' H' A' A2 t' g q n d)
  | ex c x env' => exact h
  | no => exact h
theorem gen_mono {α β : Type} {T : Tb} {R : Hp → Hp → α → β → List Addr → Prop} {m : Env → RE α} {σ : St} {H : Hp} {Q Q' : β → Hp → Prop} (h : gen T R m σ H Q) (i : ∀ v H, Q v H → Q' v H) : gen T R m σ H Q' := by
  obtain ⟨B, env, A, g, h⟩ := h
  exact ⟨B, env, A, g, h.mono i⟩
theorem gB_mono {α β : Type} {T : Tb} {R : Hp → Hp → α → β → List Addr → Prop} {m : Env → RE α} {B : Hp} {σ : St} {H : Hp} {Q Q' : β → Hp → Prop} (h : gB T R m B σ H Q) (i : ∀ v H, Q v H → Q' v H) : gen T R m σ H Q' := by
  obtain ⟨env, A, g, h⟩ := h
  exact ⟨B, env, A, g, h.mono i⟩
/-- a new thing that stays -/
theorem tr_new {B H : Hp} {p : Addr} {o : HO} (hn : H p = none) (hb : Same B H) : Tr B H [] (upd B p o) (upd H p o) [] ∧ Same (upd B p o) (upd H p o) ∧ Same B (upd B p o) := by
  have bn : B p = none := hb.free hn
  have sb : Same B (upd B p o) := fun a u e => by rw [upd_ne (ne_of_none e bn)]; exact e
  refine ⟨⟨sb, fun a u _ e => by rw [upd_ne (ne_of_none e hn)]; exact e, fun a h => ?_, fun a _ h z => ?_, fun a h => nomatch h⟩, fun a u e => ?_, sb⟩
  · by_cases q : a = p
    · rw [q]; exact hn
    · rw [upd_ne q] at h; exact h
  · have q : a ≠ p := fun q => h (q ▸ hn)
    rw [upd_ne q]; exact z
  · by_cases q : a = p
    · rw [q, upd_same] at e; rw [q, upd_same]; exact e
    · rw [upd_ne q] at e ⊢; exact hb _ _ e
/-- a new thing that is owned -/
theorem tr_own {B H : Hp} {p : Addr} {o : HO} (hn : H p = none) (hb : Same B H) : Tr B H [] B (upd H p o) [p] ∧ Same B (upd H p o) ∧ B p = none := by
  have bn : B p = none := hb.free hn
  refine ⟨⟨Same.refl B, fun a u _ e => by rw [upd_ne (ne_of_none e hn)]; exact e, fun a h => ?_, fun a _ h z => z, fun a h => ?_⟩, fun a u e => ?_, bn⟩
  · by_cases q : a = p
    · rw [q]; exact hn
    · rw [upd_ne q] at h; exact h
  · rw [List.mem_singleton.mp h]; exact .inr hn
  · rw [upd_ne (ne_of_none e bn)]; exact hb _ _ e

/-! ### names, constants -/
theorem set_self {α : Type} : ∀ {l : List α} {i : Nat} {x : α}, l[i]? = some x → l.set i x = l
  | [], _, _, h => by simp at h
  | _ :: _, 0, _, h => by simp at h; subst h; rfl
  | a :: l, i + 1, x, h => by
    have := set_self (l := l) (i := i) (x := x) (by simpa using h)
    rw [List.set_cons_succ, this]
/-- the data in a slot; an owned list is frozen by it -/
def eVar (i : Nat) : Env → RE D := fun env => match env[i]? with
  | some (.d x) => .ok x env
  | some (.l xs) => .ok (.list xs) (env.set i (.d (.list xs)))
  | _ => .no
/-- .. read at once -/
def eOwn (i : Nat) : Env → RE D := fun env => match env[i]? with
  | some (.d x) => .ok x env
  | some (.l xs) => .ok (.list xs) env
  | _ => .no
def eC (x : D) : Env → RE D := fun env => .ok x env
section
variable {X : Cx} {T : Tb} {e : Expr}
theorem good_at {T : Tb} {B H : Hp} {σ : St} {env : Env} {A : List Addr} {i : Nat} {x : D} (g : Good T B H σ env A) (h : env[i]? = some (.d x)) : ∃ v, σ[i]? = some (some v) ∧ Dq T.K B v x := by
  obtain ⟨v, A1, A2, A3, h1, h2, _⟩ := env_at i g.er h (fun z => nomatch z)
  cases h2 with
  | d q => exact ⟨v, h1, q⟩
/-- an owned list is frozen -/
theorem good_frz {T : Tb} {B H : Hp} {σ : St} {env : Env} {A : List Addr} {i : Nat} {xs : List D} (g : Good T B H σ env A) (h : env[i]? = some (.l xs)) :
    ∃ v B' A', σ[i]? = some (some v) ∧ Dq T.K B' v (.list xs) ∧ Good T B' H σ (env.set i (.d (.list xs))) A' ∧ Tr B H A B' H A' := by
  obtain ⟨v, A1, A2, A3, h1, h2, h3, h4⟩ := env_at i g.er h (fun z => nomatch z)
  cases h2 with
  | l b1 b2 b3 =>
    rename_i vs p
    have sb : Same B (upd B p (.lst vs)) := fun b o e => by rw [upd_ne (ne_of_none e b1)]; exact e
    have nd : (A1 ++ [p] ++ A3).Nodup := h3 ▸ g.nd
    have dis : ∀ a ∈ A1 ++ A3, a ≠ p := fun a ha z => by
      subst z
      simp only [List.append_assoc, List.singleton_append] at nd
      have n2 := List.nodup_append.mp nd
      rcases List.mem_append.mp ha with q | q
      · exact n2.2.2 a q a (by simp) rfl
      · exact (List.nodup_cons.mp n2.2.1).1 q
    have d' : Dq T.K (upd B p (.lst vs)) (.ref p) (.list xs) := .lst upd_same (dps_mono sb _ _ b3)
    have er := h4 (B' := upd B p (.lst vs)) (H' := H) (s' := some (.ref p)) (e' := .d (.list xs)) (A2' := []) (.inr ⟨_, rfl, .d d'⟩) ⟨sb, fun _ _ _ e => e, fun a ha z => by rw [upd_ne (dis a ha)]; exact z⟩
    have eσ : σ.set i (some (.ref p)) = σ := set_self h1
    rw [eσ] at er
    refine ⟨_, _, _, h1, d', ⟨fun b o e => ?_, er, ?_⟩, sb, fun _ _ _ e => e, fun _ h => h, fun a ha hk z => ?_, fun a ha => ?_⟩
    · by_cases hb : b = p
      · subst hb; rw [upd_same] at e; cases e; exact b2
      · rw [upd_ne hb] at e; exact g.bh b o e
    · have := nd
      simp only [List.append_assoc, List.singleton_append] at this
      have n2 := List.nodup_append.mp this
      simp only [List.append_nil]
      exact List.nodup_append.mpr ⟨n2.1, (List.nodup_cons.mp n2.2.1).2, fun a ha b hb => n2.2.2 a ha b (List.mem_cons_of_mem _ hb)⟩
    · have : a ≠ p := fun q => ha (by rw [h3, q]; simp)
      rw [upd_ne this]; exact z
    · simp only [List.append_nil] at ha
      rw [h3]
      rcases List.mem_append.mp ha with q | q
      · exact .inl (by simp [q])
      · exact .inl (by simp [q])
theorem be_var (i : Nat) (h : PE X e (tVar i)) : PE X e (teD T (eVar i)) := pew h fun σ H Q ⟨B, env, A, g, q⟩ => by
  unfold eVar at q
  split at q
  · rename_i x hx
    obtain ⟨v, h1, h2⟩ := good_at g hx
    exact ⟨v, h1, q v B H A [] (by simpa using Tr.refl) g ⟨rfl, h2⟩ List.nodup_nil fun _ z => nomatch z⟩
  · rename_i xs hx
    obtain ⟨v, B', A', h1, h2, g', t⟩ := good_frz g hx
    exact ⟨v, h1, q v B' H A' [] (by simpa using t) g' ⟨rfl, h2⟩ List.nodup_nil fun _ z => nomatch z⟩
  · exact q.elim
theorem good_own {T : Tb} {B H : Hp} {σ : St} {env : Env} {A : List Addr} {i : Nat} {xs : List D} (g : Good T B H σ env A) (h : env[i]? = some (.l xs)) : ∃ p vs, σ[i]? = some (some (.ref p)) ∧ H p = some (.lst vs) ∧ DqAll T.K B vs xs := by
  obtain ⟨v, A1, A2, A3, h1, h2, _⟩ := env_at i g.er h (fun z => nomatch z)
  cases h2 with
  | l b1 b2 b3 => exact ⟨_, _, h1, b2, b3⟩
theorem bp_own (i : Nat) (h : PE X e (tVar i)) : PE X e (teP T (eOwn i)) := pew h fun σ H Q ⟨B, env, A, g, q⟩ => by
  unfold eOwn at q
  split at q
  · rename_i x hx
    obtain ⟨v, h1, h2⟩ := good_at g hx
    exact ⟨v, h1, q v B H A [] (by simpa using Tr.refl) g ⟨rfl, .inl h2⟩ List.nodup_nil fun _ z => nomatch z⟩
  · rename_i xs hx
    obtain ⟨p, vs, h1, h2, h3⟩ := good_own g hx
    exact ⟨_, h1, q (.ref p) B H A [] (by simpa using Tr.refl) g ⟨rfl, .inr ⟨p, vs, xs, rfl, rfl, h2, h3⟩⟩ List.nodup_nil fun _ z => nomatch z⟩
  · exact q.elim
/-- a constant, of the text or of the module -/
theorem be_c {v : V} {x : D} (h : PE X e (tC v)) (d : ∀ B, Dq T.K B v x) : PE X e (teD T (eC x)) := pew h fun σ H Q ⟨B, env, A, g, q⟩ =>
  q v B H A [] (by simpa using Tr.refl) g ⟨rfl, d B⟩ List.nodup_nil fun _ z => nomatch z
theorem be_int {i j pos} : PE X (.Constant (.int i) j pos) (teD T (eC (.int i))) := be_c pe_int fun _ => .int _
theorem be_bl {i j pos} : PE X (.Constant (.bool i) j pos) (teD T (eC (.bool i))) := be_c pe_bl fun _ => .bl _
theorem be_str {i j pos} : PE X (.Constant (.str i) j pos) (teD T (eC (.str i))) := be_c pe_str fun _ => .str _
theorem be_non {j pos} : PE X (.Constant .none j pos) (teD T (eC .none)) := be_c pe_non fun _ => .non
end

/-! ### operators -/
/-- the operation r on values does f on data (the second operand may be an owned list) -/
def DOp (K : Fg) (r : R2) (f : D → D → Option D) : Prop := ∀ (B H : Hp) (v u : V) (x y z : D) (Q : VK), Same B H → Dq K B v x → Pk K B H u y → f x y = some z →
  (∀ w B' H', Tr B H [] B' H' [] → Same B' H' → Dq K B' w z → Q w H') → r v u H Q
/-- the same for a truth value -/
def DOpB (K : Fg) (r : R2) (f : D → D → Option Bool) : Prop := ∀ (B H : Hp) (v u : V) (x y : D) (b : Bool) (Q : VK), Same B H → Dq K B v x → Pk K B H u y → f x y = some b → Q (.bl b) H → r v u H Q
def eBin (f : D → D → Option D) (a b : Env → RE D) : Env → RE D := fun env => (a env).bind fun x env => (b env).bind fun y env => lft (f x y) env
def eCmp (f : D → D → Option Bool) (a b : Env → RE D) : Env → RE D := fun env => (a env).bind fun x env => (b env).bind fun y env => lft ((f x y).map .bool) env
def tCmpD (f : D → D → Option Bool) (a b : Env → RE D) : Env → RE Bool := fun env => (a env).bind fun x env => (b env).bind fun y env => lft (f x y) env
/-- the first operand an owned list, read behind the second one -/
def eBinO (f : D → D → Option D) (i : Nat) (b : Env → RE D) : Env → RE D := fun env => (eOwn i env).bind fun _ env => (b env).bind fun y env => (eOwn i env).bind fun x env => lft (f x y) env
def tCmpO (f : D → D → Option Bool) (i : Nat) (b : Env → RE D) : Env → RE Bool := fun env => (eOwn i env).bind fun _ env => (b env).bind fun y env => (eOwn i env).bind fun x env => lft (f x y) env
section
variable {X : Cx} {T : Tb} {a b : Expr} {pos : Pos} {ma mb : Env → RE D}
theorem two {r : R2} {α β : Type} {R : Hp → Hp → α → β → List Addr → Prop} {f : D → D → Option α} {σ : St} {H : Hp} {Q : β → Hp → Prop} {Q' : VK}
    (h : gen T R (fun env => (ma env).bind fun x env => (mb env).bind fun y env => lft (f x y) env) σ H Q)
    (hr : ∀ (B H : Hp) (v u : V) (x y : D) (z : α), Same B H → Dq T.K B v x → Pk T.K B H u y → f x y = some z → (∀ w B' H', Tr B H [] B' H' [] → Same B' H' → R B' H' z w [] → Q w H') → r v u H Q') :
    tOp r (teD T ma) (teP T mb) σ H Q' := by
  refine gen_mono (seqE (R1 := rD T.K) h rD_nil) fun v H1 ⟨x, B1, ⟨_, hx⟩, h1⟩ => ?_
  refine gB_mono (seqB (R1 := rP T.K) h1 rP_nil) fun u H2 ⟨y, B2, sb, ⟨_, hy⟩, h2⟩ => ?_
  obtain ⟨z, e, s, k⟩ := doneB h2
  exact hr B2 H2 v u x y z s (dp_mono sb _ _ hx) hy e k
theorem be_bin {op : Operator} {r : R2} {f : D → D → Option D} (ho : OpR X (binaryOp op) r) (hr : DOp T.K r f) (ha : PE X a (teD T ma)) (hb : PE X b (teP T mb)) : PE X (.BinOp a op b pos) (teD T (eBin f ma mb)) :=
  pew (pe_op ho ha hb) fun σ H Q h => two h fun B H v u x y z s hx hy e k => hr B H v u x y z Q s hx hy e fun w B' H' t s' d => k w B' H' t s' ⟨rfl, d⟩
theorem be_cmp {op : CmpOp} {r : R2} {f : D → D → Option Bool} (ho : OpR X (compareOp op) r) (hr : DOpB T.K r f) (ha : PE X a (teD T ma)) (hb : PE X b (teP T mb)) (hm : behindInMarks op b = false) : PE X (.Compare a [op] [b] pos) (teD T (eCmp f ma mb)) :=
  pew (pe_cmpR ho ha hb hm) fun σ H Q h => two h fun B H v u x y z s hx hy e k => by
    obtain ⟨c, e1, e2⟩ := Option.map_eq_some_iff.mp e
    subst e2
    exact hr B H v u x y c Q s hx hy e1 (k _ B H Tr.refl s ⟨rfl, .bl _⟩)
theorem bt_cmp {op : CmpOp} {r : R2} {f : D → D → Option Bool} (ho : OpR X (compareOp op) r) (hr : DOpB T.K r f) (ha : PE X a (teD T ma)) (hb : PE X b (teP T mb)) (hm : behindInMarks op b = false) : PT X (.Compare a [op] [b] pos) (ttD T (tCmpD f ma mb)) :=
  ptw (pt_cmpR ho ha hb hm) fun σ H Q h => two (Q' := fun x H' => ∃ k, x = .bl k ∧ Q k H') h fun B H v u x y z s hx hy e k =>
    hr B H v u x y z _ s hx hy e ⟨z, rfl, k z B H Tr.refl s ⟨rfl, rfl⟩⟩
theorem own_at {B H : Hp} {σ : St} {env : Env} {A : List Addr} {i : Nat} {x : D} {env1 : Env} (g : Good T B H σ env A) (h : eOwn i env = .ok x env1) : env1 = env ∧ ∃ v, σ[i]? = some (some v) ∧ Pk T.K B H v x := by
  unfold eOwn at h
  split at h
  · rename_i x' hx
    cases h
    obtain ⟨v, h1, h2⟩ := good_at g hx
    exact ⟨rfl, v, h1, .inl h2⟩
  · rename_i xs hx
    cases h
    obtain ⟨p, vs, h1, h2, h3⟩ := good_own g hx
    exact ⟨rfl, _, h1, .inr ⟨p, vs, xs, rfl, rfl, h2, h3⟩⟩
  · cases h
theorem own_ex {i : Nat} {env env1 : Env} {c : Str} {x : D} (h : eOwn i env = .ex c x env1) : False := by
  unfold eOwn at h
  split at h <;> cases h
/-- DOp, the first operand an owned list too -/
def DOpO (K : Fg) (r : R2) (f : D → D → Option D) : Prop := ∀ (B H : Hp) (v u : V) (x y z : D) (Q : VK), Same B H → Pk K B H v x → Pk K B H u y → f x y = some z →
  (∀ w B' H', Tr B H [] B' H' [] → Same B' H' → Dq K B' w z → Q w H') → r v u H Q
def DOpBO (K : Fg) (r : R2) (f : D → D → Option Bool) : Prop := ∀ (B H : Hp) (v u : V) (x y : D) (b : Bool) (Q : VK), Same B H → Pk K B H v x → Pk K B H u y → f x y = some b → Q (.bl b) H → r v u H Q
theorem twoO {r : R2} {α β : Type} {R : Hp → Hp → α → β → List Addr → Prop} {f : D → D → Option α} {i : Nat} {σ : St} {H : Hp} {Q : β → Hp → Prop} {Q' : VK}
    (h : gen T R (fun env => (eOwn i env).bind fun _ env => (mb env).bind fun y env => (eOwn i env).bind fun x env => lft (f x y) env) σ H Q)
    (hr : ∀ (B H : Hp) (v u : V) (x y : D) (z : α), Same B H → Pk T.K B H v x → Pk T.K B H u y → f x y = some z → (∀ w B' H', Tr B H [] B' H' [] → Same B' H' → R B' H' z w [] → Q w H') → r v u H Q') :
    tOp r (tVar i) (teD T mb) σ H Q' := by
  obtain ⟨B, env, A, g, q⟩ := h
  cases e : eOwn i env with
  | ok x env1 =>
    obtain ⟨e1, v, hv, hp⟩ := own_at g e
    subst e1
    simp only [e, RE.bind] at q
    refine ⟨v, hv, ?_⟩
    refine gB_mono (seqB (R1 := rD T.K) (m := mb) (B := B) ⟨env1, A, g, q⟩ rD_nil) fun u H2 ⟨y, B2, sb, ⟨_, hy⟩, h2⟩ => ?_
    obtain ⟨env2, A2, g2, q2⟩ := h2
    cases e2 : eOwn i env2 with
    | ok x2 env3 =>
      obtain ⟨e1, v2, hv2, hp2⟩ := own_at g2 e2
      subst e1
      rw [hv] at hv2
      cases hv2
      simp only [e2, RE.bind] at q2
      obtain ⟨z, e, s, k⟩ := doneB (T := T) (R := R) (o := f x2 y) (B := B2) (σ := σ) (H := H2) (Q := Q) ⟨env3, A2, g2, q2⟩
      exact hr B2 H2 v u x2 y z s hp2 (.inl hy) e k
    | ex c x env1 => exact (own_ex e2).elim
    | no => simp only [e2, RE.bind] at q2; exact q2.elim
  | ex c x env1 => exact (own_ex e).elim
  | no => simp only [e, RE.bind] at q; exact q.elim
theorem be_binO {op : Operator} {r : R2} {f : D → D → Option D} {i : Nat} (ho : OpR X (binaryOp op) r) (hr : DOpO T.K r f) (ha : PE X a (tVar i)) (hb : PE X b (teD T mb)) : PE X (.BinOp a op b pos) (teD T (eBinO f i mb)) :=
  pew (pe_op ho ha hb) fun σ H Q h => twoO h fun B H v u x y z s hx hy e k => hr B H v u x y z Q s hx hy e fun w B' H' t s' d => k w B' H' t s' ⟨rfl, d⟩
theorem bt_cmpO {op : CmpOp} {r : R2} {f : D → D → Option Bool} {i : Nat} (ho : OpR X (compareOp op) r) (hr : DOpBO T.K r f) (ha : PE X a (tVar i)) (hb : PE X b (teD T mb)) (hm : behindInMarks op b = false) : PT X (.Compare a [op] [b] pos) (ttD T (tCmpO f i mb)) :=
  ptw (pt_cmpR ho ha hb hm) fun σ H Q h => twoO (Q' := fun x H' => ∃ k, x = .bl k ∧ Q k H') h fun B H v u x y z s hx hy e k =>
    hr B H v u x y z _ s hx hy e ⟨z, rfl, k z B H Tr.refl s ⟨rfl, rfl⟩⟩
/-- o[i], o an owned list -/
theorem be_ixO {r : R2} {f : D → D → Option D} {i : Nat} (ho : IxR X r) (hr : DOpO T.K r f) (ha : PE X a (tVar i)) (hb : PE X b (teD T mb)) (hs : PlainIx b) : PE X (.Subscript a b pos) (teD T (eBinO f i mb)) :=
  pew (pe_ix ho ha hb hs) fun σ H Q h => twoO h fun B H v u x y z s hx hy e k => hr B H v u x y z Q s hx hy e fun w B' H' t s' d => k w B' H' t s' ⟨rfl, d⟩
theorem be_ix {r : R2} {f : D → D → Option D} (ho : IxR X r) (hr : DOp T.K r f) (ha : PE X a (teD T ma)) (hb : PE X b (teP T mb)) (hs : PlainIx b) : PE X (.Subscript a b pos) (teD T (eBin f ma mb)) :=
  pew (pe_ix ho ha hb hs) fun σ H Q h => two h fun B H v u x y z s hx hy e k => hr B H v u x y z Q s hx hy e fun w B' H' t s' d => k w B' H' t s' ⟨rfl, d⟩
end

/-! ### tests -/
/-- a value's truth -/
def dTru : D → Option Bool
  | .none => some false
  | .bool b => some b
  | .int i => some (i != 0)
  | .str y => if y.length ≤ 16777216 then some ((y.length : Int) != 0) else none
  | .list xs => some (!xs.isEmpty)
  | .tuple xs => some (!xs.isEmpty)
  | .dict _ => none
theorem isEmpty_dqs {K : Fg} {B : Hp} {vs : List V} {xs : List D} (h : DqAll K B vs xs) : vs.isEmpty = xs.isEmpty := by cases h <;> rfl
theorem tru_of {K : Fg} {B H : Hp} {v : V} {x : D} {b : Bool} (s : Same B H) (h : Pk K B H v x) (e : dTru x = some b) : TruV K v H b := by
  cases x with
  | none => rw [h.none]; exact (Option.some.inj e).symm
  | bool c => rw [h.bool]; exact (Option.some.inj e).symm
  | int i => rw [h.int]; exact (Option.some.inj e).symm
  | str y =>
    rw [h.str]
    replace e : (if y.length ≤ 16777216 then some ((y.length : Int) != 0) else none) = some b := e
    split at e
    · rename_i hl; exact ⟨le_lim hl, (Option.some.inj e).symm⟩
    · cases e
  | list xs =>
    obtain ⟨p, vs, rfl, h1, h2⟩ := h.items s
    exact .inl ⟨vs, SqL.of h1, by rw [isEmpty_dqs h2]; exact (Option.some.inj e).symm⟩
  | tuple xs =>
    obtain ⟨p, vs, rfl, h1, h2⟩ := h.tup s
    exact .inr (.inl ⟨vs, h1, by rw [isEmpty_dqs h2]; exact (Option.some.inj e).symm⟩)
  | dict _ => cases e
def tTru (m : Env → RE D) : Env → RE Bool := fun env => (m env).bind fun x env => lft (dTru x) env
def tAndD (a b : Env → RE Bool) : Env → RE Bool := fun env => (a env).bind fun x env => if x then b env else .ok false env
def tOrD (a b : Env → RE Bool) : Env → RE Bool := fun env => (a env).bind fun x env => if x then .ok true env else b env
def tNotD (a : Env → RE Bool) : Env → RE Bool := fun env => (a env).bind fun x env => .ok (!x) env
def eIf (t : Env → RE Bool) (a b : Env → RE D) : Env → RE D := fun env => (t env).bind fun x env => if x then a env else b env
def nIf (t : Env → RE Bool) (a b : Env → RE Sl) : Env → RE Sl := fun env => (t env).bind fun x env => if x then a env else b env
/-- and, or, not as values -/
def eAnd (a b : Env → RE D) : Env → RE D := fun env => (a env).bind fun x env => (lft (dTru x) env).bind fun c env => if c then b env else .ok x env
def eOr (a b : Env → RE D) : Env → RE D := fun env => (a env).bind fun x env => (lft (dTru x) env).bind fun c env => if c then .ok x env else b env
def eNot (a : Env → RE D) : Env → RE D := fun env => (a env).bind fun x env => lft ((dTru x).map fun c => .bool (!c)) env
section
variable {X : Cx} {T : Tb} {a b c : Expr} {rest : List Expr} {pos : Pos} {ma mb : Env → RE D} {ta tb : Env → RE Bool}
theorem gB_ok {α β : Type} {T : Tb} {R : Hp → Hp → α → β → List Addr → Prop} {x : α} {v : β} {B : Hp} {σ : St} {H : Hp} {Q : β → Hp → Prop} (h : gB T R (fun env => .ok x env) B σ H Q) (r : R B H x v []) : Q v H := by
  obtain ⟨env, A, g, h⟩ := h
  exact h v B H A [] (by simpa using Tr.refl) g r List.nodup_nil fun _ z => nomatch z
theorem bt_tru (hK : T.K = X.K) (ha : PE X a (teP T ma)) (he : ∀ whole, isTrue a X.env whole = (do let v ← whole; standAt a.pos; holding [v] (truthy v)) := by intro _; rfl) : PT X a (ttD T (tTru ma)) :=
  ptw (pt_truth ha he) fun σ H Q h => gen_mono (seqE (R1 := rP T.K) h rP_nil) fun v H1 ⟨x, B1, ⟨_, hx⟩, h1⟩ => by
    obtain ⟨k, e, s, q⟩ := doneB h1
    exact ⟨k, hK ▸ tru_of s hx e, q k B1 H1 Tr.refl s ⟨rfl, rfl⟩⟩
theorem bw_and1 (ha : PT X a (ttD T ta)) : PW X (.BoolOp .And [a] pos) (ttD T ta) := pw_and1 ha
theorem bw_or1 (ha : PT X a (ttD T ta)) : PW X (.BoolOp .Or [a] pos) (ttD T ta) := pw_or1 ha
theorem bw_and (ha : PT X a (ttD T ta)) (hb : PW X (.BoolOp .And (b :: rest) pos) (ttD T tb)) : PW X (.BoolOp .And (a :: b :: rest) pos) (ttD T (tAndD ta tb)) :=
  pww (pw_and ha hb) fun σ H Q h => gen_mono (seqE (R1 := rT) h rT_nil) fun v H1 ⟨x, B1, ⟨_, hx⟩, h1⟩ => by
    subst hx
    cases v with
    | true => exact ⟨B1, h1⟩
    | false => exact gB_ok h1 ⟨rfl, rfl⟩
theorem bw_or (ha : PT X a (ttD T ta)) (hb : PW X (.BoolOp .Or (b :: rest) pos) (ttD T tb)) : PW X (.BoolOp .Or (a :: b :: rest) pos) (ttD T (tOrD ta tb)) :=
  pww (pw_or ha hb) fun σ H Q h => gen_mono (seqE (R1 := rT) h rT_nil) fun v H1 ⟨x, B1, ⟨_, hx⟩, h1⟩ => by
    subst hx
    cases v with
    | false => exact ⟨B1, h1⟩
    | true => exact gB_ok h1 ⟨rfl, rfl⟩
theorem bt_not (ha : PT X a (ttD T ta)) : PT X (.UnaryOp .Not a pos) (ttD T (tNotD ta)) :=
  ptw (pt_not ha) fun σ H Q h => gen_mono (seqE (R1 := rT) h rT_nil) fun v H1 ⟨x, B1, ⟨_, hx⟩, h1⟩ => by
    subst hx
    exact gB_ok h1 ⟨rfl, rfl⟩
theorem be_if (hc : PT X c (ttD T ta)) (ha : PE X a (teD T ma)) (hb : PE X b (teD T mb)) : PE X (.IfExp c a b pos) (teD T (eIf ta ma mb)) :=
  pew (pe_ifExp hc ha hb) fun σ H Q h => gen_mono (seqE (R1 := rT) h rT_nil) fun v H1 ⟨x, B1, ⟨_, hx⟩, h1⟩ => by
    subst hx
    cases v with
    | true => exact ⟨B1, h1⟩
    | false => exact ⟨B1, h1⟩
theorem bn_if {ma mb : Env → RE Sl} (hc : PT X c (ttD T ta)) (ha : PE X a (teN T ma)) (hb : PE X b (teN T mb)) : PE X (.IfExp c a b pos) (teN T (nIf ta ma mb)) :=
  pew (pe_ifExp hc ha hb) fun σ H Q h => gen_mono (seqE (R1 := rT) h rT_nil) fun v H1 ⟨x, B1, ⟨_, hx⟩, h1⟩ => by
    subst hx
    cases v with
    | true => exact ⟨B1, h1⟩
    | false => exact ⟨B1, h1⟩
theorem be_and (hK : T.K = X.K) (ha : PE X a (teD T ma)) (hb : PE X (.BoolOp .And (b :: rest) pos) (teD T mb)) : PE X (.BoolOp .And (a :: b :: rest) pos) (teD T (eAnd ma mb)) :=
  pew (pe_andT ha hb) fun σ H Q h => gen_mono (seqE (R1 := rD T.K) h rD_nil) fun v H1 ⟨x, B1, ⟨_, hx⟩, env, A, g, h1⟩ => by
    cases e : dTru x with
    | none => simp only [e, lft, RE.bind] at h1; exact h1.elim
    | some k =>
      simp only [e, lft, RE.bind] at h1
      refine ⟨k, hK ▸ tru_of g.bh (.inl hx) e, ?_⟩
      cases k with
      | true => exact ⟨B1, env, A, g, h1⟩
      | false => exact gB_ok (T := T) (R := rD T.K) (x := x) (B := B1) (σ := σ) ⟨env, A, g, h1⟩ ⟨rfl, hx⟩
theorem be_or (hK : T.K = X.K) (ha : PE X a (teD T ma)) (hb : PE X (.BoolOp .Or (b :: rest) pos) (teD T mb)) : PE X (.BoolOp .Or (a :: b :: rest) pos) (teD T (eOr ma mb)) :=
  pew (pe_orT ha hb) fun σ H Q h => gen_mono (seqE (R1 := rD T.K) h rD_nil) fun v H1 ⟨x, B1, ⟨_, hx⟩, env, A, g, h1⟩ => by
    cases e : dTru x with
    | none => simp only [e, lft, RE.bind] at h1; exact h1.elim
    | some k =>
      simp only [e, lft, RE.bind] at h1
      refine ⟨k, hK ▸ tru_of g.bh (.inl hx) e, ?_⟩
      cases k with
      | false => exact ⟨B1, env, A, g, h1⟩
      | true => exact gB_ok (T := T) (R := rD T.K) (x := x) (B := B1) (σ := σ) ⟨env, A, g, h1⟩ ⟨rfl, hx⟩
theorem be_not (hK : T.K = X.K) (ha : PE X a (teP T ma)) : PE X (.UnaryOp .Not a pos) (teD T (eNot ma)) :=
  pew (pe_notT ha) fun σ H Q h => gen_mono (seqE (R1 := rP T.K) h rP_nil) fun v H1 ⟨x, B1, ⟨_, hx⟩, h1⟩ => by
    obtain ⟨z, e, s, q⟩ := doneB h1
    obtain ⟨k, e1, e2⟩ := Option.map_eq_some_iff.mp e
    subst e2
    exact ⟨k, hK ▸ tru_of s hx e1, q _ B1 H1 Tr.refl s ⟨rfl, .bl _⟩⟩
end
end BV

/-! BV4: what the operators do on data. -/
namespace BV
open PySem PySem.Spec PyProof.Rows L2

theorem dop_of {K : Fg} {r : R2} {f : D → D → Option D} (h : DOpO K r f) : DOp K r f := fun B H v u x y z Q s hx hy e k => h B H v u x y z Q s (.inl hx) hy e k
theorem dopb_of {K : Fg} {r : R2} {f : D → D → Option Bool} (h : DOpBO K r f) : DOpB K r f := fun B H v u x y b Q s hx hy e k => h B H v u x y b Q s (.inl hx) hy e k
theorem tupD {K : Fg} {B H : Hp} {v : V} {xs : List D} (h : Pk K B H v (.tuple xs)) : Dq K B v (.tuple xs) := by
  rcases h with h | ⟨p, vs, xs', rfl, e1, h1, h2⟩
  · exact h
  · cases e1

/-! ### + -/
def dAdd : D → D → Option D
  | .int i, .int j => some (.int (i + j))
  | .str a, .str b => if a.length + b.length ≤ 16777216 then some (.str (a ++ b)) else none
  | .list xs, .list ys => if xs.length + ys.length ≤ 16777216 then some (.list (xs ++ ys)) else none
  | .tuple xs, .tuple ys => if xs.length + ys.length ≤ 16777216 then some (.tuple (xs ++ ys)) else none
  | _, _ => none
def rStrAdd : R2 := fun x y H Q => ∃ i j, x = .str i ∧ y = .str j ∧ i.length + j.length ≤ sizeLine ∧ Q (.str (i ++ j)) H
def rAddAll (K : Fg) : R2 := fun x y H Q => rI0 (fun i j => .int (i + j)) x y H Q ∨ rStrAdd x y H Q ∨ rCat x y H Q ∨ rCatA K x y H Q
theorem op_addAll {X : Cx} : OpR X (binaryOp .Add) (rAddAll X.K) := op_add.or (op_add_str.or (op_cat.or op_catA))
theorem dqs_nil {K : Fg} {B : Hp} {vs : List V} {xs : List D} (h : DqAll K B vs xs) : vs = [] ↔ xs = [] := by cases h <;> simp
theorem do_add {K : Fg} : DOpO K (rAddAll K) dAdd := by
  intro B H v u x y z Q s hx hy e k
  cases x with
  | int i =>
    cases y with
    | int j =>
      rw [hx.int, hy.int]
      cases e
      exact .inl ⟨i, j, rfl, rfl, k _ B H Tr.refl s (.int _)⟩
    | _ => cases e
  | str a =>
    cases y with
    | str b =>
      rw [hx.str, hy.str]
      replace e : (if a.length + b.length ≤ 16777216 then some (PyData.str (a ++ b)) else none) = some z := e
      split at e
      · rename_i hl
        cases e
        exact .inr (.inl ⟨a, b, rfl, rfl, le_lim hl, k _ B H Tr.refl s (.str _)⟩)
      · cases e
    | _ => cases e
  | list xs =>
    cases y with
    | list ys =>
      replace e : (if xs.length + ys.length ≤ 16777216 then some (PyData.list (xs ++ ys)) else none) = some z := e
      split at e
      · rename_i hl
        cases e
        obtain ⟨p, vs, rfl, h1, h2⟩ := hx.items s
        obtain ⟨q, ws, rfl, h3, h4⟩ := hy.items s
        refine .inr (.inr (.inl ⟨p, q, vs, ws, rfl, rfl, h1, h3, le_lim (by rw [dps_length h2, dps_length h4]; exact hl), fun a ha => ?_⟩))
        obtain ⟨t, s', sb⟩ := tr_new (o := .lst (vs ++ ws)) ha s
        exact k _ _ _ t s' (.lst upd_same (dps_mono sb _ _ (dps_app h2 h4)))
      · cases e
    | _ => cases e
  | tuple xs =>
    cases y with
    | tuple ys =>
      replace e : (if xs.length + ys.length ≤ 16777216 then some (PyData.tuple (xs ++ ys)) else none) = some z := e
      split at e
      · rename_i hl
        cases e
        have dx := tupD hx
        have dy := tupD hy
        obtain ⟨p, vs, rfl, h1, h2⟩ := hx.tup s
        obtain ⟨q, ws, rfl, h3, h4⟩ := hy.tup s
        refine .inr (.inr (.inr ⟨p, q, vs, ws, rfl, rfl, h1, h3, le_lim (by rw [dps_length h2, dps_length h4]; exact hl), fun h0 => ?_, fun _ h0 => ?_, fun _ _ a ha => ?_⟩))
        · obtain rfl := (dqs_nil h2).mp h0
          exact k _ B H Tr.refl s dy
        · obtain rfl := (dqs_nil h4).mp h0
          rw [List.append_nil] at k
          exact k _ B H Tr.refl s dx
        · obtain ⟨t, s', sb⟩ := tr_new (o := .tup (vs ++ ws)) ha s
          exact k _ _ _ t s' (.tup (SqT.of upd_same) (dps_mono sb _ _ (dps_app h2 h4)))
      · cases e
    | _ => cases e
  | _ => cases y <;> cases e

/-! ### ints -/
def dI (C : Int → Int → Bool) (g : Int → Int → Int) : D → D → Option D
  | .int i, .int j => if C i j then some (.int (g i j)) else none
  | _, _ => none
theorem do_int {K : Fg} {C : Int → Int → Prop} {c : Int → Int → Bool} {g : Int → Int → Int} (hc : ∀ i j, c i j = true → C i j) : DOpO K (rI C fun i j => .int (g i j)) (dI c g) := by
  intro B H v u x y z Q s hx hy e k
  cases x with
  | int i =>
    cases y with
    | int j =>
      rw [hx.int, hy.int]
      replace e : (if c i j = true then some (PyData.int (g i j)) else none) = some z := e
      split at e
      · rename_i h
        cases e
        exact ⟨i, j, rfl, rfl, hc i j h, k _ B H Tr.refl s (.int _)⟩
      · cases e
    | _ => cases e
  | _ => cases y <;> cases e
def dSub : D → D → Option D := dI (fun _ _ => true) fun i j => i - j
theorem op_subI {X : Cx} : OpR X (binaryOp .Sub) (rI (fun _ _ => True) fun i j => .int (i - j)) := fun pins s σ H x y v u Q I rx ry ⟨i, j, e1, e2, _, q⟩ => op_sub pins s σ H x y v u Q I rx ry ⟨i, j, e1, e2, q⟩
theorem do_sub {K : Fg} : DOpO K (rI (fun _ _ => True) fun i j => .int (i - j)) dSub := do_int fun _ _ _ => trivial
def dDiv : D → D → Option D := dI (fun _ j => decide (0 < j ∧ j < 1073741824)) fun i j => i / j
theorem do_div {K : Fg} : DOpO K (rI CDiv fun i j => .int (i / j)) dDiv := do_int fun i j h => show 0 < j ∧ j < 1073741824 from of_decide_eq_true h
def dMod : D → D → Option D := dI (fun _ j => decide (0 < j)) fun i j => i % j
theorem do_mod {K : Fg} : DOpO K (rI (fun _ j => 0 < j) fun i j => .int (i % j)) dMod := do_int fun _ _ h => of_decide_eq_true h
def dPow : D → D → Option D := dI (fun i j => decide (0 ≤ j ∧ j ≤ 1000000 ∧ i.natAbs < 2 ^ 64)) fun i j => i ^ j.toNat
theorem do_pow {K : Fg} : DOpO K (rI CPow fun i j => .int (i ^ j.toNat)) dPow := do_int fun i j h => show 0 ≤ j ∧ j ≤ 1000000 ∧ i.natAbs < 2 ^ 64 from of_decide_eq_true h

/-! ### * -/
def repS (z : Str) (k : Int) : Str := ⟨((List.replicate k.toNat z.cps.toList).flatten).toArray⟩
def rRepS : R2 := fun x y H Q => ∃ z k, x = .str z ∧ y = .int k ∧ -(2 ^ 63) ≤ k ∧ k < 2 ^ 63 ∧ z.length * k.toNat ≤ 16777216 ∧ Q (.str (repS z k)) H
theorem foldl_cps (z : Str) : ∀ (n : Nat) (acc : Array Nat), (List.replicate n z.cps).foldl (· ++ ·) acc = acc ++ ((List.replicate n z.cps.toList).flatten).toArray
  | 0, acc => by simp
  | n + 1, acc => by
    rw [List.replicate_succ, List.foldl_cons, foldl_cps z n, List.replicate_succ, List.flatten_cons]
    apply Array.ext'
    simp [List.append_assoc]
theorem op_repS {X : Cx} : OpR X (binaryOp .Mult) rRepS := by
  intro pins s σ H x y v u Q I rx ry h
  obtain ⟨z, k, rfl, rfl, h1, h2, hl, q⟩ := h
  obtain ⟨t, rfl⟩ := rx
  obtain ⟨t', rfl⟩ := ry
  have hsz : (repS z k).length = z.length * k.toNat := by
    show ((List.replicate k.toNat z.cps.toList).flatten).toArray.size = _
    rw [List.size_toArray, PyProof.Rows.lm_len_rep_flat, Array.length_toList, Nat.mul_comm]
    rfl
  have g1 : ¬ k < -(2 ^ 63 : Int) := Int.not_lt.mpr h1
  have g2 : ¬ k ≥ (2 ^ 63 : Int) := Int.not_le.mpr h2
  refine PySem.P.mul_str (by rw [decide_eq_false g1, decide_eq_false g2]; rfl) (fun a b c => ?_) (fun a b => ?_) ?_
  · have hz : 0 ≤ k := by omega
    have : (z.length : Int) * k ≤ 16777216 := by
      have : ((z.length * k.toNat : Nat) : Int) ≤ 16777216 := Int.ofNat_le.mpr hl
      rw [Int.natCast_mul, Int.toNat_of_nonneg hz] at this
      exact this
    have h3 : (2 ^ 63 - 1 : Int) / k * k > (2 ^ 63 - 1) - k := by
      have := Int.emod_add_mul_ediv (2 ^ 63 - 1) k
      have h4 := Int.emod_lt_of_pos (2 ^ 63 - 1 : Int) (show 0 < k by omega)
      have h5 : k * ((2 ^ 63 - 1 : Int) / k) = (2 ^ 63 - 1) / k * k := Int.mul_comm _ _
      omega
    have h6 : ((2 ^ 63 - 1 : Int) / k + 1) * k ≤ (z.length : Int) * k := Int.mul_le_mul_of_nonneg_right (by omega) hz
    rw [Int.add_mul, Int.one_mul] at h6
    omega
  · unfold PySem.Builtin.Str.tooLong
    exact decide_eq_false (by rw [lim_eq]; omega)
  · have fin : ∀ (w : Value) (tk : Nat), RelV (.str (repS z k)) w → EP X pins σ Q w { s with toks := tk } := fun w tk r => ⟨.str _, H, I.tok _, r, q⟩
    split
    · rename_i hn
      have e : repS z k = Str.empty := by
        unfold repS
        rw [Int.toNat_of_nonpos (by omega)]
        rfl
      exact ⟨by decide, e ▸ fin _ _ ⟨_, rfl⟩⟩
    · split
      · rename_i hn hc
        have e : repS z k = z := by
          rcases Bool.or_eq_true_iff.mp hc with c | c
          · obtain rfl : k = 1 := by simpa using c
            exact TL.ext_tl (by show ((List.replicate 1 z.cps.toList).flatten) = z.cps.toList; simp)
          · have z0 : z.cps.toList = [] := by
              have : z.length = 0 := by simpa using c
              unfold Str.length at this
              exact List.eq_nil_of_length_eq_zero (by simpa using this)
            exact TL.ext_tl (by show ((List.replicate k.toNat z.cps.toList).flatten) = z.cps.toList; rw [z0]; simp)
        exact fin (.str z t) s.toks ⟨t, by rw [e]⟩
      · have e : (⟨(List.replicate k.toNat z.cps).foldl (· ++ ·) #[]⟩ : Str) = repS z k := by
          unfold repS
          rw [foldl_cps]
          simp
        rw [e]
        exact ⟨by rw [hsz]; exact le_lim hl, fin _ _ ⟨_, rfl⟩⟩
def dMul : D → D → Option D
  | .int i, .int j => if decide ((-(2 ^ 64) < i ∧ i < 2 ^ 64) ∨ (-(2 ^ 64) < j ∧ j < 2 ^ 64)) then some (.int (i * j)) else none
  | .str a, .int k => if decide (-(2 ^ 63) ≤ k ∧ k < 2 ^ 63 ∧ a.length * k.toNat ≤ 16777216) then some (.str (repS a k)) else none
  | .list xs, .int k => if decide (-(2 ^ 63) ≤ k ∧ k < 2 ^ 63 ∧ xs.length * k.toNat ≤ 16777216) then some (.list (List.replicate k.toNat xs).flatten) else none
  | _, _ => none
def rMulAll : R2 := fun x y H Q => rI CMul (fun i j => .int (i * j)) x y H Q ∨ rRepS x y H Q ∨ rRep x y H Q
theorem op_mulAll {X : Cx} : OpR X (binaryOp .Mult) rMulAll := op_mul.or (op_repS.or op_rep)
theorem dqs_rep {K : Fg} {B : Hp} {vs : List V} {xs : List D} (h : DqAll K B vs xs) : ∀ n : Nat, DqAll K B (List.replicate n vs).flatten (List.replicate n xs).flatten
  | 0 => .nil
  | n + 1 => by
    rw [List.replicate_succ, List.replicate_succ, List.flatten_cons, List.flatten_cons]
    exact dps_app h (dqs_rep h n)
theorem do_mul {K : Fg} : DOpO K rMulAll dMul := by
  intro B H v u x y z Q s hx hy e k
  cases x with
  | int i =>
    cases y with
    | int j =>
      rw [hx.int, hy.int]
      replace e : (if decide ((-(2 ^ 64) < i ∧ i < 2 ^ 64) ∨ (-(2 ^ 64) < j ∧ j < 2 ^ 64)) = true then some (PyData.int (i * j)) else none) = some z := e
      split at e
      · rename_i h
        cases e
        exact .inl ⟨i, j, rfl, rfl, (show (-(2 ^ 64) < i ∧ i < 2 ^ 64) ∨ (-(2 ^ 64) < j ∧ j < 2 ^ 64) from of_decide_eq_true h), k _ B H Tr.refl s (.int _)⟩
      · cases e
    | _ => cases e
  | str a =>
    cases y with
    | int n =>
      rw [hx.str, hy.int]
      replace e : (if decide (-(2 ^ 63) ≤ n ∧ n < 2 ^ 63 ∧ a.length * n.toNat ≤ 16777216) = true then some (PyData.str (repS a n)) else none) = some z := e
      split at e
      · rename_i h
        cases e
        obtain ⟨h1, h2, h3⟩ := of_decide_eq_true h
        exact .inr (.inl ⟨a, n, rfl, rfl, h1, h2, h3, k _ B H Tr.refl s (.str _)⟩)
      · cases e
    | _ => cases e
  | list xs =>
    cases y with
    | int n =>
      replace e : (if decide (-(2 ^ 63) ≤ n ∧ n < 2 ^ 63 ∧ xs.length * n.toNat ≤ 16777216) = true then some (PyData.list (List.replicate n.toNat xs).flatten) else none) = some z := e
      split at e
      · rename_i h
        cases e
        obtain ⟨h1, h2, h3⟩ := of_decide_eq_true h
        obtain ⟨p, vs, rfl, g1, g2⟩ := hx.items s
        rw [hy.int]
        refine .inr (.inr ⟨p, n, vs, rfl, rfl, g1, h1, h2, le_lim (by rw [dps_length g2]; exact h3), fun a ha => ?_⟩)
        obtain ⟨t, s', sb⟩ := tr_new (o := .lst (List.replicate n.toNat vs).flatten) ha s
        exact k _ _ _ t s' (.lst upd_same (dps_mono sb _ _ (dqs_rep g2 _)))
      · cases e
    | _ => cases e
  | _ => cases y <;> cases e
end BV

/-! BV5: comparisons, membership, items, slices, arguments, built-in functions, methods, displays. -/
namespace BV
open PySem PySem.Spec PyProof.Rows L2

/-! ### ==, != -/
def dEqB : D → D → Option Bool
  | .str a, .str b => some (a == b)
  | x, y => if SeqAt.shaped x && SeqAt.shaped y then some (PyData.eqv x y) else none
def dNeB (x y : D) : Option Bool := (dEqB x y).map not
theorem dEqB_cases {x y : D} {c : Bool} (e : dEqB x y = some c) : (∃ a b, x = .str a ∧ y = .str b ∧ c = (a == b)) ∨ (SeqAt.shaped x = true ∧ SeqAt.shaped y = true ∧ c = PyData.eqv x y) := by
  have gen : (if SeqAt.shaped x && SeqAt.shaped y then some (PyData.eqv x y) else none) = some c → (SeqAt.shaped x = true ∧ SeqAt.shaped y = true ∧ c = PyData.eqv x y) := fun h => by
    split at h
    · rename_i g
      rw [Bool.and_eq_true] at g
      exact ⟨g.1, g.2, (Option.some.inj h).symm⟩
    · cases h
  cases x with
  | str a =>
    cases y with
    | str b => exact .inl ⟨a, b, rfl, rfl, (Option.some.inj e).symm⟩
    | _ => exact .inr (gen e)
  | _ => cases y <;> exact .inr (gen e)
def rEqAll (K : Fg) : R2 := fun x y H Q => rEq x y H Q ∨ rEqD K x y H Q
def rNeAll (K : Fg) : R2 := fun x y H Q => rNe x y H Q ∨ rNeD K x y H Q
theorem op_eqAll {X : Cx} (hu : X.A.units + 64 < cLine) : OpR X (compareOp .Eq) (rEqAll X.K) := op_eq.or (op_eqD hu)
theorem op_neAll {X : Cx} (hu : X.A.units + 64 < cLine) : OpR X (compareOp .NotEq) (rNeAll X.K) := op_ne.or (op_neD hu)
theorem do_eq {K : Fg} : DOpBO K (rEqAll K) dEqB := by
  intro B H v u x y c Q s hx hy e k
  rcases dEqB_cases e with ⟨a, b, rfl, rfl, rfl⟩ | ⟨h1, h2, rfl⟩
  · rw [hx.str, hy.str]
    exact .inl ⟨rfl, by rw [dec_str]; exact k⟩
  · exact .inr ⟨x, y, hx.dp s, hy.dp s, h1, h2, k⟩
theorem do_ne {K : Fg} : DOpBO K (rNeAll K) dNeB := by
  intro B H v u x y c Q s hx hy e k
  obtain ⟨c', e', rfl⟩ := Option.map_eq_some_iff.mp e
  rcases dEqB_cases e' with ⟨a, b, rfl, rfl, rfl⟩ | ⟨h1, h2, rfl⟩
  · rw [hx.str, hy.str]
    exact .inl ⟨rfl, by rw [dec_str]; exact k⟩
  · exact .inr ⟨x, y, hx.dp s, hy.dp s, h1, h2, k⟩

/-! ### order -/
def dOrd (f : Int → Int → Bool) (g : Str → Str → Bool) : D → D → Option Bool
  | .int i, .int j => some (f i j)
  | .str a, .str b => some (g a b)
  | _, _ => none
def rOrd (f : Int → Int → Bool) (g : Str → Str → Bool) : R2 := fun x y H Q => rI0 (fun i j => .bl (f i j)) x y H Q ∨ ∃ i j, x = .str i ∧ y = .str j ∧ Q (.bl (g i j)) H
theorem do_ord {K : Fg} {f : Int → Int → Bool} {g : Str → Str → Bool} : DOpBO K (rOrd f g) (dOrd f g) := by
  intro B H v u x y c Q s hx hy e k
  cases x with
  | int i =>
    cases y with
    | int j => rw [hx.int, hy.int]; cases e; exact .inl ⟨i, j, rfl, rfl, k⟩
    | _ => cases e
  | str a =>
    cases y with
    | str b => rw [hx.str, hy.str]; cases e; exact .inr ⟨a, b, rfl, rfl, k⟩
    | _ => cases e
  | _ => cases y <;> cases e
def sLt (a b : Str) : Bool := decide (a.cps.toList < b.cps.toList)
def dLtB : D → D → Option Bool := dOrd (fun i j => decide (i < j)) sLt
def dLeB : D → D → Option Bool := dOrd (fun i j => decide (i ≤ j)) fun a b => !sLt b a
def dGtB : D → D → Option Bool := dOrd (fun i j => decide (j < i)) fun a b => sLt b a
def dGeB : D → D → Option Bool := dOrd (fun i j => decide (j ≤ i)) fun a b => !sLt a b
theorem op_ltO {X : Cx} : OpR X (compareOp .Lt) (rOrd (fun i j => decide (i < j)) sLt) := op_lt.or op_lt_str
theorem op_leO {X : Cx} : OpR X (compareOp .LtE) (rOrd (fun i j => decide (i ≤ j)) fun a b => !sLt b a) := op_le.or op_le_str
theorem op_gtO {X : Cx} : OpR X (compareOp .Gt) (rOrd (fun i j => decide (j < i)) fun a b => sLt b a) := op_gt.or op_gt_str
theorem op_geO {X : Cx} : OpR X (compareOp .GtE) (rOrd (fun i j => decide (j ≤ i)) fun a b => !sLt a b) := op_ge.or op_ge_str

/-! ### is None -/
def isN : D → Bool
  | .none => true
  | _ => false
def dIsB (x y : D) : Option Bool := match y with
  | .none => some (isN x)
  | _ => none
def dIsNB (x y : D) : Option Bool := (dIsB x y).map not
theorem isnone_v {K : Fg} {B H : Hp} {v : V} {x : D} (h : Pk K B H v x) : decide (v = .non) = isN x := by
  rcases h with h | ⟨p, vs, xs, rfl, rfl, _, _⟩
  · cases h <;> rfl
  · rfl
theorem do_is {K : Fg} : DOpBO K (fun x y H Q => y = .non ∧ Q (.bl (decide (x = .non))) H) dIsB := by
  intro B H v u x y c Q s hx hy e k
  cases y with
  | none =>
    cases e
    exact ⟨hy.none, by rw [isnone_v hx]; exact k⟩
  | _ => cases e
theorem do_isN {K : Fg} : DOpBO K (fun x y H Q => y = .non ∧ Q (.bl (!decide (x = .non))) H) dIsNB := by
  intro B H v u x y c Q s hx hy e k
  cases y with
  | none =>
    cases e
    exact ⟨hy.none, by rw [isnone_v hx]; exact k⟩
  | _ => cases e

/-! ### in -/
def dInB : D → D → Option Bool
  | .str a, .str b => match a.cps.toList with
    | [c] => some (decide (c ∈ b.cps.toList))
    | _ => some (!(Builtin.Str.occurrences b a 0 b.length 1).isEmpty)
  | x, .list ys => if SeqAt.shaped x && SeqAt.shaped (.list ys) then some (ys.any fun z => PyData.eqv z x) else none
  | x, .tuple ys => if SeqAt.shaped x && SeqAt.shaped (.tuple ys) then some (ys.any fun z => PyData.eqv z x) else none
  | _, _ => none
def dNinB (x y : D) : Option Bool := (dInB x y).map not
def rInT (K : Fg) (n : Bool → Bool) : R2 := fun x y H Q => ∃ d ds, L2.Dp K H x d ∧ L2.Dp K H y (.tuple ds) ∧ SeqAt.shaped d = true ∧ SeqAt.shaped (.tuple ds) = true ∧ Q (.bl (n (ds.any fun z => PyData.eqv z d))) H
theorem room_tup {A : Around} {d : D} {ds : List D} (h : SeqAt.shaped d = true) (hu : A.units + 65 < cLine) : A.units + 1 + min (PyData.depthAll ds) d.depth < cLine := by
  have := SeqAt.depth_of_shaped h
  have := Nat.min_le_right (PyData.depthAll ds) d.depth
  omega
theorem op_inT {X : Cx} (hu : X.A.units + 65 < cLine) : OpR X (compareOp .In) (rInT X.K id) := by
  rintro pins s σ H x y v u Q I rx ry ⟨d, ds, hd, he, sd, se, q⟩
  obtain ⟨as, r1⟩ := Dp.reads I d x v hd rx
  obtain ⟨bs, r2⟩ := Dp.reads I (.tuple ds) y u he ry
  exact SeqAt.in_tuple_reads r2 r1 (SeqAt.canLay_of_shaped se) (SeqAt.canLay_of_shaped sd) (room_tup sd hu) ⟨.bl _, H, I, rfl, q⟩
theorem op_ninT {X : Cx} (hu : X.A.units + 65 < cLine) : OpR X (compareOp .NotIn) (rInT X.K not) := by
  rintro pins s σ H x y v u Q I rx ry ⟨d, ds, hd, he, sd, se, q⟩
  obtain ⟨as, r1⟩ := Dp.reads I d x v hd rx
  obtain ⟨bs, r2⟩ := Dp.reads I (.tuple ds) y u he ry
  exact SeqAt.notIn_tuple_reads r2 r1 (SeqAt.canLay_of_shaped se) (SeqAt.canLay_of_shaped sd) (room_tup sd hu) ⟨.bl _, H, I, rfl, q⟩
def rInAll (K : Fg) (n : Bool → Bool) (rl : R2) : R2 := fun x y H Q => (∃ (c : Nat) (z : Str), x = .str ⟨#[c]⟩ ∧ y = .str z ∧ Q (.bl (n (decide (c ∈ z.cps.toList)))) H) ∨
  (∃ i j, x = .str i ∧ y = .str j ∧ Q (.bl (n (!(Builtin.Str.occurrences j i 0 j.length 1).isEmpty))) H) ∨ rl x y H Q ∨ rInT K n x y H Q
theorem op_inAll {X : Cx} (hu : X.A.units + 65 < cLine) : OpR X (compareOp .In) (rInAll X.K id (rInD X.K)) := op_in_sign.or (op_in_str.or ((op_inD hu).or (op_inT hu)))
theorem op_ninAll {X : Cx} (hu : X.A.units + 65 < cLine) : OpR X (compareOp .NotIn) (rInAll X.K not (rNotInD X.K)) := op_notIn_sign.or (op_notin_str.or ((op_notInD hu).or (op_ninT hu)))
theorem do_inG {K : Fg} {n : Bool → Bool} {rl : R2} (hl : ∀ x y H Q d ds, L2.Dp K H x d → L2.Dp K H y (.list ds) → SeqAt.shaped d = true → SeqAt.shaped (.list ds) = true → Q (.bl (n (ds.any fun z => PyData.eqv z d))) H → rl x y H Q)
    {B H : Hp} {v u : V} {x y : D} {c : Bool} {Q : VK} (s : Same B H) (hx : Pk K B H v x) (hy : Pk K B H u y) (e : dInB x y = some c) (k : Q (.bl (n c)) H) : rInAll K n rl v u H Q := by
  cases y with
  | list ys =>
    have e' : (if SeqAt.shaped x && SeqAt.shaped (.list ys) then some (ys.any fun z => PyData.eqv z x) else none) = some c := by cases x <;> exact e
    split at e'
    · rename_i g
      rw [Bool.and_eq_true] at g
      cases e'
      exact .inr (.inr (.inl (hl v u H Q x ys (hx.dp s) (hy.dp s) g.1 g.2 k)))
    · cases e'
  | tuple ys =>
    have e' : (if SeqAt.shaped x && SeqAt.shaped (.tuple ys) then some (ys.any fun z => PyData.eqv z x) else none) = some c := by cases x <;> exact e
    split at e'
    · rename_i g
      rw [Bool.and_eq_true] at g
      cases e'
      exact .inr (.inr (.inr ⟨x, ys, hx.dp s, hy.dp s, g.1, g.2, k⟩))
    · cases e'
  | str b =>
    cases x with
    | str a =>
      rw [hx.str, hy.str]
      replace e : (match a.cps.toList with | [c] => some (decide (c ∈ b.cps.toList)) | _ => some (!(Builtin.Str.occurrences b a 0 b.length 1).isEmpty)) = some c := e
      split at e
      · rename_i c0 hc
        cases e
        have : a = ⟨#[c0]⟩ := TL.ext_tl hc
        exact .inl ⟨c0, b, by rw [this], rfl, k⟩
      · cases e
        exact .inr (.inl ⟨a, b, rfl, rfl, k⟩)
    | _ => cases e
  | _ => cases x <;> cases e
theorem do_in {K : Fg} : DOpBO K (rInAll K id (rInD K)) dInB := fun B H v u x y c Q s hx hy e k =>
  do_inG (fun x y H Q d ds h1 h2 h3 h4 q => ⟨d, ds, h1, h2, h3, h4, q⟩) s hx hy e k
theorem do_nin {K : Fg} : DOpBO K (rInAll K not (rNotInD K)) dNinB := fun B H v u x y c Q s hx hy e k => by
  obtain ⟨c', e', rfl⟩ := Option.map_eq_some_iff.mp e
  exact do_inG (fun x y H Q d ds h1 h2 h3 h4 q => ⟨d, ds, h1, h2, h3, h4, q⟩) s hx hy e' k

/-! ### items, slices -/
def dIx : D → D → Option D
  | .list xs, .int i => atI xs i
  | .tuple xs, .int i => atI xs i
  | .str z, .int i => if z.length ≤ 16777216 then (atI z.cps.toList i).map fun c => .str ⟨#[c]⟩ else none
  | _, _ => none
theorem atI_dqs {K : Fg} {B : Hp} {vs : List V} {xs : List D} {i : Int} {x : D} (h : DqAll K B vs xs) (e : atI xs i = some x) : ∃ v, atI vs i = some v ∧ Dq K B v x := by
  unfold atI at e ⊢
  rw [dps_length h]
  obtain ⟨j, e1, e2⟩ := Option.bind_eq_some_iff.mp e
  obtain ⟨v, h1, h2⟩ := dps_get j h e2
  exact ⟨v, by rw [e1]; exact h1, h2⟩
theorem do_ix {K : Fg} : DOpO K (rIx K) dIx := by
  intro B H v u x y z Q s hx hy e k
  cases y with
  | int i =>
    rw [hy.int]
    cases x with
    | list xs =>
      obtain ⟨p, vs, rfl, h1, h2⟩ := hx.items s
      obtain ⟨w, e1, e2⟩ := atI_dqs h2 e
      exact .inl ⟨p, vs, i, w, rfl, rfl, SqL.of h1, e1, k w B H Tr.refl s e2⟩
    | tuple xs =>
      obtain ⟨p, vs, rfl, h1, h2⟩ := hx.tup s
      obtain ⟨w, e1, e2⟩ := atI_dqs h2 e
      exact .inr (.inl ⟨p, vs, i, w, rfl, rfl, h1, e1, k w B H Tr.refl s e2⟩)
    | str a =>
      rw [hx.str]
      replace e : (if a.length ≤ 16777216 then (atI a.cps.toList i).map fun c => PyData.str ⟨#[c]⟩ else none) = some z := e
      split at e
      · rename_i hl
        obtain ⟨c, e1, rfl⟩ := Option.map_eq_some_iff.mp e
        exact .inr (.inr ⟨a, i, c, rfl, rfl, le_lim hl, e1, k _ B H Tr.refl s (.str _)⟩)
      · cases e
    | _ => cases e
  | _ => cases x <;> cases e
/-- the cut of a list -/
def cutD (xs : List D) (lo hi : Option Int) : List D := (xs.drop (HT.sIx xs.length 0 lo)).take (HT.sIx xs.length xs.length hi - HT.sIx xs.length 0 lo)
theorem cut_dqs {K : Fg} {B : Hp} {vs : List V} {xs : List D} (h : DqAll K B vs xs) (lo hi : Option Int) : DqAll K B (cutV vs lo hi) (cutD xs lo hi) := by
  unfold cutV cutD
  rw [dps_length h]
  exact dps_take _ (dps_drop _ h)
def dSl : D → Option Int → Option Int → Option D
  | .list xs, lo, hi => some (.list (cutD xs lo hi))
  | .tuple xs, lo, hi => some (.tuple (cutD xs lo hi))
  | .str z, lo, hi => if z.length ≤ 16777216 then some (.str (cutS z lo hi)) else none
  | _, _, _ => none
def rSlAll (K : Fg) : V → Option Int → Option Int → Hp → VK → Prop := fun x lo hi H Q => rSlL K x lo hi H Q ∨ rSlA K x lo hi H Q ∨ rSlS x lo hi H Q
theorem sl_all {X : Cx} : SlR X (rSlAll X.K) := sl_list.or (sl_tupA.or sl_str)
def rO : Hp → Hp → Option Int → Option Int → List Addr → Prop := fun _ _ x v A2 => A2 = [] ∧ v = x
theorem rO_nil : ∀ B H x v A2, rO B H x v A2 → A2 = [] := fun _ _ _ _ _ h => h.1
def toD (T : Tb) (m : Env → RE (Option Int)) : TO := fun σ H Q => gen T rO m σ H Q
def oNone : Env → RE (Option Int) := fun env => .ok none env
def oSome (m : Env → RE D) : Env → RE (Option Int) := fun env => (m env).bind fun x env => match x with
  | .int i => .ok (some i) env
  | _ => .no
def eSl (m : Env → RE D) (lo hi : Env → RE (Option Int)) : Env → RE D := fun env => (m env).bind fun x env => (lo env).bind fun l env => (hi env).bind fun h env => lft (dSl x l h) env
section
variable {X : Cx} {T : Tb} {a : Expr} {pos p2 : Pos} {m : Env → RE D} {ml mh : Env → RE (Option Int)} {lo hi : Option Expr}
theorem pow {e : Option Expr} {t t' : TO} (h : PO X e t) (i : ∀ σ H Q, t' σ H Q → t σ H Q) : PO X e t' := ⟨fun pins s σ H Q I q => h.run pins s σ H Q I (i σ H Q q)⟩
theorem bo_none : PO X none (toD T oNone) := pow po_none fun σ H Q ⟨B, h⟩ => gB_ok h ⟨rfl, rfl⟩
theorem bo_some (h : PE X a (teD T m)) : PO X (some a) (toD T (oSome m)) := pow (po_some h) fun σ H Q h => gen_mono (seqE (R1 := rD T.K) h rD_nil) fun v H1 ⟨x, B1, ⟨_, hx⟩, h1⟩ => by
  cases x with
  | int i =>
    cases hx
    exact ⟨i, rfl, gB_ok h1 ⟨rfl, rfl⟩⟩
  | _ => exact (let ⟨_, _, _, z⟩ := h1; z).elim
theorem be_sl (hK : T.K = X.K) (ha : PE X a (teD T m)) (hl : PO X lo (toD T ml)) (hh : PO X hi (toD T mh)) : PE X (.Subscript a (.Slice lo hi none p2) pos) (teD T (eSl m ml mh)) :=
  pew (pe_slice sl_all ha hl hh) fun σ H Q h => gen_mono (seqE (R1 := rD T.K) h rD_nil) fun v H1 ⟨x, B1, ⟨_, hx⟩, h1⟩ =>
    gB_mono (seqB (R1 := rO) h1 rO_nil) fun l H2 ⟨l', B2, sb, ⟨_, el⟩, h2⟩ => gB_mono (seqB (R1 := rO) h2 rO_nil) fun u H3 ⟨u', B3, sb2, ⟨_, eu⟩, h3⟩ => by
      subst el eu
      obtain ⟨z, e, s, k⟩ := doneB h3
      have dx := dp_mono sb2 _ _ (dp_mono sb _ _ hx)
      have px : Pk T.K B3 H3 v x := .inl dx
      rw [hK] at px dx
      cases x with
      | list xs =>
        cases e
        obtain ⟨p, vs, rfl, g1, g2⟩ := px.items s
        refine .inl ⟨p, vs, rfl, SqL.of g1, fun q hq => ?_⟩
        obtain ⟨t, s', sb⟩ := tr_new (o := .lst (cutV vs l u)) hq s
        exact k _ _ _ t s' ⟨rfl, hK ▸ .lst upd_same (dps_mono sb _ _ (cut_dqs g2 l u))⟩
      | tuple xs =>
        cases e
        obtain ⟨p, vs, rfl, g1, g2⟩ := px.tup s
        refine .inr (.inl ⟨p, vs, rfl, g1, fun hw => ?_, fun hw q hq => ?_⟩)
        · have ew : cutD xs l u = xs := by
            unfold cutD
            rw [← dps_length g2, hw.1, hw.2, dps_length g2]
            simp
          rw [ew] at k
          exact k _ _ _ Tr.refl s ⟨rfl, hK ▸ dx⟩
        · obtain ⟨t, s', sb⟩ := tr_new (o := .tup (cutV vs l u)) hq s
          exact k _ _ _ t s' ⟨rfl, hK ▸ .tup (SqT.of upd_same) (dps_mono sb _ _ (cut_dqs g2 l u))⟩
      | str a =>
        rw [px.str]
        replace e : (if a.length ≤ 16777216 then some (PyData.str (cutS a l u)) else none) = some z := e
        split at e
        · rename_i hl
          cases e
          exact .inr (.inr ⟨a, rfl, le_lim hl, k _ B3 H3 Tr.refl s ⟨rfl, .str _⟩⟩)
        · cases e
      | _ => cases e
end
end BV

/-! BV6: arguments, built-in functions, methods, displays, chains. -/
namespace BV
open PySem PySem.Spec PyProof.Rows L2

/-! ### arguments -/
def aNil : Env → RE (List D) := fun env => .ok [] env
def aCons (m : Env → RE D) (r : Env → RE (List D)) : Env → RE (List D) := fun env => (m env).bind fun x env => (r env).bind fun xs env => .ok (x :: xs) env
def aOne (m : Env → RE D) : Env → RE (List D) := fun env => (m env).bind fun x env => .ok [x] env
section
variable {X : Cx} {T : Tb} {e : Expr} {es : List Expr} {m : Env → RE D} {ms : Env → RE (List D)}
theorem gB_okB {α β : Type} {T : Tb} {R : Hp → Hp → α → β → List Addr → Prop} {x : α} {B : Hp} {σ : St} {H : Hp} {Q : β → Hp → Prop} (h : gB T R (fun env => .ok x env) B σ H Q) : Same B H ∧ ∀ v, R B H x v [] → Q v H := by
  obtain ⟨env, A, g, h⟩ := h
  exact ⟨g.bh, fun v r => h v B H A [] (by simpa using Tr.refl) g r List.nodup_nil fun _ z => nomatch z⟩
theorem ba_nil : PA X [] (taD T aNil) := paw pa_nil fun σ H Q ⟨B, h⟩ => gB_ok h ⟨rfl, .nil⟩
theorem ba_cons (h : PE X e (teD T m)) (hr : PA X es (taD T ms)) (hs : starEach (e :: es) X.env = (false, eval e X.env) :: starEach es X.env := by rfl) : PA X (e :: es) (taD T (aCons m ms)) :=
  paw (pa_cons h hr hs) fun σ H Q h => gen_mono (seqE (R1 := rD T.K) h rD_nil) fun v H1 ⟨x, B1, ⟨_, hx⟩, h1⟩ =>
    gB_mono (seqB (R1 := rA T.K) h1 rA_nil) fun vs H2 ⟨xs, B2, sb, ⟨_, hxs⟩, h2⟩ => gB_ok h2 ⟨rfl, .cons (dp_mono sb _ _ hx) hxs⟩
theorem ba_p (h : PA X es (taD T ms)) : PA X es (taP T ms) := paw h fun σ H Q ⟨B, env, A, g, q⟩ => ⟨B, env, A, g, q.imp fun _ _ _ _ _ r => ⟨r.1, pkall_of r.2⟩⟩
theorem ba_one (h : PE X e (teP T m)) (hs : starEach [e] X.env = (false, eval e X.env) :: starEach [] X.env := by rfl) : PA X [e] (taP T (aOne m)) :=
  paw (pa_cons h pa_nil hs) fun σ H Q h => gen_mono (seqE (R1 := rP T.K) h rP_nil) fun v H1 ⟨x, B1, ⟨_, hx⟩, h1⟩ => by
    exact gB_ok h1 ⟨rfl, .cons hx .nil⟩
end

/-! ### a built-in function, a method -/
/-- the call r on values gives the data f -/
def DCall (K : Fg) (r : List V → Hp → VK → Prop) (f : List D → Option D) : Prop := ∀ (B H : Hp) (vs : List V) (xs : List D) (z : D) (Q : VK), Same B H → PkAll K B H vs xs → f xs = some z →
  (∀ w B' H', Tr B H [] B' H' [] → Same B' H' → Dq K B' w z → Q w H') → r vs H Q
/-- .. a new list of data -/
def NCall (K : Fg) (r : List V → Hp → VK → Prop) (f : List D → Option (List D)) : Prop := ∀ (B H : Hp) (vs : List V) (xs : List D) (ys : List D) (Q : VK), Same B H → PkAll K B H vs xs → f xs = some ys →
  (∀ p ws, H p = none → DqAll K B ws ys → Q (.ref p) (upd H p (.lst ws))) → r vs H Q
def eCB (f : List D → Option D) (ms : Env → RE (List D)) : Env → RE D := fun env => (ms env).bind fun xs env => lft (f xs) env
def nCB (f : List D → Option (List D)) (ms : Env → RE (List D)) : Env → RE Sl := fun env => (ms env).bind fun xs env => lft ((f xs).map .l) env
/-- the type whose method it is -/
def tyD : D → String
  | .str _ => "str"
  | .list _ => "list"
  | .int _ => "int"
  | _ => ""
theorem tyV_of {K : Fg} {B H : Hp} {v : V} {x : D} {Ty : String} (s : Same B H) (h : Dq K B v x) (e : tyD x = Ty) (hn : Ty ≠ "") : tyV K Ty v H := by
  subst e
  cases h with
  | str y => rfl
  | int y => rfl
  | lst h1 _ => exact .inl ⟨rfl, _, SqL.of (s _ _ h1)⟩
  | _ => exact absurd rfl hn
def DMt (K : Fg) (r : V → List V → Hp → VK → Prop) (f : D → List D → Option D) : Prop := ∀ (B H : Hp) (v : V) (vs : List V) (x : D) (xs : List D) (z : D) (Q : VK), Same B H → Dq K B v x → PkAll K B H vs xs → f x xs = some z →
  (∀ w B' H', Tr B H [] B' H' [] → Same B' H' → Dq K B' w z → Q w H') → r v vs H Q
def NMt (K : Fg) (r : V → List V → Hp → VK → Prop) (f : D → List D → Option (List D)) : Prop := ∀ (B H : Hp) (v : V) (vs : List V) (x : D) (xs : List D) (ys : List D) (Q : VK), Same B H → Dq K B v x → PkAll K B H vs xs → f x xs = some ys →
  (∀ p ws, H p = none → DqAll K B ws ys → Q (.ref p) (upd H p (.lst ws))) → r v vs H Q
def tyChk (Ty : String) (x : D) (env : Env) : RE Unit := if tyD x = Ty then .ok () env else .no
def eBM (Ty : String) (f : D → List D → Option D) (o : Env → RE D) (ms : Env → RE (List D)) : Env → RE D := fun env => (o env).bind fun x env => (tyChk Ty x env).bind fun _ env => (ms env).bind fun xs env => lft (f x xs) env
def nBM (Ty : String) (f : D → List D → Option (List D)) (o : Env → RE D) (ms : Env → RE (List D)) : Env → RE Sl := fun env => (o env).bind fun x env => (tyChk Ty x env).bind fun _ env => (ms env).bind fun xs env => lft ((f x xs).map .l) env
section
variable {X : Cx} {T : Tb} {e : Expr} {m mo : Env → RE D} {ms : Env → RE (List D)} {Ty : String}
theorem be_cb {r : List V → Hp → VK → Prop} {f : List D → Option D} (h : PE X e (tCB r (taP T ms))) (hr : DCall T.K r f) : PE X e (teD T (eCB f ms)) :=
  pew h fun σ H Q h => gen_mono (seqE (R1 := rAP T.K) h rAP_nil) fun vs H1 ⟨xs, B1, ⟨_, hx⟩, h1⟩ => by
    obtain ⟨z, e, s, k⟩ := doneB h1
    exact hr B1 H1 vs xs z Q s hx e fun w B' H' t s' d => k w B' H' t s' ⟨rfl, d⟩
theorem bn_cb {r : List V → Hp → VK → Prop} {f : List D → Option (List D)} (h : PE X e (tCB r (taP T ms))) (hr : NCall T.K r f) : PE X e (teN T (nCB f ms)) :=
  pew h fun σ H Q h => gen_mono (seqE (R1 := rAP T.K) h rAP_nil) fun vs H1 ⟨xs, B1, ⟨_, hx⟩, h1⟩ => by
    obtain ⟨z, e, s, k⟩ := doneN h1
    obtain ⟨ys, e1, e2⟩ := Option.map_eq_some_iff.mp e
    subst e2
    refine hr B1 H1 vs xs ys Q s hx e1 fun p ws hp d => ?_
    obtain ⟨t, s', bn⟩ := tr_own (o := .lst ws) hp s
    exact k (.ref p) B1 _ [p] t s' (.l bn upd_same d) (by simp) fun a ha => by rw [List.mem_singleton.mp ha]; exact hp
theorem gB_chk {α β : Type} {R : Hp → Hp → α → β → List Addr → Prop} {x : D} {k : Env → RE α} {B : Hp} {σ : St} {H : Hp} {Q : β → Hp → Prop} (h : gB T R (fun env => (tyChk Ty x env).bind fun _ env => k env) B σ H Q) : tyD x = Ty ∧ gB T R k B σ H Q := by
  obtain ⟨env, A, g, h⟩ := h
  unfold tyChk at h
  split at h
  · rename_i q
    exact ⟨q, env, A, g, h⟩
  · exact h.elim
theorem be_bm {r : V → List V → Hp → VK → Prop} {f : D → List D → Option D} (hK : T.K = X.K) (h : PE X e (tBM X.K Ty r (teD T mo) (taP T ms))) (hr : DMt T.K r f) (hn : Ty ≠ "" := by decide) : PE X e (teD T (eBM Ty f mo ms)) :=
  pew h fun σ H Q h => gen_mono (seqE (R1 := rD T.K) h rD_nil) fun v H1 ⟨x, B1, ⟨_, hx⟩, h1⟩ => by
    obtain ⟨et, h2⟩ := gB_chk h1
    have sb : Same B1 H1 := let ⟨_, _, g, _⟩ := h2; g.bh
    refine ⟨hK ▸ tyV_of sb hx et hn, gB_mono (seqB (R1 := rAP T.K) h2 rAP_nil) fun vs H3 ⟨xs, B3, sb3, ⟨_, hxs⟩, h3⟩ => ?_⟩
    obtain ⟨z, e, s, k⟩ := doneB h3
    exact hr B3 H3 v vs x xs z Q s (dp_mono sb3 _ _ hx) hxs e fun w B' H' t s' d => k w B' H' t s' ⟨rfl, d⟩
theorem bn_bm {r : V → List V → Hp → VK → Prop} {f : D → List D → Option (List D)} (hK : T.K = X.K) (h : PE X e (tBM X.K Ty r (teD T mo) (taP T ms))) (hr : NMt T.K r f) (hn : Ty ≠ "" := by decide) : PE X e (teN T (nBM Ty f mo ms)) :=
  pew h fun σ H Q h => gen_mono (seqE (R1 := rD T.K) h rD_nil) fun v H1 ⟨x, B1, ⟨_, hx⟩, h1⟩ => by
    obtain ⟨et, h2⟩ := gB_chk h1
    have sb : Same B1 H1 := let ⟨_, _, g, _⟩ := h2; g.bh
    refine ⟨hK ▸ tyV_of sb hx et hn, gB_mono (seqB (R1 := rAP T.K) h2 rAP_nil) fun vs H3 ⟨xs, B3, sb3, ⟨_, hxs⟩, h3⟩ => ?_⟩
    obtain ⟨z, e, s, k⟩ := doneN h3
    obtain ⟨ys, e1, e2⟩ := Option.map_eq_some_iff.mp e
    subst e2
    refine hr B3 H3 v vs x xs ys Q s (dp_mono sb3 _ _ hx) hxs e1 fun p ws hp d => ?_
    obtain ⟨t, s', bn⟩ := tr_own (o := .lst ws) hp s
    exact k (.ref p) B3 _ [p] t s' (.l bn upd_same d) (by simp) fun a ha => by rw [List.mem_singleton.mp ha]; exact hp
/-- a method without arguments -/
def eBM0 (Ty : String) (f : D → List D → Option D) (o : Env → RE D) : Env → RE D := fun env => (o env).bind fun x env => (tyChk Ty x env).bind fun _ env => lft (f x []) env
def nBM0 (Ty : String) (f : D → List D → Option (List D)) (o : Env → RE D) : Env → RE Sl := fun env => (o env).bind fun x env => (tyChk Ty x env).bind fun _ env => lft ((f x []).map .l) env
theorem be_bm0 {r : V → List V → Hp → VK → Prop} {f : D → List D → Option D} (hK : T.K = X.K) (h : PE X e (tBM0 X.K Ty r (teD T mo))) (hr : DMt T.K r f) (hn : Ty ≠ "" := by decide) : PE X e (teD T (eBM0 Ty f mo)) :=
  pew h fun σ H Q h => gen_mono (seqE (R1 := rD T.K) h rD_nil) fun v H1 ⟨x, B1, ⟨_, hx⟩, h1⟩ => by
    obtain ⟨et, h2⟩ := gB_chk h1
    obtain ⟨z, e, s, k⟩ := doneB h2
    exact ⟨hK ▸ tyV_of s hx et hn, hr B1 H1 v [] x [] z Q s hx .nil e fun w B' H' t s' d => k w B' H' t s' ⟨rfl, d⟩⟩
theorem bn_bm0 {r : V → List V → Hp → VK → Prop} {f : D → List D → Option (List D)} (hK : T.K = X.K) (h : PE X e (tBM0 X.K Ty r (teD T mo))) (hr : NMt T.K r f) (hn : Ty ≠ "" := by decide) : PE X e (teN T (nBM0 Ty f mo)) :=
  pew h fun σ H Q h => gen_mono (seqE (R1 := rD T.K) h rD_nil) fun v H1 ⟨x, B1, ⟨_, hx⟩, h1⟩ => by
    obtain ⟨et, h2⟩ := gB_chk h1
    obtain ⟨z, e, s, k⟩ := doneN h2
    obtain ⟨ys, e1, e2⟩ := Option.map_eq_some_iff.mp e
    subst e2
    refine ⟨hK ▸ tyV_of s hx et hn, hr B1 H1 v [] x [] ys Q s hx .nil e1 fun p ws hp d => ?_⟩
    obtain ⟨t, s', bn⟩ := tr_own (o := .lst ws) hp s
    exact k (.ref p) B1 _ [p] t s' (.l bn upd_same d) (by simp) fun a ha => by rw [List.mem_singleton.mp ha]; exact hp

/-! ### displays -/
def eTup (ms : Env → RE (List D)) : Env → RE D := fun env => (ms env).bind fun xs env => if xs.length ≤ 16777216 then .ok (.tuple xs) env else .no
def nLst (ms : Env → RE (List D)) : Env → RE Sl := fun env => (ms env).bind fun xs env => lft (if xs.length ≤ 16777216 then some (.l xs) else none) env
theorem be_tup {es : List Expr} {x1 : Nat} {pos : Pos} (h : PA X es (taD T ms)) : PE X (.Tuple es x1 pos) (teD T (eTup ms)) :=
  pew (pe_tup h) fun σ H Q h => gen_mono (seqE (R1 := rA T.K) h rA_nil) fun vs H1 ⟨xs, B1, ⟨_, hx⟩, env, A, g, h1⟩ => by
    split at h1
    · rename_i hl
      refine ⟨le_lim (by rw [dps_length hx]; exact hl), fun p hp => ?_⟩
      obtain ⟨z, e, s, k⟩ := doneB (T := T) (R := rD T.K) (o := some (PyData.tuple xs)) (B := B1) (σ := σ) (H := H1) (Q := Q) ⟨env, A, g, h1⟩
      cases e
      obtain ⟨t, s', sb⟩ := tr_new (o := .tup vs) hp s
      exact k _ _ _ t s' ⟨rfl, .tup (SqT.of upd_same) (dps_mono sb _ _ hx)⟩
    · exact h1.elim
theorem bn_lst {es : List Expr} {pos : Pos} (h : PA X es (taD T ms)) : PE X (.List es pos) (teN T (nLst ms)) :=
  pew (pe_lst h) fun σ H Q h => gen_mono (seqE (R1 := rA T.K) h rA_nil) fun vs H1 ⟨xs, B1, ⟨_, hx⟩, h1⟩ => by
    obtain ⟨z, e, s, k⟩ := doneN h1
    split at e
    · rename_i hl
      cases e
      refine ⟨le_lim (by rw [dps_length hx]; exact hl), fun p hp => ?_⟩
      obtain ⟨t, s', bn⟩ := tr_own (o := .lst vs) hp s
      exact k (.ref p) B1 _ [p] t s' (.l bn upd_same hx) (by simp) fun a ha => by rw [List.mem_singleton.mp ha]; exact hp
    · cases e

/-! ### unary minus; a chain of two comparisons -/
def eNeg (m : Env → RE D) : Env → RE D := fun env => (m env).bind fun x env => match x with
  | .int i => .ok (.int (-i)) env
  | _ => .no
theorem be_neg {a : Expr} {pos : Pos} (h : PE X a (teD T m)) : PE X (.UnaryOp .USub a pos) (teD T (eNeg m)) :=
  pew (pe_un un_neg h) fun σ H Q h => gen_mono (seqE (R1 := rD T.K) h rD_nil) fun v H1 ⟨x, B1, ⟨_, hx⟩, h1⟩ => by
    cases x with
    | int i =>
      cases hx
      exact ⟨i, rfl, gB_ok h1 ⟨rfl, .int _⟩⟩
    | _ => exact (let ⟨_, _, _, z⟩ := h1; z).elim
def chainG {α : Type} (ret : Bool → α) (f g : D → D → Option Bool) (a b c : Env → RE D) : Env → RE α := fun env => (a env).bind fun x env => (b env).bind fun y env => (lft (f x y) env).bind fun k env =>
  if k then (c env).bind fun z env => lft ((g y z).map ret) env else .ok (ret false) env
def eChain := @chainG D PyData.bool
def tChainD := @chainG Bool id
theorem chain_go {r r' : R2} {f g : D → D → Option Bool} (hr : DOpB T.K r f) (hr' : DOpB T.K r' g) {α β : Type} {R : Hp → Hp → α → β → List Addr → Prop} {ret : Bool → α} {ma mb mc : Env → RE D} {σ : St} {H : Hp} {Q : β → Hp → Prop} {Q' : VK}
    (fin : ∀ B H c, (∀ v, R B H (ret c) v [] → Q v H) → Q' (.bl c) H)
    (h : gen T R (fun env => (ma env).bind fun x env => (mb env).bind fun y env => (lft (f x y) env).bind fun k env => if k then (mc env).bind fun z env => lft ((g y z).map ret) env else .ok (ret false) env) σ H Q) :
    tChain r r' (teD T ma) (teD T mb) (teD T mc) σ H Q' := by
  refine gen_mono (seqE (R1 := rD T.K) h rD_nil) fun v H1 ⟨x, B1, ⟨_, hx⟩, h1⟩ => ?_
  refine gB_mono (seqB (R1 := rD T.K) h1 rD_nil) fun u H2 ⟨y, B2, sb, ⟨_, hy⟩, env2, A2, g2, h2⟩ => ?_
  cases ef : f x y with
  | none => simp only [ef, lft, RE.bind] at h2; exact h2.elim
  | some k =>
    simp only [ef, lft, RE.bind] at h2
    refine hr B2 H2 v u x y k _ g2.bh (dp_mono sb _ _ hx) (.inl hy) ef ⟨k, rfl, ?_⟩
    cases k with
    | false => exact fin B2 H2 false fun v' r' => gB_ok (T := T) (R := R) (x := ret false) (B := B2) (σ := σ) ⟨env2, A2, g2, h2⟩ r'
    | true =>
      refine gB_mono (seqB (R1 := rD T.K) (m := mc) (k := fun z env => lft ((g y z).map ret) env) (B := B2) ⟨env2, A2, g2, h2⟩ rD_nil) fun w H3 ⟨z, B3, sb3, ⟨_, hz⟩, h3⟩ => ?_
      obtain ⟨c, e, s, k⟩ := doneB h3
      obtain ⟨c', e1, e2⟩ := Option.map_eq_some_iff.mp e
      subst e2
      exact hr' B3 H3 u w y z c' _ s (dp_mono sb3 _ _ hy) (.inl hz) e1 (fin B3 H3 c' fun v' r' => k v' B3 H3 Tr.refl s r')
theorem be_chain {r r' : R2} {f g : D → D → Option Bool} {op op' : CmpOp} {a b c : Expr} {pos : Pos} {ma mb mc : Env → RE D} (hr : DOpB T.K r f) (hr' : DOpB T.K r' g) (h : PE X (.Compare a [op, op'] [b, c] pos) (tChain r r' (teD T ma) (teD T mb) (teD T mc))) :
    PE X (.Compare a [op, op'] [b, c] pos) (teD T (eChain f g ma mb mc)) := pew h fun σ H Q h => chain_go hr hr' (fun B H c k => k _ ⟨rfl, .bl _⟩) h
theorem bt_chain {r r' : R2} {f g : D → D → Option Bool} {op op' : CmpOp} {a b c : Expr} {pos : Pos} {ma mb mc : Env → RE D} (hr : DOpB T.K r f) (hr' : DOpB T.K r' g) (h : PT X (.Compare a [op, op'] [b, c] pos) (tTest (tChain r r' (teD T ma) (teD T mb) (teD T mc)))) :
    PT X (.Compare a [op, op'] [b, c] pos) (ttD T (tChainD f g ma mb mc)) := ptw h fun σ H Q h => chain_go hr hr' (Q' := fun x H' => ∃ k, x = .bl k ∧ Q k H') (fun B H c k => ⟨c, rfl, k _ ⟨rfl, rfl⟩⟩) h
end

/-! ### what the built-in functions do -/
def asInts : List D → Option (List Int)
  | [] => some []
  | .int i :: r => (asInts r).map (i :: ·)
  | _ :: _ => none
def asBools : List D → Option (List Bool)
  | [] => some []
  | .bool i :: r => (asBools r).map (i :: ·)
  | _ :: _ => none
def asStrs : List D → Option (List Str)
  | [] => some []
  | .str i :: r => (asStrs r).map (i :: ·)
  | _ :: _ => none
theorem asInts_eq : ∀ {xs : List D} {ns : List Int}, asInts xs = some ns → xs = ns.map .int
  | [], ns, e => by cases e; rfl
  | .int i :: r, ns, e => by
    obtain ⟨ms, e1, rfl⟩ := Option.map_eq_some_iff.mp e
    rw [asInts_eq e1]; rfl
  | .none :: _, _, e => nomatch e
  | .bool _ :: _, _, e => nomatch e
  | .str _ :: _, _, e => nomatch e
  | .list _ :: _, _, e => nomatch e
  | .tuple _ :: _, _, e => nomatch e
  | .dict _ :: _, _, e => nomatch e
theorem asBools_eq : ∀ {xs : List D} {ns : List Bool}, asBools xs = some ns → xs = ns.map .bool
  | [], ns, e => by cases e; rfl
  | .bool i :: r, ns, e => by
    obtain ⟨ms, e1, rfl⟩ := Option.map_eq_some_iff.mp e
    rw [asBools_eq e1]; rfl
  | .none :: _, _, e => nomatch e
  | .int _ :: _, _, e => nomatch e
  | .str _ :: _, _, e => nomatch e
  | .list _ :: _, _, e => nomatch e
  | .tuple _ :: _, _, e => nomatch e
  | .dict _ :: _, _, e => nomatch e
theorem asStrs_eq : ∀ {xs : List D} {ns : List Str}, asStrs xs = some ns → xs = ns.map .str
  | [], ns, e => by cases e; rfl
  | .str i :: r, ns, e => by
    obtain ⟨ms, e1, rfl⟩ := Option.map_eq_some_iff.mp e
    rw [asStrs_eq e1]; rfl
  | .none :: _, _, e => nomatch e
  | .int _ :: _, _, e => nomatch e
  | .bool _ :: _, _, e => nomatch e
  | .list _ :: _, _, e => nomatch e
  | .tuple _ :: _, _, e => nomatch e
  | .dict _ :: _, _, e => nomatch e
theorem asInts_map (ns : List Int) : asInts (ns.map .int) = some ns := by
  induction ns with
  | nil => rfl
  | cons a r ih => simp [asInts, ih]
theorem asBools_map (ns : List Bool) : asBools (ns.map .bool) = some ns := by
  induction ns with
  | nil => rfl
  | cons a r ih => simp [asBools, ih]
theorem asStrs_map (ns : List Str) : asStrs (ns.map .str) = some ns := by
  induction ns with
  | nil => rfl
  | cons a r ih => simp [asStrs, ih]
theorem dqs_ints {K : Fg} {B : Hp} : ∀ {ns : List Int} {vs : List V}, DqAll K B vs (ns.map .int) → vs = ns.map V.int
  | [], _, h => by cases h; rfl
  | n :: ns, _, h => by
    cases h with
    | cons a b => cases a; rw [dqs_ints b]; rfl
theorem dqs_bools {K : Fg} {B : Hp} : ∀ {ns : List Bool} {vs : List V}, DqAll K B vs (ns.map .bool) → vs = ns.map V.bl
  | [], _, h => by cases h; rfl
  | n :: ns, _, h => by
    cases h with
    | cons a b => cases a; rw [dqs_bools b]; rfl
theorem dqs_strs {K : Fg} {B : Hp} : ∀ {ns : List Str} {vs : List V}, DqAll K B vs (ns.map .str) → vs = ns.map V.str
  | [], _, h => by cases h; rfl
  | n :: ns, _, h => by
    cases h with
    | cons a b => cases a; rw [dqs_strs b]; rfl
theorem ints_dqs {K : Fg} {B : Hp} : ∀ {ns : List Int}, DqAll K B (ns.map V.int) (ns.map .int)
  | [] => .nil
  | n :: ns => .cons (.int n) ints_dqs
theorem strs_dqs {K : Fg} {B : Hp} : ∀ {ns : List Str}, DqAll K B (ns.map V.str) (ns.map .str)
  | [] => .nil
  | n :: ns => .cons (.str n) strs_dqs
theorem pk1 {K : Fg} {B H : Hp} {vs : List V} {x : D} (h : PkAll K B H vs [x]) : ∃ v, vs = [v] ∧ Pk K B H v x := by
  cases h with
  | cons a b => cases b; exact ⟨_, rfl, a⟩
theorem pk2 {K : Fg} {B H : Hp} {vs : List V} {x y : D} (h : PkAll K B H vs [x, y]) : ∃ v u, vs = [v, u] ∧ Pk K B H v x ∧ Pk K B H u y := by
  cases h with
  | cons a b => cases b with
    | cons a' b' => cases b'; exact ⟨_, _, rfl, a, a'⟩
/-- a function of one argument -/
def d1 (f : D → Option D) : List D → Option D
  | [x] => f x
  | _ => none
def d2 (f : D → D → Option D) : List D → Option D
  | [x, y] => f x y
  | _ => none
theorem dc1 {K : Fg} {r : List V → Hp → VK → Prop} {f : D → Option D}
    (h : ∀ (B H : Hp) (v : V) (x z : D) (Q : VK), Same B H → Pk K B H v x → f x = some z → (∀ w B' H', Tr B H [] B' H' [] → Same B' H' → Dq K B' w z → Q w H') → r [v] H Q) : DCall K r (d1 f) := by
  intro B H vs xs z Q s hx e k
  match xs, hx, e with
  | [x], hx, e =>
    obtain ⟨v, rfl, hv⟩ := pk1 hx
    exact h B H v x z Q s hv e k
  | [], _, e => cases e
  | _ :: _ :: _, _, e => cases e
theorem dc2 {K : Fg} {r : List V → Hp → VK → Prop} {f : D → D → Option D}
    (h : ∀ (B H : Hp) (v u : V) (x y z : D) (Q : VK), Same B H → Pk K B H v x → Pk K B H u y → f x y = some z → (∀ w B' H', Tr B H [] B' H' [] → Same B' H' → Dq K B' w z → Q w H') → r [v, u] H Q) : DCall K r (d2 f) := by
  intro B H vs xs z Q s hx e k
  match xs, hx, e with
  | [x, y], hx, e =>
    obtain ⟨v, u, rfl, hv, hu⟩ := pk2 hx
    exact h B H v u x y z Q s hv hu e k
  | [], _, e => cases e
  | [_], _, e => cases e
  | _ :: _ :: _ :: _, _, e => cases e
def dLen : D → Option D
  | .str y => if y.length ≤ 16777216 then some (.int y.length) else none
  | .list xs => some (.int xs.length)
  | .tuple xs => some (.int xs.length)
  | _ => none
theorem dc_len {K : Fg} : DCall K (fun xs H Q => ∃ x n, xs = [x] ∧ LenV K x H n ∧ Q (.int n) H) (d1 dLen) := dc1 fun B H v x z Q s hx e k => by
  cases x with
  | str y =>
    rw [hx.str]
    replace e : (if y.length ≤ 16777216 then some (PyData.int y.length) else none) = some z := e
    split at e
    · rename_i hl
      cases e
      exact ⟨_, y.length, rfl, ⟨le_lim hl, rfl⟩, k _ B H Tr.refl s (.int _)⟩
    · cases e
  | list xs =>
    cases e
    obtain ⟨p, vs, rfl, h1, h2⟩ := hx.items s
    exact ⟨_, xs.length, rfl, .inl ⟨vs, SqL.of h1, (dps_length h2).symm⟩, k _ B H Tr.refl s (.int _)⟩
  | tuple xs =>
    cases e
    obtain ⟨p, vs, rfl, h1, h2⟩ := hx.tup s
    exact ⟨_, xs.length, rfl, .inr ⟨vs, h1, (dps_length h2).symm⟩, k _ B H Tr.refl s (.int _)⟩
  | _ => cases e
def dIntOf : D → Option D
  | .int i => some (.int i)
  | .bool b => some (.int (if b then 1 else 0))
  | .str a => match PySem.intText? a with
    | some n => if a.length ≤ 640 then some (.int n) else none
    | none => none
  | _ => none
def rIntOf : List V → Hp → VK → Prop := fun xs H Q => ((∃ i, xs = [.int i] ∧ Q (.int i) H) ∨ ∃ k, xs = [.bl k] ∧ Q (.int (if k then 1 else 0)) H) ∨ ∃ a n, xs = [.str a] ∧ PySem.intText? a = some n ∧ a.length ≤ 640 ∧ Q (.int n) H
theorem call_intOf {X : Cx} : CallR X (.type "int") rIntOf := call_int1.or call_int_str
theorem dc_int {K : Fg} : DCall K rIntOf (d1 dIntOf) := dc1 fun B H v x z Q s hx e k => by
  cases x with
  | int i => rw [hx.int]; cases e; exact .inl (.inl ⟨i, rfl, k _ B H Tr.refl s (.int _)⟩)
  | bool b => rw [hx.bool]; cases e; exact .inl (.inr ⟨b, rfl, k _ B H Tr.refl s (.int _)⟩)
  | str a =>
    rw [hx.str]
    replace e : (match PySem.intText? a with | some n => if a.length ≤ 640 then some (PyData.int n) else none | none => none) = some z := e
    split at e
    · rename_i n hn
      split at e
      · rename_i hl
        cases e
        exact .inr ⟨a, n, rfl, hn, hl, k _ B H Tr.refl s (.int _)⟩
      · cases e
    · cases e
  | _ => cases e
def dStrOf : D → Option D
  | .int i => if i.natAbs.log2 < 1920 then some (.str (toString i)) else none
  | .str a => some (.str a)
  | _ => none
def rStrOf : List V → Hp → VK → Prop := fun xs H Q => (∃ i, xs = [.int i] ∧ i.natAbs.log2 < 1920 ∧ Q (.str (toString i)) H) ∨ ∃ a, xs = [.str a] ∧ Q (.str a) H
theorem call_strOf {X : Cx} : CallR X (.type "str") rStrOf := call_str_int.or SkE.call_str_str
theorem dc_str {K : Fg} : DCall K rStrOf (d1 dStrOf) := dc1 fun B H v x z Q s hx e k => by
  cases x with
  | int i =>
    rw [hx.int]
    replace e : (if i.natAbs.log2 < 1920 then some (PyData.str (toString i)) else none) = some z := e
    split at e
    · rename_i hl
      cases e
      exact .inl ⟨i, rfl, hl, k _ B H Tr.refl s (.str _)⟩
    · cases e
  | str a => rw [hx.str]; cases e; exact .inr ⟨a, rfl, k _ B H Tr.refl s (.str _)⟩
  | _ => cases e
def dAbs : D → Option D
  | .int i => some (.int (if i < 0 then -i else i))
  | _ => none
theorem dc_abs {K : Fg} : DCall K (fun xs H Q => ∃ i, xs = [.int i] ∧ Q (.int (if i < 0 then -i else i)) H) (d1 dAbs) := dc1 fun B H v x z Q s hx e k => by
  cases x with
  | int i => rw [hx.int]; cases e; exact ⟨i, rfl, k _ B H Tr.refl s (.int _)⟩
  | _ => cases e
def dOrdC : D → Option D
  | .str a => match a.cps.toList with
    | [c] => some (.int c)
    | _ => none
  | _ => none
theorem dc_ord {K : Fg} : DCall K (fun xs H Q => ∃ x, xs = [.str x] ∧ x.length = 1 ∧ Q (.int (x.cps.getD 0 0 : Nat)) H) (d1 dOrdC) := dc1 fun B H v x z Q s hx e k => by
  cases x with
  | str a =>
    rw [hx.str]
    replace e : (match a.cps.toList with | [c] => some (PyData.int c) | _ => none) = some z := e
    split at e
    · rename_i c hc
      have : a = ⟨#[c]⟩ := TL.ext_tl hc
      subst this
      cases e
      exact ⟨_, rfl, rfl, k _ B H Tr.refl s (.int _)⟩
    · cases e
  | _ => cases e
def dMax2 : D → D → Option D
  | .int i, .int j => some (.int (if j > i then j else i))
  | _, _ => none
def dMin2 : D → D → Option D
  | .int i, .int j => some (.int (if j < i then j else i))
  | _, _ => none
theorem dc_max2 {K : Fg} : DCall K (fun xs H Q => ∃ i j, xs = [.int i, .int j] ∧ Q (.int (if j > i then j else i)) H) (d2 dMax2) := dc2 fun B H v u x y z Q s hx hy e k => by
  cases x with
  | int i =>
    cases y with
    | int j => rw [hx.int, hy.int]; cases e; exact ⟨i, j, rfl, k _ B H Tr.refl s (.int _)⟩
    | _ => cases e
  | _ => cases y <;> cases e
theorem dc_min2 {K : Fg} : DCall K (fun xs H Q => ∃ i j, xs = [.int i, .int j] ∧ Q (.int (if j < i then j else i)) H) (d2 dMin2) := dc2 fun B H v u x y z Q s hx hy e k => by
  cases x with
  | int i =>
    cases y with
    | int j => rw [hx.int, hy.int]; cases e; exact ⟨i, j, rfl, k _ B H Tr.refl s (.int _)⟩
    | _ => cases e
  | _ => cases y <;> cases e
def dAll : D → Option D
  | .list xs => (asBools xs).map fun bs => .bool (bs.all id)
  | _ => none
def dAny : D → Option D
  | .list xs => (asBools xs).map fun bs => .bool (bs.any id)
  | _ => none
def dSum : D → Option D
  | .list xs => (asInts xs).map fun ns => .int ns.sum
  | _ => none
theorem dc_all {K : Fg} : DCall K (rAll K) (d1 dAll) := dc1 fun B H v x z Q s hx e k => by
  cases x with
  | list xs =>
    obtain ⟨bs, e1, rfl⟩ := Option.map_eq_some_iff.mp e
    obtain rfl := asBools_eq e1
    obtain ⟨p, vs, rfl, h1, h2⟩ := hx.items s
    obtain rfl := dqs_bools h2
    exact ⟨p, bs, rfl, SqL.of h1, k _ B H Tr.refl s (.bl _)⟩
  | _ => cases e
theorem dc_any {K : Fg} : DCall K (rAny K) (d1 dAny) := dc1 fun B H v x z Q s hx e k => by
  cases x with
  | list xs =>
    obtain ⟨bs, e1, rfl⟩ := Option.map_eq_some_iff.mp e
    obtain rfl := asBools_eq e1
    obtain ⟨p, vs, rfl, h1, h2⟩ := hx.items s
    obtain rfl := dqs_bools h2
    exact ⟨p, bs, rfl, SqL.of h1, k _ B H Tr.refl s (.bl _)⟩
  | _ => cases e
theorem dc_sum {K : Fg} : DCall K (rSum K) (d1 dSum) := dc1 fun B H v x z Q s hx e k => by
  cases x with
  | list xs =>
    obtain ⟨bs, e1, rfl⟩ := Option.map_eq_some_iff.mp e
    obtain rfl := asInts_eq e1
    obtain ⟨p, vs, rfl, h1, h2⟩ := hx.items s
    obtain rfl := dqs_ints h2
    exact ⟨p, bs, rfl, SqL.of h1, k _ B H Tr.refl s (.int _)⟩
  | _ => cases e
/-- the least, the greatest of a list of ints -/
def lstMax : List Int → Option Int
  | [] => none
  | a :: r => some (r.foldl (fun m x => if x > m then x else m) a)
def lstMin : List Int → Option Int
  | [] => none
  | a :: r => some (r.foldl (fun m x => if x < m then x else m) a)
theorem foldMax : ∀ (r : List Int) (a : Int), (r.foldl (fun m x => if x > m then x else m) a) ∈ a :: r ∧ ∀ y ∈ a :: r, y ≤ r.foldl (fun m x => if x > m then x else m) a
  | [], a => ⟨by simp, fun y hy => by simp at hy; simp [hy]⟩
  | b :: r, a => by
    have ih := foldMax r (if b > a then b else a)
    rw [List.foldl_cons]
    generalize List.foldl (fun m x => if x > m then x else m) (if b > a then b else a) r = F at ih ⊢
    have h0 := ih.2 _ List.mem_cons_self
    refine ⟨?_, fun y hy => ?_⟩
    · rcases List.mem_cons.mp ih.1 with h | h
      · rw [h]; split <;> simp
      · exact List.mem_cons_of_mem _ (List.mem_cons_of_mem _ h)
    · rcases List.mem_cons.mp hy with rfl | h
      · split at h0 <;> omega
      · rcases List.mem_cons.mp h with rfl | h
        · split at h0 <;> omega
        · exact ih.2 y (List.mem_cons_of_mem _ h)
theorem foldMin : ∀ (r : List Int) (a : Int), (r.foldl (fun m x => if x < m then x else m) a) ∈ a :: r ∧ ∀ y ∈ a :: r, r.foldl (fun m x => if x < m then x else m) a ≤ y
  | [], a => ⟨by simp, fun y hy => by simp at hy; simp [hy]⟩
  | b :: r, a => by
    have ih := foldMin r (if b < a then b else a)
    rw [List.foldl_cons]
    generalize List.foldl (fun m x => if x < m then x else m) (if b < a then b else a) r = F at ih ⊢
    have h0 := ih.2 _ List.mem_cons_self
    refine ⟨?_, fun y hy => ?_⟩
    · rcases List.mem_cons.mp ih.1 with h | h
      · rw [h]; split <;> simp
      · exact List.mem_cons_of_mem _ (List.mem_cons_of_mem _ h)
    · rcases List.mem_cons.mp hy with rfl | h
      · split at h0 <;> omega
      · rcases List.mem_cons.mp h with rfl | h
        · split at h0 <;> omega
        · exact ih.2 y (List.mem_cons_of_mem _ h)
def dMaxL : D → Option D
  | .list xs => (asInts xs).bind fun ns => (lstMax ns).map .int
  | _ => none
def dMinL : D → Option D
  | .list xs => (asInts xs).bind fun ns => (lstMin ns).map .int
  | _ => none
theorem dc_maxL {K : Fg} : DCall K (rMax K) (d1 dMaxL) := dc1 fun B H v x z Q s hx e k => by
  cases x with
  | list xs =>
    obtain ⟨ns, e1, e2⟩ := Option.bind_eq_some_iff.mp e
    obtain ⟨m0, e3, rfl⟩ := Option.map_eq_some_iff.mp e2
    obtain rfl := asInts_eq e1
    obtain ⟨p, vs, rfl, h1, h2⟩ := hx.items s
    obtain rfl := dqs_ints h2
    cases ns with
    | nil => cases e3
    | cons a r =>
      cases e3
      refine ⟨p, a :: r, rfl, SqL.of h1, by simp, fun m hm hle => ?_⟩
      obtain ⟨g1, g2⟩ := foldMax r a
      have : m = r.foldl (fun m x => if x > m then x else m) a := Int.le_antisymm (g2 m hm) (hle _ g1)
      rw [this]
      exact k _ B H Tr.refl s (.int _)
  | _ => cases e
theorem dc_minL {K : Fg} : DCall K (rMin K) (d1 dMinL) := dc1 fun B H v x z Q s hx e k => by
  cases x with
  | list xs =>
    obtain ⟨ns, e1, e2⟩ := Option.bind_eq_some_iff.mp e
    obtain ⟨m0, e3, rfl⟩ := Option.map_eq_some_iff.mp e2
    obtain rfl := asInts_eq e1
    obtain ⟨p, vs, rfl, h1, h2⟩ := hx.items s
    obtain rfl := dqs_ints h2
    cases ns with
    | nil => cases e3
    | cons a r =>
      cases e3
      refine ⟨p, a :: r, rfl, SqL.of h1, by simp, fun m hm hle => ?_⟩
      obtain ⟨g1, g2⟩ := foldMin r a
      have : m = r.foldl (fun m x => if x < m then x else m) a := Int.le_antisymm (hle _ g1) (g2 m hm)
      rw [this]
      exact k _ B H Tr.refl s (.int _)
  | _ => cases e
/-- tuple(x), list(x) -/
def dTuple : D → Option D
  | .list xs => some (.tuple xs)
  | .tuple xs => some (.tuple xs)
  | _ => none
theorem dc_tuple {K : Fg} : DCall K (fun xs H Q => ∃ p ys, xs = [.ref p] ∧ ((SqL K H p ys ∧ ∀ l, H l = none → Q (.ref l) (upd H l (.tup ys))) ∨ (SqT K H p ys ∧ Q (.ref p) H))) (d1 dTuple) := dc1 fun B H v x z Q s hx e k => by
  cases x with
  | list xs =>
    cases e
    obtain ⟨p, vs, rfl, h1, h2⟩ := hx.items s
    refine ⟨p, vs, rfl, .inl ⟨SqL.of h1, fun l hl => ?_⟩⟩
    obtain ⟨t, s', sb⟩ := tr_new (o := .tup vs) hl s
    exact k _ _ _ t s' (.tup (SqT.of upd_same) (dps_mono sb _ _ h2))
  | tuple xs =>
    cases e
    have d := tupD hx
    obtain ⟨p, vs, rfl, h1, h2⟩ := hx.tup s
    exact ⟨p, vs, rfl, .inr ⟨h1, k _ B H Tr.refl s d⟩⟩
  | _ => cases e
def nList : List D → Option (List D)
  | [.list xs] => some xs
  | [.tuple xs] => some xs
  | _ => none
theorem nc_list {K : Fg} : NCall K (fun xs H Q => ∃ p ys, xs = [.ref p] ∧ (SqL K H p ys ∨ SqT K H p ys) ∧ ∀ l, H l = none → Q (.ref l) (upd H l (.lst ys))) nList := by
  intro B H vs xs ys Q s hx e k
  match xs, hx, e with
  | [.list xs], hx, e =>
    cases e
    obtain ⟨v, rfl, hv⟩ := pk1 hx
    obtain ⟨p, vs, rfl, h1, h2⟩ := hv.items s
    exact ⟨p, vs, rfl, .inl (SqL.of h1), fun l hl => k l vs hl h2⟩
  | [.tuple xs], hx, e =>
    cases e
    obtain ⟨v, rfl, hv⟩ := pk1 hx
    obtain ⟨p, vs, rfl, h1, h2⟩ := hv.tup s
    exact ⟨p, vs, rfl, .inr h1, fun l hl => k l vs hl h2⟩
/-- isinstance(x, T), T a built-in type -/
def tyName : D → String
  | .none => "NoneType"
  | .bool _ => "bool"
  | .int _ => "int"
  | .str _ => "str"
  | .list _ => "list"
  | .tuple _ => "tuple"
  | .dict _ => "dict"
def isI (Ty : String) (x : D) : Option Bool := if (["NoneType", "bool", "int", "str", "list", "tuple"].contains (tyName x) && ["bool", "int", "str", "list", "tuple", "dict"].contains Ty) then some (tyName x == Ty || (tyName x == "bool" && Ty == "int")) else none
def eIsI (Ty : String) (m : Env → RE D) : Env → RE D := fun env => (m env).bind fun x env => lft ((isI Ty x).map .bool) env
def kitAll : Bool := ["NoneType", "bool", "int", "str", "list", "tuple"].all fun a => ["bool", "int", "str", "list", "tuple", "dict"].all fun b => kitB a b == some (a == b || (a == "bool" && b == "int"))
theorem kitAll_ok : kitAll = true := by decide +kernel
theorem kit_ok {a b : String} (ha : ["NoneType", "bool", "int", "str", "list", "tuple"].contains a = true) (hb : ["bool", "int", "str", "list", "tuple", "dict"].contains b = true) : kitB a b = some (a == b || (a == "bool" && b == "int")) := by
  have h := kitAll_ok
  unfold kitAll at h
  rw [List.all_eq_true] at h
  have h1 := h a (List.contains_iff_mem.mp ha)
  rw [List.all_eq_true] at h1
  exact beq_iff_eq.mp (h1 b (List.contains_iff_mem.mp hb))
theorem tyx_of {K : Fg} {B H : Hp} {v : V} {x : D} (s : Same B H) (h : Pk K B H v x) : TyX K H v (.type (tyName x)) := by
  cases x with
  | none => rw [h.none]; exact .base .non
  | bool b => rw [h.bool]; exact .base (.bl b)
  | int i => rw [h.int]; exact .base (.int i)
  | str y => rw [h.str]; exact .base (.str y)
  | list xs =>
    obtain ⟨p, vs, rfl, h1, h2⟩ := h.items s
    exact .base (.lst h1)
  | tuple xs =>
    obtain ⟨p, vs, rfl, h1, h2⟩ := h.tup s
    rcases h1 with (h1 | ⟨o, h1⟩) | ⟨o, its, n, h1, h3, _⟩
    · exact .base (.tup h1)
    · exact .fTuple h1
    · exact .kTuple h1 h3
  | dict kvs =>
    rcases h with h | ⟨p, vs, xs, _, e, _⟩
    · cases h
    · cases e
section
variable {X : Cx} {T : Tb} {e : Expr} {m : Env → RE D}
/-- h: pe_callB call_isi .. (pa_cons a (pa_cons (the type's name) pa_nil)) -/
theorem be_isi {Ty : String} (hK : T.K = X.K) (h : PE X e (tCB (rIsi X.K) (tCons (teP T m) (tCons (tC (.ty Ty)) tNil)))) : PE X e (teD T (eIsI Ty m)) :=
  pew h fun σ H Q h => gen_mono (seqE (R1 := rP T.K) h rP_nil) fun v H1 ⟨x, B1, ⟨_, hx⟩, h1⟩ => by
    obtain ⟨z, e, s, k⟩ := doneB h1
    obtain ⟨b, e1, e2⟩ := Option.map_eq_some_iff.mp e
    subst e2
    unfold isI at e1
    split at e1
    · rename_i g
      rw [Bool.and_eq_true] at g
      cases e1
      exact ⟨v, .ty Ty, .type (tyName x), .type Ty, _, rfl, .ty Ty, hK ▸ tyx_of s hx, kit_ty (kit_ok g.1 g.2), k _ B1 H1 Tr.refl s ⟨rfl, .bl _⟩⟩
    · cases e1
end
/-! ### repr, where no repr is under way -/
def dRepr (x : D) : Option D := if x.showable && !x.hasDict && decide (x.depth ≤ 64) && decide (x.shown.length ≤ 16777216) then some (.str x.shown) else none
def rRepr (K : Fg) : List V → Hp → VK → Prop := fun xs H Q => ∃ v d, xs = [v] ∧ L2.Dp K H v d ∧ d.showable = true ∧ d.hasDict = false ∧ d.depth ≤ 64 ∧ d.shown.length ≤ 16777216 ∧ Q (.str d.shown) H
theorem call_reprD {X : Cx} (hg : X.A.guards = some []) (hu : X.A.units + 66 < cLine) : CallR X (.builtin "repr") (rRepr X.K) := by
  rintro pins s σ H xs us Q I r ⟨v, d, rfl, hd, h1, h2, h3, h4, q⟩
  obtain ⟨u, rfl, rv⟩ := vals1 r
  have hz := le_lim h4
  cases d with
  | none =>
    cases hd
    cases rv
    exact call_repr_gives (typeIs_none s) PySem.F.slot_NoneType_repr PySem.F.entry_NoneType_repr (PySem.F.args_NoneType_repr_1 _) gives_none_repr ⟨.str _, H, I.tok _, ⟨_, rfl⟩, q⟩ (hx := by decide)
  | bool b =>
    cases hd
    cases rv
    refine PySem.P.repr_of_bool ⟨.str _, H, I.tok _, ?_, q⟩
    cases b <;> exact ⟨_, rfl⟩
  | int i =>
    cases hd
    obtain ⟨t, rfl⟩ := rv
    exact PySem.P.repr_of_int (by simpa [PyData.showable] using h1) ⟨.str _, H, I.tok _, ⟨_, rfl⟩, q⟩
  | str y =>
    cases hd
    obtain ⟨t, rfl⟩ := rv
    exact PySem.P.repr_of_str ⟨.str _, H, I.tok _, ⟨_, rfl⟩, q⟩ (hsz := hz)
  | list xs =>
    obtain ⟨as, rd⟩ := Dp.reads I (.list xs) v u hd rv
    cases hd
    cases rv
    exact repr_of_reads' rd h1 (PyData.noDict_hsm h2) hg (by omega) (fun _ _ e => e) (fun h' u tk hk => ⟨.str _, H, I.kept hk, ⟨_, rfl⟩, q⟩) hz
  | tuple xs =>
    obtain ⟨as, rd⟩ := Dp.reads I (.tuple xs) v u hd rv
    cases hd
    cases rv
    exact repr_of_reads' rd h1 (PyData.noDict_hsm h2) hg (by omega) (fun _ _ e => e) (fun h' u tk hk => ⟨.str _, H, I.kept hk, ⟨_, rfl⟩, q⟩) hz
  | dict kvs => cases hd
theorem dc_repr {K : Fg} : DCall K (rRepr K) (d1 dRepr) := dc1 fun B H v x z Q s hx e k => by
  unfold dRepr at e
  split at e
  · rename_i g
    simp only [Bool.and_eq_true, Bool.not_eq_true', decide_eq_true_eq] at g
    obtain ⟨⟨⟨g1, g2⟩, g3⟩, g4⟩ := g
    cases e
    exact ⟨v, x, rfl, hx.dp s, g1, g2, g3, g4, k _ B H Tr.refl s (.str _)⟩
  · cases e
end BV

/-! BV7: statements. -/
namespace BV
open PySem PySem.Spec PyProof.Rows L2

/-- what is wanted behind a statement -/
def evS (T : Tb) (B H : Hp) (A : List Addr) (σ : St) (D : Ends) : RS → Prop
  | .nx env' => ∀ σ' B' H' A', Pin T σ σ' → Tr B H A B' H' A' → Good T B' H' σ' env' A' → D.nx σ' H'
  | .bk env' => ∀ σ' B' H' A', Pin T σ σ' → Tr B H A B' H' A' → Good T B' H' σ' env' A' → D.bk σ' H'
  | .ct env' => ∀ σ' B' H' A', Pin T σ σ' → Tr B H A B' H' A' → Good T B' H' σ' env' A' → D.ct σ' H'
  | .rt r env' => ∀ v σ' B' H' A' A2, Pin T σ σ' → Tr B H A B' H' (A' ++ A2) → Good T B' H' σ' env' A' → Own T.K T.cls B' H' r v A2 → A2.Nodup → (∀ a ∈ A2, a ∉ A') → D.rt v H'
  | .ex c x env' => ∃ W, T.W = some W ∧ ∀ cl d σ' B' H' A', Pin T σ σ' → Tr B H A B' H' A' → Good T B' H' σ' env' A' → XcR T B' H' cl d c x → W cl d σ' H'
  | .no => False
theorem evS.trans {T : Tb} {B H B1 H1 : Hp} {A A1 : List Addr} {σ σ1 : St} {D : Ends} {r : RS} (p : Pin T σ σ1) (t : Tr B H A B1 H1 A1) (h : evS T B H A σ D r) : evS T B1 H1 A1 σ1 D r := by
  cases r with
  | nx env' => exact fun σ' B' H' A' q t' => h σ' B' H' A' (p.trans q) (t.trans t')
  | bk env' => exact fun σ' B' H' A' q t' => h σ' B' H' A' (p.trans q) (t.trans t')
  | ct env' => exact fun σ' B' H' A' q t' => h σ' B' H' A' (p.trans q) (t.trans t')
  | rt r env' => exact fun v σ' B' H' A' A2 q t' => h v σ' B' H' A' A2 (p.trans q) (t.trans t')
  | ex c x env' =>
    obtain ⟨W, e, h⟩ := h
    exact ⟨W, e, fun cl d σ' B' H' A' q t' => h cl d σ' B' H' A' (p.trans q) (t.trans t')⟩
  | no => exact h
def sB (T : Tb) (m : Env → RS) (B : Hp) (D : Ends) (σ : St) (H : Hp) : Prop := ∃ env A, Good T B H σ env A ∧ evS T B H A σ D (m env)
def tsS (T : Tb) (m : Env → RS) : TS := fun D σ H => ∃ B, sB T m B D σ H

/-- an expression, then a statement with its value -/
def bindS {α : Type} (r : RE α) (k : α → Env → RS) : RS := match r with
  | .ok a e => k a e
  | .ex c x e => .ex c x e
  | .no => .no
section
variable {T : Tb} {γ δ : Type} {R1 : Hp → Hp → γ → δ → List Addr → Prop} {σ : St} {B H : Hp} {D : Ends} {m : Env → RE γ} {k : γ → Env → RS}
theorem seqSB (h : sB T (fun env => bindS (m env) k) B D σ H) (ho : ∀ B H x v A2, R1 B H x v A2 → A2 = []) :
    gB T R1 m B σ H (fun v H1 => ∃ x B1, Same B B1 ∧ R1 B1 H1 x v [] ∧ sB T (k x) B1 D σ H1) := by
  obtain ⟨env, A, g, h⟩ := h
  refine ⟨env, A, g, ?_⟩
  cases e : m env with
  | ok x env1 =>
    simp only [e, bindS] at h
    intro v B1 H1 A1 A2 t g1 r n d
    obtain rfl := ho _ _ _ _ _ r
    rw [List.append_nil] at t
    exact ⟨x, B1, t.bb, r, env1, A1, g1, evS.trans Pin.refl t h⟩
  | ex c x env1 =>
    simp only [e, bindS] at h
    obtain ⟨W, e, h⟩ := h
    exact ⟨W, e, fun cl d B' H' A' t g x => h cl d σ B' H' A' Pin.refl t g x⟩
  | no =>
    simp only [e, bindS] at h
    exact h
theorem seqSE (h : tsS T (fun env => bindS (m env) k) D σ H) (ho : ∀ B H x v A2, R1 B H x v A2 → A2 = []) :
    gen T R1 m σ H (fun v H1 => ∃ x B1, R1 B1 H1 x v [] ∧ sB T (k x) B1 D σ H1) := by
  obtain ⟨B, h⟩ := h
  exact gB_mono (seqSB h ho) fun v H1 ⟨x, B1, _, a, b⟩ => ⟨x, B1, a, b⟩
/-- .. where the value is a new thing -/
theorem seqSN {m : Env → RE Sl} {k : Sl → Env → RS} (h : tsS T (fun env => bindS (m env) k) D σ H) :
    gen T (rN T) m σ H (fun v H1 => ∃ s B1 A2 env A, Good T B1 H1 σ env A ∧ Own T.K T.cls B1 H1 s v A2 ∧ A2.Nodup ∧ (∀ a ∈ A2, a ∉ A) ∧ ∀ σ1 B2 A3, Pin T σ σ1 → Tr B1 H1 (A ++ A2) B2 H1 A3 → evS T B2 H1 A3 σ1 D (k s env)) := by
  obtain ⟨B, env, A, g, h⟩ := h
  refine ⟨B, env, A, g, ?_⟩
  cases e : m env with
  | ok x env1 =>
    simp only [e, bindS] at h
    intro v B1 H1 A1 A2 t g1 r n d
    exact ⟨x, B1, A2, env1, A1, g1, r, n, d, fun σ1 B2 A3 p t2 => evS.trans p (t.trans t2) h⟩
  | ex c x env1 =>
    simp only [e, bindS] at h
    obtain ⟨W, e, h⟩ := h
    exact ⟨W, e, fun cl d B' H' A' t g x => h cl d σ B' H' A' Pin.refl t g x⟩
  | no =>
    simp only [e, bindS] at h
    exact h
end
theorem sB_nx {T : Tb} {B H : Hp} {D : Ends} {σ : St} (h : sB T (fun env => .nx env) B D σ H) : D.nx σ H := by
  obtain ⟨env, A, g, h⟩ := h
  exact h σ B H A Pin.refl Tr.refl g

/-! ### blocks -/
def sSeq (a b : Env → RS) : Env → RS := fun env => match a env with
  | .nx e => b e
  | r => r
def sNil : Env → RS := fun env => .nx env
section
variable {X : Cx} {T : Tb} {st : Stmt} {rest : List Stmt} {ma mb : Env → RS}
theorem bss_nil : PSs X [] (tsS T sNil) := pssw pss_nil fun D σ H ⟨B, h⟩ => sB_nx h
theorem seq_go {D : Ends} {σ : St} {H : Hp} (h : tsS T (sSeq ma mb) D σ H) : tSeq (tsS T ma) (tsS T mb) D σ H := by
  obtain ⟨B, env, A, g, h⟩ := h
  refine ⟨B, env, A, g, ?_⟩
  unfold sSeq at h
  cases e : ma env with
  | nx env1 =>
    simp only [e] at h
    exact fun σ' B' H' A' p t g' => ⟨B', env1, A', g', evS.trans p t h⟩
  | bk env1 => simp only [e] at h; exact h
  | ct env1 => simp only [e] at h; exact h
  | rt r env1 => simp only [e] at h; exact h
  | ex c x env1 => simp only [e] at h; exact h
  | no => simp only [e] at h; exact h
theorem bss_cons (h1 : PS X st (tsS T ma)) (h2 : PSs X rest (tsS T mb)) : PSs X (st :: rest) (tsS T (sSeq ma mb)) := pssw (pss_cons h1 h2) fun D σ H h => seq_go h
theorem bss_one (h1 : PS X st (tsS T ma)) : PSs X [st] (tsS T ma) := pss_one h1
end

/-! ### small statements -/
def sPass : Env → RS := fun env => .nx env
def sBreak : Env → RS := fun env => .bk env
def sCont : Env → RS := fun env => .ct env
def sNo : Env → RS := fun _ => .no
def sRet (m : Env → RE D) : Env → RS := fun env => bindS (m env) fun x env => .rt (.d x) env
def sRetN (m : Env → RE Sl) : Env → RS := fun env => bindS (m env) fun s env => .rt s env
def sRetNone : Env → RS := fun env => .rt (.d .none) env
def sDrop (m : Env → RE D) : Env → RS := fun env => bindS (m env) fun _ env => .nx env
def sDropN (m : Env → RE Sl) : Env → RS := fun env => bindS (m env) fun _ env => .nx env
def sIf (t : Env → RE Bool) (a b : Env → RS) : Env → RS := fun env => bindS (t env) fun x env => if x then a env else b env
/-- an owned thing handed back: its slot is empty behind it -/
def sRetOwn (i : Nat) : Env → RS := fun env => match env[i]? with
  | some .un => .no
  | some s => .rt s (env.set i .un)
  | none => .no
/-- x = e, data; a new thing -/
def sAsg (pins : List Nat) (i : Nat) (m : Env → RE D) : Env → RS := fun env => bindS (m env) fun x env => if i ∈ pins then .no else .nx (env.set i (.d x))
def sAsgN (pins : List Nat) (i : Nat) (m : Env → RE Sl) : Env → RS := fun env => bindS (m env) fun s env => if i ∈ pins then .no else .nx (env.set i s)
section
variable {X : Cx} {T : Tb} {e : Expr} {pos : Pos} {m : Env → RE D} {σ : St} {H : Hp}
theorem bs_pass : PS X (.Pass pos) (tsS T sPass) := psw ps_pass fun D σ H ⟨B, h⟩ => sB_nx h
theorem bs_break : PS X (.Break pos) (tsS T sBreak) := psw ps_break fun D σ H ⟨B, env, A, g, h⟩ => h σ B H A Pin.refl Tr.refl g
theorem bs_cont : PS X (.Continue pos) (tsS T sCont) := psw ps_continue fun D σ H ⟨B, env, A, g, h⟩ => h σ B H A Pin.refl Tr.refl g
theorem bs_no {st : Stmt} : PS X st (tsS T sNo) := psw ps_never fun D σ H ⟨B, env, A, g, h⟩ => h
theorem bs_retN : PS X (.Return none pos) (tsS T sRetNone) := psw ps_retN fun D σ H ⟨B, env, A, g, h⟩ => h .non σ B H A [] Pin.refl (by simpa using Tr.refl) g (.d .non) List.nodup_nil fun _ z => nomatch z
theorem bs_ret (h : PE X e (teD T m)) : PS X (.Return (some e) pos) (tsS T (sRet m)) := psw (ps_ret h) fun D σ H h => gen_mono (seqSE (R1 := rD T.K) h rD_nil) fun v H1 ⟨x, B1, ⟨_, hx⟩, env, A, g, h1⟩ =>
  h1 v σ B1 H1 A [] Pin.refl (by simpa using Tr.refl) g (.d hx) List.nodup_nil fun _ z => nomatch z
theorem bs_retNew {m : Env → RE Sl} (h : PE X e (teN T m)) : PS X (.Return (some e) pos) (tsS T (sRetN m)) := psw (ps_ret h) fun D σ H h => gen_mono (seqSN h) fun v H1 ⟨s, B1, A2, env, A, g, o, n, d, k⟩ =>
  k σ B1 (A ++ A2) Pin.refl Tr.refl v σ B1 H1 A A2 Pin.refl Tr.refl g o n d
theorem bs_retOwn {i : Nat} (h : PE X e (tVar i)) : PS X (.Return (some e) pos) (tsS T (sRetOwn i)) := psw (ps_ret h) fun D σ H ⟨B, env, A, g, h⟩ => by
  unfold sRetOwn at h
  split at h
  · exact h.elim
  · rename_i s hs hne
    obtain ⟨v, A1, A2, A3, h1, h2, h3, h4⟩ := env_at i g.er hne (fun z => hs z)
    refine ⟨v, h1, ?_⟩
    have nd : (A1 ++ A2 ++ A3).Nodup := h3 ▸ g.nd
    have er := h4 (B' := B) (H' := H) (s' := some v) (e' := .un) (A2' := []) (.inl ⟨rfl, rfl⟩) ⟨Same.refl B, fun _ _ _ e => e, fun _ _ e => e⟩
    rw [set_self h1] at er
    simp only [List.append_nil] at er
    have n1 := List.nodup_append.mp nd
    have n2 := List.nodup_append.mp n1.1
    refine h v σ B H (A1 ++ A3) A2 Pin.refl (Tr.refl.less fun a ha => ?_) ⟨g.bh, er, List.nodup_append.mpr ⟨n2.1, n1.2.1, fun a ha b hb => n1.2.2 a (List.mem_append_left _ ha) b hb⟩⟩ h2 n2.2.1 fun a ha hb => ?_
    · rw [h3]
      simp only [List.mem_append] at ha ⊢
      rcases ha with (z | z) | z
      · exact .inl (.inl z)
      · exact .inr z
      · exact .inl (.inr z)
    · rcases List.mem_append.mp hb with z | z
      · exact n2.2.2 a z a ha rfl
      · exact n1.2.2 a (List.mem_append_right _ ha) a z rfl
  · exact h.elim
theorem bs_expr (h : PE X e (teD T m)) (hs : swapsWith e none pos.line X.env = pure false := by rfl) : PS X (.Expr e pos) (tsS T (sDrop m)) := psw (ps_expr h hs) fun D σ H h => gen_mono (seqSE (R1 := rD T.K) h rD_nil) fun v H1 ⟨x, B1, ⟨_, hx⟩, h1⟩ => sB_nx h1
theorem bs_exprN {m : Env → RE Sl} (h : PE X e (teN T m)) (hs : swapsWith e none pos.line X.env = pure false := by rfl) : PS X (.Expr e pos) (tsS T (sDropN m)) := psw (ps_expr h hs) fun D σ H h => gen_mono (seqSN h) fun v H1 ⟨s, B1, A2, env, A, g, o, n, d, k⟩ =>
  k σ B1 A Pin.refl (Tr.refl.less fun a ha => List.mem_append_left _ ha) σ B1 H1 A Pin.refl Tr.refl g
theorem bs_if {c : Expr} {a b : List Stmt} {t : Env → RE Bool} {ma mb : Env → RS} (hc : PT X c (ttD T t)) (ha : PSs X a (tsS T ma)) (hb : PSs X b (tsS T mb)) : PS X (.If c a b pos) (tsS T (sIf t ma mb)) :=
  psw (ps_if hc ha hb) fun D σ H h => gen_mono (seqSE (R1 := rT) h rT_nil) fun v H1 ⟨x, B1, ⟨_, hx⟩, h1⟩ => by
    subst hx
    cases v with
    | true => exact ⟨B1, h1⟩
    | false => exact ⟨B1, h1⟩
theorem pin_set {i : Nat} {s : Option V} (h : i ∉ T.pins) : Pin T σ (σ.set i s) := fun j hj => by
  have hne : i ≠ j := fun q => h (by rw [q]; exact hj)
  rw [List.getElem?_set_ne hne]
/-- a slot stored: data -/
theorem store_d {B : Hp} {env : Env} {A : List Addr} {i : Nat} {v : V} {x : D} (g : Good T B H σ env A) (h : Dq T.K B v x) : ∃ A', Good T B H (σ.set i (some v)) (env.set i (.d x)) A' ∧ Tr B H A B H A' := by
  obtain ⟨A', h1, h2, h3⟩ := env_set i (s' := some v) (e' := .d x) (A2 := []) g.er (.inr ⟨v, rfl, .d h⟩) (fun _ z => nomatch z) g.nd List.nodup_nil
  exact ⟨A', ⟨g.bh, h1, h2⟩, Tr.refl.less fun a ha => (h3 a ha).elim id fun z => nomatch z⟩
theorem bs_asg {i : Nat} {st : Stmt} (h : PS X st (tAsg (teD T m) (gName i))) : PS X st (tsS T (sAsg T.pins i m)) := psw h fun D σ H h => gen_mono (seqSE (R1 := rD T.K) h rD_nil) fun v H1 ⟨x, B1, ⟨_, hx⟩, env, A, g, h1⟩ => by
  split at h1
  · exact h1.elim
  · rename_i hp
    obtain ⟨A', g', t⟩ := store_d (i := i) g hx
    exact h1 _ B1 H1 A' (pin_set hp) t g'
theorem bs_asgN {i : Nat} {m : Env → RE Sl} {st : Stmt} (h : PS X st (tAsg (teN T m) (gName i))) : PS X st (tsS T (sAsgN T.pins i m)) := psw h fun D σ H h => gen_mono (seqSN h) fun v H1 ⟨s, B1, A2, env, A, g, o, n, d, k⟩ => by
  by_cases hp : i ∈ T.pins
  · have := k σ B1 (A ++ A2) Pin.refl Tr.refl
    rw [if_pos hp] at this
    exact this.elim
  · obtain ⟨A', h1, h2, h3⟩ := env_set i (s' := some v) (e' := s) (A2 := A2) g.er (.inr ⟨v, rfl, o⟩) d g.nd n
    have t : Tr B1 H1 (A ++ A2) B1 H1 A' := Tr.refl.less fun a ha => List.mem_append.mpr (h3 a ha)
    have := k _ B1 A' (pin_set (i := i) (s := some v) hp) t
    rw [if_neg hp] at this
    exact this _ B1 H1 A' Pin.refl Tr.refl ⟨g.bh, h1, h2⟩
end
end BV

/-! BV8: targets, loops, comprehensions. -/
namespace BV
open PySem PySem.Spec PyProof.Rows L2

/-! ### targets -/
inductive Tg where
  | n (i : Nat)
  | t (ts : List Tg)
mutual
def tgDo (pins : List Nat) : Tg → D → Env → Option Env
  | .n i, x, env => if i ∈ pins then none else some (env.set i (.d x))
  | .t ts, .tuple xs, env => tgAll pins ts xs env
  | .t _, _, _ => none
def tgAll (pins : List Nat) : List Tg → List D → Env → Option Env
  | [], [], env => some env
  | t :: ts, x :: xs, env => match tgDo pins t x env with
    | some e => tgAll pins ts xs e
    | none => none
  | _, _, _ => none
end
/-- the slots at is alone may have changed -/
def Only (is : List Nat) (σ σ' : St) : Prop := σ'.length = σ.length ∧ ∀ i, i ∉ is → σ'[i]? = σ[i]?
theorem Only.trans {is js : List Nat} {a b c : St} (h : Only is a b) (k : Only js b c) : Only (is ++ js) a c := ⟨k.1.trans h.1, fun i hi => (k.2 i fun z => hi (List.mem_append_right _ z)).trans (h.2 i fun z => hi (List.mem_append_left _ z))⟩
/-- what a target's reading does -/
def TgOk (T : Tb) (g : TG) (is : List Nat) (tm : D → Env → Option Env) : Prop := ∀ (B H : Hp) (σ : St) (env : Env) (A : List Addr) (v : V) (x : D) (env' : Env) (Q : St → Hp → Prop), Good T B H σ env A → Dq T.K B v x → tm x env = some env' →
  (∀ σ' A', Pin T σ σ' → Only is σ σ' → Tr B H A B H A' → Good T B H σ' env' A' → Q σ' H) → g v σ H Q
def TgsOk (T : Tb) (g : TGs) (is : List Nat) (tm : List D → Env → Option Env) : Prop := ∀ (B H : Hp) (σ : St) (env : Env) (A : List Addr) (vs : List V) (xs : List D) (env' : Env) (Q : St → Hp → Prop), Good T B H σ env A → DqAll T.K B vs xs → tm xs env = some env' →
  (∀ σ' A', Pin T σ σ' → Only is σ σ' → Tr B H A B H A' → Good T B H σ' env' A' → Q σ' H) → g vs σ H Q
section
variable {T : Tb}
theorem tg_name (i : Nat) : TgOk T (gName i) [i] (tgDo T.pins (.n i)) := by
  intro B H σ env A v x env' Q g hx e k
  replace e : (if i ∈ T.pins then none else some (env.set i (.d x))) = some env' := by rw [← e, tgDo]
  split at e
  · cases e
  · rename_i hp
    cases e
    obtain ⟨A', g', t⟩ := store_d (i := i) g hx
    exact k _ A' (pin_set hp) ⟨List.length_set, fun j hj => by rw [List.getElem?_set_ne fun q => hj (by rw [q]; exact List.mem_singleton.mpr rfl)]⟩ t g'
theorem tgs_nil : TgsOk T gNil [] (tgAll T.pins []) := by
  intro B H σ env A vs xs env' Q g hx e k
  cases xs with
  | nil =>
    cases hx
    rw [tgAll] at e
    cases e
    exact ⟨rfl, k σ A Pin.refl ⟨rfl, fun _ _ => rfl⟩ Tr.refl g⟩
  | cons x xs => simp [tgAll] at e
theorem tgs_cons {g : TG} {gs : TGs} {is js : List Nat} {t : Tg} {ts : List Tg} (h1 : TgOk T g is (tgDo T.pins t)) (h2 : TgsOk T gs js (tgAll T.pins ts)) : TgsOk T (gCons g gs) (is ++ js) (tgAll T.pins (t :: ts)) := by
  intro B H σ env A vs xs env' Q gd hx e k
  cases xs with
  | nil => simp [tgAll] at e
  | cons x xs =>
    rw [tgAll] at e
    cases hx with
    | cons a b =>
      split at e
      · rename_i env1 e1
        refine ⟨_, _, rfl, h1 B H σ env A _ x env1 _ gd a e1 fun σ1 A1 p1 o1 t1 g1 => ?_⟩
        exact h2 B H σ1 env1 A1 _ xs env' Q g1 b e fun σ2 A2 p2 o2 t2 g2 => k σ2 A2 (p1.trans p2) (o1.trans o2) (t1.trans t2) g2
      · cases e
theorem tg_tup {n : Nat} {gs : TGs} {is : List Nat} {ts : List Tg} (h : TgsOk T gs is (tgAll T.pins ts)) (hn : ts.length = n) : TgOk T (gTup T.K n gs) is (tgDo T.pins (.t ts)) := by
  intro B H σ env A v x env' Q g hx e k
  have len : ∀ (ts : List Tg) (xs : List D) (env env' : Env), tgAll T.pins ts xs env = some env' → xs.length = ts.length := by
    intro ts
    induction ts with
    | nil =>
      intro xs env env' e
      cases xs with
      | nil => rfl
      | cons => simp [tgAll] at e
    | cons t ts ih =>
      intro xs env env' e
      cases xs with
      | nil => simp [tgAll] at e
      | cons x xs =>
        rw [tgAll] at e
        split at e
        · rw [List.length_cons, List.length_cons, ih _ _ _ e]
        · cases e
  cases x with
  | tuple xs =>
    rw [tgDo] at e
    obtain ⟨p, vs, rfl, h1, h2⟩ := (show Pk T.K B H v (.tuple xs) from .inl hx).tup g.bh
    exact ⟨p, vs, rfl, h1, by rw [dps_length h2, len _ _ _ _ e, hn], h B H σ env A vs xs env' Q g h2 e k⟩
  | _ => simp [tgDo] at e
/-- a, b = e -/
def sTup (tm : D → Env → Option Env) (m : Env → RE D) : Env → RS := fun env => bindS (m env) fun x env => match tm x env with
  | some e => .nx e
  | none => .no
theorem bs_tup {X : Cx} {st : Stmt} {g : TG} {tm : D → Env → Option Env} {is : List Nat} {m : Env → RE D} (ht : TgOk T g is tm) (h : PS X st (tAsg (teD T m) g)) : PS X st (tsS T (sTup tm m)) :=
  psw h fun D σ H h => gen_mono (seqSE (R1 := rD T.K) h rD_nil) fun v H1 ⟨x, B1, ⟨_, hx⟩, env, A, g, h1⟩ => by
    dsimp only at h1
    split at h1
    · rename_i env' e
      exact ht B1 H1 σ env A v x env' _ g hx e fun σ' A' p _ t g' => h1 σ' B1 H1 A' p t g'
    · exact h1.elim
end

/-! ### what is walked -/
/-- J walks the data xs -/
def Src (K : Fg) (J : It) (B : Hp) (xs : List D) : Prop := ∀ B1 H1, Same B B1 → Same B1 H1 → J.stop xs.length H1 ∧ ∀ i x, xs[i]? = some x → J.go i H1 ∧ ∀ v H2, J.yld i H1 v H2 → ∃ B2, Tr B1 H1 [] B2 H2 [] ∧ Same B2 H2 ∧ Dq K B2 v x
def rSrc (K : Fg) : Hp → Hp → List D → It → List Addr → Prop := fun B _ xs J A2 => A2 = [] ∧ Src K J B xs
theorem rSrc_nil {K : Fg} : ∀ B H x v A2, rSrc K B H x v A2 → A2 = [] := fun _ _ _ _ _ h => h.1
def tiD (T : Tb) (m : Env → RE (List D)) : TI := fun σ H R => gen T (rSrc T.K) m σ H R
/-- the items of a list, a tuple, a text -/
def itemsOf : D → Option (List D)
  | .list xs => some xs
  | .tuple xs => some xs
  | .str z => some (z.cps.toList.map fun c => .str ⟨#[c]⟩)
  | _ => none
def iAny (m : Env → RE D) : Env → RE (List D) := fun env => (m env).bind fun x env => lft (itemsOf x) env
section
variable {X : Cx} {T : Tb} {tg e : Expr} {m : Env → RE D}
theorem piw {wi wi' : TI} (h : PI X tg e wi) (i : ∀ σ H R, wi' σ H R → wi σ H R) : PI X tg e wi' := ⟨fun pins s σ H R I q => h.run pins s σ H R I (i σ H R q)⟩
theorem pi_or {wi wi' : TI} (h : PI X tg e wi) (h' : PI X tg e wi') : PI X tg e (fun σ H R => wi σ H R ∨ wi' σ H R) := ⟨fun pins s σ H R I q => q.elim (h.run pins s σ H R I) (h'.run pins s σ H R I)⟩
theorem src_list {K : Fg} {a : Addr} {vs : List V} {xs : List D} {B : Hp} (h1 : B a = some (.lst vs)) (h2 : DqAll K B vs xs) : Src K (Itl K a) B xs := fun B1 H1 s1 s2 => by
  have q : SqL K H1 a vs := SqL.of (s2 _ _ (s1 _ _ h1))
  have wk := walk_list (K := K) (a := a) (xs := vs)
  rw [← dps_length h2]
  refine ⟨wk.stops H1 q, fun i x hx => ?_⟩
  obtain ⟨v, hv, hd⟩ := dps_get i h2 hx
  have hi : i < vs.length := (List.getElem?_eq_some_iff.mp hv).1
  refine ⟨wk.goes i H1 hi q, fun u H2 y => ?_⟩
  obtain ⟨rfl, e⟩ := wk.yields i H1 u H2 hi q y
  rw [hv] at e
  cases e
  exact ⟨B1, Tr.refl, s2, dp_mono s1 _ _ hd⟩
theorem src_tup {K : Fg} {a : Addr} {vs : List V} {xs : List D} {B : Hp} (h1 : SqT K B a vs) (h2 : DqAll K B vs xs) : Src K (Itt K a) B xs := fun B1 H1 s1 s2 => by
  have q : SqT K H1 a vs := Same.seqT s2 (Same.seqT s1 h1)
  have wk := walk_tup (K := K) (a := a) (xs := vs)
  rw [← dps_length h2]
  refine ⟨wk.stops H1 q, fun i x hx => ?_⟩
  obtain ⟨v, hv, hd⟩ := dps_get i h2 hx
  have hi : i < vs.length := (List.getElem?_eq_some_iff.mp hv).1
  refine ⟨wk.goes i H1 hi q, fun u H2 y => ?_⟩
  obtain ⟨rfl, e⟩ := wk.yields i H1 u H2 hi q y
  rw [hv] at e
  cases e
  exact ⟨B1, Tr.refl, s2, dp_mono s1 _ _ hd⟩
theorem src_str {K : Fg} {z : Str} {B : Hp} : Src K (Its z) B (z.cps.toList.map fun c => .str ⟨#[c]⟩) := fun B1 H1 s1 s2 => by
  have wk := walk_str (z := z)
  have hl : (z.cps.toList.map fun c => PyData.str ⟨#[c]⟩).length = z.cps.size := by rw [List.length_map, Array.length_toList]
  rw [hl]
  refine ⟨wk.stops H1 trivial, fun i x hx => ?_⟩
  rw [List.getElem?_map] at hx
  obtain ⟨c, hc, rfl⟩ := Option.map_eq_some_iff.mp hx
  have hc' : z.cps[i]? = some c := by rw [← Array.getElem?_toList]; exact hc
  have hi : i < z.cps.size := (Array.getElem?_eq_some_iff.mp hc').1
  refine ⟨wk.goes i H1 hi trivial, fun u H2 y => ?_⟩
  obtain ⟨rfl, c', e, rfl⟩ := wk.yields i H1 u H2 hi trivial y
  rw [hc'] at e
  cases e
  exact ⟨B1, Tr.refl, s2, .str _⟩
theorem bi_any (hK : T.K = X.K) (h : PE X e (teD T m)) : PI X tg e (tiD T (iAny m)) :=
  piw (pi_or (pi_list h) (pi_or (pi_tup h) (pi_str h))) fun σ H R q => by
    have kind : ∀ x, (∃ env env1 B A, Good T B H σ env A ∧ m env = .ok x env1) → True := fun _ _ => trivial
    obtain ⟨B, env, A, g, h1⟩ := q
    have go : ∀ (P : V → Hp → Prop), (∀ x env1, m env = .ok x env1 → ∀ v B1 H1, Dq T.K B1 v x → Same B1 H1 → (∀ J xs, itemsOf x = some xs → Src T.K J B1 xs → R J H1) → P v H1) → teD T m σ H P := fun P hP => by
      refine ⟨B, env, A, g, ?_⟩
      cases em : m env with
      | ok x env1 =>
        intro v B1 H1 A1 A2 t g1 r n d
        obtain ⟨rfl, hx⟩ := r
        rw [List.append_nil] at t
        refine hP x env1 em v B1 H1 hx g1.bh fun J xs hi hs => ?_
        simp only [iAny, em, RE.bind, hi, lft] at h1
        exact h1 J B1 H1 A1 [] (by simpa using t) g1 ⟨rfl, hs⟩ List.nodup_nil fun _ z => nomatch z
      | ex c x env1 => simp only [iAny, em, RE.bind] at h1; exact h1
      | no => simp only [iAny, em, RE.bind] at h1; exact h1.elim
    cases em : m env with
    | ok x env1 =>
      cases x with
      | list xs =>
        refine .inl (go _ fun x' env1' e' v B1 H1 hx s k => ?_)
        rw [em] at e'
        cases e'
        cases hx with
        | lst h1 h2 => exact ⟨_, rfl, ⟨_, SqL.of (s _ _ h1)⟩, k _ xs rfl (hK ▸ src_list (K := X.K) h1 (hK ▸ h2))⟩
      | tuple xs =>
        refine .inr (.inl (go _ fun x' env1' e' v B1 H1 hx s k => ?_))
        rw [em] at e'
        cases e'
        cases hx with
        | tup h1 h2 => exact ⟨_, rfl, ⟨_, hK ▸ Same.seqT s h1⟩, k _ xs rfl (hK ▸ src_tup (K := X.K) (hK ▸ h1) (hK ▸ h2))⟩
      | str z =>
        refine .inr (.inr (go _ fun x' env1' e' v B1 H1 hx s k => ?_))
        rw [em] at e'
        cases e'
        cases hx
        exact ⟨z, rfl, k _ _ rfl src_str⟩
      | _ => simp only [iAny, em, RE.bind, itemsOf, lft] at h1; exact h1.elim
    | ex c x env1 => exact .inl (go _ fun x' env1' e' => by rw [em] at e'; cases e')
    | no => simp only [iAny, em, RE.bind] at h1; exact h1.elim
/-- range(n), range(a, b) -/
def rng (lo hi : Int) : List D := (List.range (hi - lo).toNat).map fun i => .int (lo + (i : Nat))
def dRng1 : List D → Option (List D)
  | [.int j] => if decide (-(2 ^ 62) ≤ j ∧ j < 2 ^ 62) then some (rng 0 j) else none
  | _ => none
def dRng2 : List D → Option (List D)
  | [.int i, .int j] => if decide (-(2 ^ 62) ≤ i ∧ i < 2 ^ 62 ∧ -(2 ^ 62) ≤ j ∧ j < 2 ^ 62) then some (rng i j) else none
  | _ => none
def iRg1 (ms : Env → RE (List D)) : Env → RE (List D) := fun env => (ms env).bind fun xs env => lft (dRng1 xs) env
def iRg2 (ms : Env → RE (List D)) : Env → RE (List D) := fun env => (ms env).bind fun xs env => lft (dRng2 xs) env
theorem dRng1_eq {xs : List D} {z : List D} (e : dRng1 xs = some z) : ∃ j, xs = [.int j] ∧ (-(2 ^ 62) ≤ j ∧ j < 2 ^ 62) ∧ z = rng 0 j := by
  unfold dRng1 at e
  split at e
  · rename_i j
    split at e
    · rename_i g
      cases e
      exact ⟨j, rfl, of_decide_eq_true g, rfl⟩
    · cases e
  · cases e
theorem dRng2_eq {xs : List D} {z : List D} (e : dRng2 xs = some z) : ∃ i j, xs = [.int i, .int j] ∧ (-(2 ^ 62) ≤ i ∧ i < 2 ^ 62 ∧ -(2 ^ 62) ≤ j ∧ j < 2 ^ 62) ∧ z = rng i j := by
  unfold dRng2 at e
  split at e
  · rename_i i j
    split at e
    · rename_i g
      cases e
      exact ⟨i, j, rfl, of_decide_eq_true g, rfl⟩
    · cases e
  · cases e
theorem src_rng {K : Fg} {lo : Int} {n : Nat} {B : Hp} : Src K (Itr lo n) B ((List.range n).map fun i => .int (lo + (i : Nat))) := fun B1 H1 s1 s2 => by
  have wk := walk_range (lo := lo) (n := n)
  have hl : ((List.range n).map fun i => PyData.int (lo + (i : Nat))).length = n := by rw [List.length_map, List.length_range]
  rw [hl]
  refine ⟨wk.stops H1 trivial, fun i x hx => ?_⟩
  have hi : i < n := by
    have := (List.getElem?_eq_some_iff.mp hx).1
    rw [hl] at this
    exact this
  have ex : x = .int (lo + (i : Nat)) := by
    rw [List.getElem?_map, List.getElem?_range hi] at hx
    exact (Option.some.inj hx).symm
  subst ex
  refine ⟨wk.goes i H1 hi trivial, fun u H2 y => ?_⟩
  obtain ⟨rfl, rfl⟩ := wk.yields i H1 u H2 hi trivial y
  exact ⟨B1, Tr.refl, s2, .int _⟩
theorem bi_range1 {ms : Env → RE (List D)} (h : PI X tg e (iRng1 (taD T ms))) : PI X tg e (tiD T (iRg1 ms)) :=
  piw h fun σ H R q => gen_mono (seqE (R1 := rA T.K) q rA_nil) fun vs H1 ⟨xs, B1, ⟨_, hx⟩, h1⟩ => by
    obtain ⟨z, e, s, k⟩ := doneB h1
    obtain ⟨j, rfl, g, rfl⟩ := dRng1_eq e
    cases hx with
    | cons a b =>
      cases a
      cases b
      refine ⟨j, rfl, g.1, g.2, k _ B1 H1 Tr.refl s ⟨rfl, ?_⟩⟩
      have := src_rng (K := T.K) (lo := 0) (n := j.toNat) (B := B1)
      unfold rng
      rw [Int.sub_zero]
      exact this
theorem bi_range2 {ms : Env → RE (List D)} (h : PI X tg e (iRng2 (taD T ms))) : PI X tg e (tiD T (iRg2 ms)) :=
  piw h fun σ H R q => gen_mono (seqE (R1 := rA T.K) q rA_nil) fun vs H1 ⟨xs, B1, ⟨_, hx⟩, h1⟩ => by
    obtain ⟨z, e, s, k⟩ := doneB h1
    obtain ⟨i, j, rfl, g, rfl⟩ := dRng2_eq e
    cases hx with
    | cons a b =>
      cases b with
      | cons b c =>
        cases a
        cases b
        cases c
        exact ⟨i, j, rfl, g, k _ B1 H1 Tr.refl s ⟨rfl, src_rng⟩⟩
end

/-! ### for -/
def forL (tm : D → Env → Option Env) (body : Env → RS) : List D → Env → RS
  | [], env => .nx env
  | x :: xs, env => match tm x env with
    | none => .no
    | some env1 => match body env1 with
      | .nx e => forL tm body xs e
      | .ct e => forL tm body xs e
      | .bk e => .nx e
      | r => r
def sFor (tm : D → Env → Option Env) (it : Env → RE (List D)) (body : Env → RS) : Env → RS := fun env => bindS (it env) fun xs env => forL tm body xs env
section
variable {X : Cx} {T : Tb}
theorem drop_eq {α : Type} {xs : List α} {i : Nat} (h : i < xs.length) : xs.drop i = xs[i] :: xs.drop (i + 1) := List.drop_eq_getElem_cons h
theorem bs_for {st : Stmt} {g : TG} {tm : D → Env → Option Env} {it : Env → RE (List D)} {mb : Env → RS} {is : List Nat} (ht : TgOk T g is tm) (h : PS X st (tFor (tiD T it) g (tsS T mb))) : PS X st (tsS T (sFor tm it mb)) :=
  psw h fun D σ0 H0 h => gen_mono (seqSE (R1 := rSrc T.K) h rSrc_nil) fun J H1 ⟨xs, B1, ⟨_, hs⟩, h1⟩ => by
    refine ⟨fun i m σ H => i ≤ xs.length ∧ m = xs.length - i ∧ ∃ B env A, Same B1 B ∧ Good T B H σ env A ∧ evS T B H A σ D (forL tm mb (xs.drop i) env), ?_, ?_⟩
    · obtain ⟨env, A, g, h1⟩ := h1
      exact ⟨xs.length, Nat.zero_le _, rfl, B1, env, A, Same.refl B1, g, h1⟩
    · rintro i m σ H ⟨hi, rfl, B, env, A, sb, gd, hev⟩
      obtain ⟨hstop, hgo⟩ := hs B H sb gd.bh
      by_cases hlt : i < xs.length
      · refine .inr ⟨(hgo i xs[i] (List.getElem?_eq_getElem hlt)).1, fun σ' H' => i + 1 ≤ xs.length ∧ ∃ B env A, Same B1 B ∧ Good T B H' σ' env A ∧ evS T B H' A σ' D (forL tm mb (xs.drop (i + 1)) env), fun σ' H' hn => ⟨xs.length - (i + 1), by omega, hn.1, rfl, hn.2⟩, fun v H2 hy => ?_⟩
        obtain ⟨B2, t2, s2, hx⟩ := (hgo i xs[i] (List.getElem?_eq_getElem hlt)).2 v H2 hy
        rw [drop_eq hlt] at hev
        unfold forL at hev
        have kp : Keeps B H B2 H2 A := t2.keeps (fun _ _ => List.not_mem_nil) fun a ha => (env_known gd.er a ha).1
        have g2 : Good T B2 H2 σ env A := ⟨s2, env_keep gd.er kp, gd.nd⟩
        have w2 : Tr B H A B2 H2 A := t2.widen0
        cases et : tm xs[i] env with
        | none => simp only [et] at hev; exact hev.elim
        | some env1 =>
          simp only [et] at hev
          refine ht B2 H2 σ env A v xs[i] env1 _ g2 hx et fun σ3 A3 p3 _ t3 g3 => ⟨B2, env1, A3, g3, ?_⟩
          have hev' := evS.trans p3 (w2.trans t3) hev
          cases eb : mb env1 with
          | nx e =>
            simp only [eb] at hev'
            exact fun σ' B' H' A' p t g => ⟨hlt, B', e, A', sb.trans (w2.bb.trans t.bb), g, evS.trans p t hev'⟩
          | ct e =>
            simp only [eb] at hev'
            exact fun σ' B' H' A' p t g => ⟨hlt, B', e, A', sb.trans (w2.bb.trans t.bb), g, evS.trans p t hev'⟩
          | bk e => simp only [eb] at hev'; exact hev'
          | rt r e => simp only [eb] at hev'; exact hev'
          | ex c x e => simp only [eb] at hev'; exact hev'
          | no => simp only [eb] at hev'; exact hev'.elim
      · have e : i = xs.length := by omega
        subst e
        rw [List.drop_length] at hev
        exact .inl ⟨hstop, hev σ B H A Pin.refl Tr.refl gd⟩

/-! ### while -/
def whileL (c : Env → RE Bool) (body : Env → RS) : Nat → Env → RS
  | 0, _ => .no
  | n + 1, env => bindS (c env) fun b env => if b then (match body env with
      | .nx e => whileL c body n e
      | .ct e => whileL c body n e
      | .bk e => .nx e
      | r => r) else .nx env
def sWhile (fuel : Nat) (c : Env → RE Bool) (body : Env → RS) : Env → RS := fun env => whileL c body fuel env
theorem bs_while {c : Env → RE Bool} {mb : Env → RS} {st : Stmt} (fuel : Nat) (h : PS X st (tWhile (ttD T c) (tsS T mb))) : PS X st (tsS T (sWhile fuel c mb)) :=
  psw h fun D σ0 H0 ⟨B0, env0, A0, g0, h0⟩ => by
    refine ⟨fun m σ H => ∃ B env A, Good T B H σ env A ∧ evS T B H A σ D (whileL c mb m env), ⟨fuel, B0, env0, A0, g0, h0⟩, ?_⟩
    rintro m σ H ⟨B, env, A, gd, hev⟩
    cases m with
    | zero => exact hev.elim
    | succ m =>
      rw [whileL] at hev
      refine gen_mono (seqSE (R1 := rT) (D := D) (m := c) (k := fun b env => if b then (match mb env with | .nx e => whileL c mb m e | .ct e => whileL c mb m e | .bk e => .nx e | r => r) else .nx env) ⟨B, env, A, gd, hev⟩ rT_nil) fun b H1 ⟨x, B1, ⟨_, hx⟩, env1, A1, g1, h1⟩ => ?_
      subst hx
      cases b with
      | false => exact h1 σ B1 H1 A1 Pin.refl Tr.refl g1
      | true =>
        refine ⟨fun σ' H' => ∃ B env A, Good T B H' σ' env A ∧ evS T B H' A σ' D (whileL c mb m env), fun σ' H' hn => ⟨m, Nat.lt_succ_self m, hn⟩, B1, env1, A1, g1, ?_⟩
        replace h1 : evS T B1 H1 A1 σ D (match mb env1 with | .nx e => whileL c mb m e | .ct e => whileL c mb m e | .bk e => .nx e | r => r) := h1
        cases eb : mb env1 with
        | nx e =>
          simp only [eb] at h1
          exact fun σ' B' H' A' p t g => ⟨B', e, A', g, evS.trans p t h1⟩
        | ct e =>
          simp only [eb] at h1
          exact fun σ' B' H' A' p t g => ⟨B', e, A', g, evS.trans p t h1⟩
        | bk e => simp only [eb] at h1; exact h1
        | rt r e => simp only [eb] at h1; exact h1
        | ex c x e => simp only [eb] at h1; exact h1
        | no => simp only [eb] at h1; exact h1.elim
end

/-! ### list comprehensions -/
def wipeE (env : Env) : List Nat → Env
  | [] => env
  | i :: r => (wipeE env r).set i .un
/-- no exception is let out -/
def noex {α : Type} : RE α → RE α
  | .ex _ _ _ => .no
  | r => r
def compL (vs : List Nat) (tm : D → Env → Option Env) (tt : Env → RE Bool) (te : Env → RE D) : List D → List D → Env → RE (List D)
  | [], acc, env => .ok acc (wipeE env vs)
  | x :: xs, acc, env => match tm x (wipeE env vs) with
    | none => .no
    | some env1 => (noex (tt env1)).bind fun b env2 => if b then (noex (te env2)).bind fun y env3 => if acc.length < 16777216 then compL vs tm tt te xs (acc ++ [y]) env3 else .no else compL vs tm tt te xs acc env2
def nComp (vs : List Nat) (tm : D → Env → Option Env) (it : Env → RE (List D)) (tt : Env → RE Bool) (te : Env → RE D) : Env → RE Sl := fun env => (it env).bind fun xs env => (compL vs tm tt te xs [] env).bind fun acc env => .ok (.l acc) env
def ttYes : Env → RE Bool := fun env => .ok true env
section
variable {K : Fg} {cls : Str → Option Addr} {B H : Hp}
theorem wipe_eq (σ : St) (i : Nat) (r : List Nat) : wipe σ (i :: r) = (wipe σ r).set i none := by
  first | rfl | (unfold wipe; rfl)
theorem env_wipe : ∀ (vs : List Nat) {σ : St} {env : Env} {A : List Addr}, EnvR K cls B H σ env A → A.Nodup → ∃ A', EnvR K cls B H (wipe σ vs) (wipeE env vs) A' ∧ A'.Nodup ∧ ∀ a ∈ A', a ∈ A
  | [], _, _, A, h, n => ⟨A, h, n, fun _ z => z⟩
  | i :: r, σ, env, A, h, n => by
    obtain ⟨A1, h1, n1, k1⟩ := env_wipe r h n
    obtain ⟨A2, h2, n2, k2⟩ := env_set i (s' := none) (e' := .un) (A2 := []) h1 (.inl ⟨rfl, rfl⟩) (fun _ z => nomatch z) n1 List.nodup_nil
    exact ⟨A2, by rw [wipe_eq]; exact h2, n2, fun a ha => (k2 a ha).elim (k1 a) fun z => nomatch z⟩
theorem env_un : ∀ {σ : St} {env : Env} {A : List Addr} (i : Nat) (s : Option V), EnvR K cls B H σ env A → (env[i]? = some .un ∨ env[i]? = none) → EnvR K cls B H (σ.set i s) env A
  | _, _, _, i, s, .nil, _ => by simpa using EnvR.nil
  | _, _, _, 0, s, .un r, _ => .un r
  | _, _, _, 0, s, .cons o r, h => by
    rcases h with h | h
    · simp at h
      subst h
      cases o
    · simp at h
  | _, _, _, i + 1, s, .un r, h => .un (env_un i s r (by simpa using h))
  | _, _, _, i + 1, s, .cons o r, h => .cons o (env_un i s r (by simpa using h))
theorem wipeE_at : ∀ (vs : List Nat) (env : Env) (i : Nat), i ∈ vs → (wipeE env vs)[i]? = some .un ∨ (wipeE env vs)[i]? = none
  | j :: r, env, i, h => by
    by_cases e : j = i
    · subst e
      show ((wipeE env r).set j .un)[j]? = some .un ∨ ((wipeE env r).set j .un)[j]? = none
      by_cases hj : j < (wipeE env r).length
      · exact .inl (List.getElem?_set_self hj)
      · exact .inr (List.getElem?_eq_none (by rw [List.length_set]; omega))
    · show ((wipeE env r).set j .un)[i]? = some .un ∨ ((wipeE env r).set j .un)[i]? = none
      rw [List.getElem?_set_ne e]
      exact wipeE_at r env i ((List.mem_cons.mp h).resolve_left fun z => e z.symm)
/-- slots that hold nothing known may hold anything -/
theorem env_free : ∀ (vs : List Nat) {σ σ' : St} {env : Env} {A : List Addr}, EnvR K cls B H σ env A → σ'.length = σ.length → (∀ i, i ∉ vs → σ'[i]? = σ[i]?) → (∀ i, i ∈ vs → env[i]? = some .un ∨ env[i]? = none) → EnvR K cls B H σ' env A
  | [], σ, σ', env, A, h, hl, ho, hu => by
    have : σ' = σ := List.ext_getElem? fun i => ho i (by simp)
    rw [this]
    exact h
  | j :: r, σ, σ', env, A, h, hl, ho, hu => by
    by_cases hj : j < σ.length
    · have h1 := env_un j (σ'[j]'(by omega)) h (hu j List.mem_cons_self)
      refine env_free r h1 (hl.trans List.length_set.symm) (fun i hi => ?_) fun i hi => hu i (List.mem_cons_of_mem _ hi)
      by_cases e : j = i
      · subst e
        rw [List.getElem?_set_self hj, List.getElem?_eq_getElem (by omega)]
      · rw [List.getElem?_set_ne e]
        exact ho i fun z => (List.mem_cons.mp z).elim (fun q => e q.symm) hi
    · refine env_free r h hl (fun i hi => ?_) fun i hi => hu i (List.mem_cons_of_mem _ hi)
      by_cases e : j = i
      · subst e
        rw [List.getElem?_eq_none (by omega), List.getElem?_eq_none (by omega)]
      · exact ho i fun z => (List.mem_cons.mp z).elim (fun q => e q.symm) hi
end
theorem wipe_in : ∀ (vs : List Nat) (σ : St) (i : Nat), i ∈ vs → i < σ.length → (wipe σ vs)[i]? = some none
  | j :: r, σ, i, h, hl => by
    rw [wipe_eq]
    by_cases e : j = i
    · subst e
      rw [List.getElem?_set_self (by rw [wipe_length]; exact hl)]
    · rw [List.getElem?_set_ne e]
      exact wipe_in r σ i ((List.mem_cons.mp h).resolve_left fun z => e z.symm) hl
theorem wipe_same {vs is : List Nat} {σ σ' : St} (hs : ∀ i ∈ is, i ∈ vs) (h : Only is (wipe σ vs) σ') : wipe σ' vs = wipe σ vs := by
  have hl : σ'.length = σ.length := by rw [h.1, wipe_length]
  refine List.ext_getElem? fun i => ?_
  by_cases hi : i ∈ vs
  · by_cases hb : i < σ.length
    · rw [wipe_in vs σ i hi hb, wipe_in vs σ' i hi (by omega)]
    · rw [List.getElem?_eq_none (by rw [wipe_length]; omega), List.getElem?_eq_none (by rw [wipe_length]; omega)]
  · rw [wipe_out hi, h.2 i fun z => hi (hs i z)]
section
variable {X : Cx} {T : Tb}
/-- the same, no exception wished for -/
abbrev Tb.calm (T : Tb) : Tb := ⟨T.K, T.cls, T.pins, none⟩
theorem Good.calm {B H : Hp} {σ : St} {env : Env} {A : List Addr} (g : Good T B H σ env A) : Good T.calm B H σ env A := ⟨g.bh, g.er, g.nd⟩
theorem Good.ofCalm {B H : Hp} {σ : St} {env : Env} {A : List Addr} (g : Good T.calm B H σ env A) : Good T B H σ env A := ⟨g.bh, g.er, g.nd⟩
/-- an owned list is written -/
theorem tr_write {B H : Hp} {A : List Addr} {p : Addr} {o : HO} (hp : p ∈ A) (hn : H p ≠ none) : Tr B H A B (upd H p o) A :=
  ⟨Same.refl B, fun a u ha e => by rw [upd_ne fun q => ha (by rw [q]; exact hp)]; exact e, fun a h => by
    by_cases q : a = p
    · rw [q, upd_same] at h; cases h
    · rw [upd_ne q] at h; exact h, fun _ _ _ z => z, fun a h => .inl h⟩
theorem keepL {B H B' H' : Hp} {A A' : List Addr} {L : Addr} {ws : List V} (t : Tr B H A B' H' A') (hA : L ∉ A) (hl : H L = some (.lst ws)) (hb : B L = none) : H' L = some (.lst ws) ∧ B' L = none ∧ L ∉ A' :=
  ⟨t.fr L _ hA hl, t.nb L hA (fun z => by rw [hl] at z; cases z) hb, fun z => (t.na L z).elim hA fun q => by rw [hl] at q; cases q⟩
theorem compL_ex {vs : List Nat} {tm : D → Env → Option Env} {tt : Env → RE Bool} {te : Env → RE D} {c : Str} {x : D} {e : Env} : ∀ (xs acc : List D) (env : Env), compL vs tm tt te xs acc env ≠ .ex c x e
  | [], acc, env => by rw [compL]; exact fun z => nomatch z
  | y :: ys, acc, env => fun z => by
    rw [compL] at z
    split at z
    · cases z
    · rename_i env1 _
      cases ett : tt env1 with
      | ex c x e => simp only [ett, noex, RE.bind] at z; cases z
      | no => simp only [ett, noex, RE.bind] at z; cases z
      | ok b env2 =>
        simp only [ett, noex, RE.bind] at z
        split at z
        · cases ete : te env2 with
          | ex c x e => simp only [ete] at z; cases z
          | no => simp only [ete] at z; cases z
          | ok y env3 =>
            simp only [ete] at z
            split at z
            · exact compL_ex _ _ _ z
            · cases z
        · exact compL_ex _ _ _ z
theorem comp_to {g : TG} {tm : D → Env → Option Env} {is vs : List Nat} {it : Env → RE (List D)} {tt : Env → RE Bool} {te : Env → RE D} (ht : TgOk T.calm g is tm) (hs : ∀ i ∈ is, i ∈ vs) :
    ∀ σ H Q, teN T (nComp vs tm it tt te) σ H Q → tLc (tiD T it) g (ttD T.calm tt) (teD T.calm te) vs σ H Q :=
  fun σ H0 Q h => gen_mono (seqE (R1 := rSrc T.K) h rSrc_nil) fun J H1 ⟨xs, B1, ⟨_, hsrc⟩, env0, A0, g0, h0⟩ => by
    intro L hL
    -- what is wanted at the end
    let fin : Hp → Hp → List Addr → RE (List D) → Prop := fun B H A r => match r with
      | .ok acc env' => ∀ B' H' A' ws, Tr B H (A ++ [L]) B' H' (A' ++ [L]) → Good T B' H' σ env' A' → H' L = some (.lst ws) → B' L = none → L ∉ A' → DqAll T.K B' ws acc → Q (.ref L) H'
      | _ => False
    have fin_trans : ∀ {B H B1 H1 : Hp} {A A1 : List Addr} {r : RE (List D)}, Tr B H (A ++ [L]) B1 H1 (A1 ++ [L]) → fin B H A r → fin B1 H1 A1 r := fun {B H B1 H1 A A1 r} t f => by
      cases r with
      | ok acc env' => exact fun B' H' A' ws t' => f B' H' A' ws (t.trans t')
      | ex c x env' => exact f
      | no => exact f
    have b1L : B1 L = none := g0.bh.free hL
    have nLA : L ∉ A0 := fun z => (env_known g0.er L z).1 hL
    obtain ⟨A00, er0, n00, k00⟩ := env_wipe vs g0.er g0.nd
    obtain ⟨t0, s0, _⟩ := tr_own (B := B1) (o := .lst []) hL g0.bh
    have sub : ∀ {A A' : List Addr}, (∀ a ∈ A', a ∈ A) → ∀ a ∈ A' ++ [L], a ∈ A ++ [L] := fun {A A'} h a ha => (List.mem_append.mp ha).elim (fun z => List.mem_append_left _ (h a z)) fun z => List.mem_append_right _ z
    have t0' : Tr B1 H1 A0 B1 (upd H1 L (.lst [])) (A0 ++ [L]) := (t0.widen (R := A0)).perm (fun a => by simp) fun a ha => by
      rcases List.mem_append.mp ha with z | z
      · exact List.mem_append_right _ z
      · exact List.mem_append_left _ z
    refine ⟨fun i m H => i ≤ xs.length ∧ m = xs.length - i ∧ ∃ B env A acc ws, Same B1 B ∧ Good T B H (wipe σ vs) (wipeE env vs) A ∧ H L = some (.lst ws) ∧ B L = none ∧ L ∉ A ∧ DqAll T.K B ws acc ∧ fin B H A (compL vs tm tt te (xs.drop i) acc env), ?_, ?_⟩
    · refine ⟨xs.length, Nat.zero_le _, rfl, B1, env0, A00, [], [], Same.refl B1, ⟨s0, ?_, n00⟩, upd_same, b1L, fun z => nLA (k00 L z), .nil, ?_⟩
      · exact env_keep er0 ⟨Same.refl B1, fun a o ha e => by rw [upd_ne fun q => nLA (by rw [← q]; exact k00 a ha)]; exact e, fun _ _ z => z⟩
      · rw [List.drop_zero]
        cases ec : compL vs tm tt te xs [] env0 with
        | ok acc env' =>
          simp only [ec, RE.bind] at h0
          intro B' H' A' ws w g' hl hb hn hd
          refine h0 (.ref L) B' H' A' [L] (t0'.trans ?_) g' (.l hb hl hd) (by simp) fun a ha => by rw [List.mem_singleton.mp ha]; exact hn
          exact ⟨w.bb, fun x o hx e => w.fr x o (fun z => hx (sub k00 x z)) e, w.st, fun x hx a b => w.nb x (fun z => hx (sub k00 x z)) a b, fun x hx => (w.na x hx).imp (sub k00 x) id⟩
        | ex c x env' => exact absurd ec (compL_ex _ _ _)
        | no => simp only [ec, RE.bind] at h0; exact h0.elim
    · rintro i m H ⟨hi, rfl, B, env, A, acc, ws, sb, gd, hlL, hbL, hnL, hd, hf⟩
      obtain ⟨hstop, hgo⟩ := hsrc B H sb gd.bh
      have neL : ∀ {H : Hp} {ws : List V}, H L = some (.lst ws) → H L ≠ none := fun e z => by rw [e] at z; cases z
      by_cases hlt : i < xs.length
      · refine .inr ⟨(hgo i xs[i] (List.getElem?_eq_getElem hlt)).1, fun H' => i + 1 ≤ xs.length ∧ ∃ B env A acc ws, Same B1 B ∧ Good T B H' (wipe σ vs) (wipeE env vs) A ∧ H' L = some (.lst ws) ∧ B L = none ∧ L ∉ A ∧ DqAll T.K B ws acc ∧ fin B H' A (compL vs tm tt te (xs.drop (i + 1)) acc env),
          fun H' hn => ⟨xs.length - (i + 1), by omega, hn.1, rfl, hn.2⟩, fun v H2 hy => ?_⟩
        obtain ⟨B2, t2, s2, hx⟩ := (hgo i xs[i] (List.getElem?_eq_getElem hlt)).2 v H2 hy
        rw [drop_eq hlt] at hf
        have kp : Keeps B H B2 H2 A := t2.keeps (fun _ _ => List.not_mem_nil) fun a ha => (env_known gd.er a ha).1
        have g2 : Good T B2 H2 (wipe σ vs) (wipeE env vs) A := ⟨s2, env_keep gd.er kp, gd.nd⟩
        have w2 : Tr B H (A ++ [L]) B2 H2 (A ++ [L]) := t2.widen0
        obtain ⟨hl2, hb2, _⟩ := keepL t2 List.not_mem_nil hlL hbL
        rw [compL] at hf
        cases et : tm xs[i] (wipeE env vs) with
        | none => simp only [et] at hf; exact hf.elim
        | some env1 =>
          simp only [et] at hf
          refine ht B2 H2 (wipe σ vs) (wipeE env vs) A v xs[i] env1 _ g2.calm hx et fun σ3 A3 p3 o3 t3 g3 => ⟨wipe_same hs o3, B2, env1, A3, g3, ?_⟩
          obtain ⟨_, _, hn3⟩ := keepL t3 hnL hl2 hb2
          have w3 : Tr B H (A ++ [L]) B2 H2 (A3 ++ [L]) := w2.trans t3.widen
          cases ett : tt env1 with
          | ex c x e => simp only [ett, noex, RE.bind] at hf; exact hf.elim
          | no => simp only [ett, noex, RE.bind] at hf; exact hf.elim
          | ok b env2 =>
            simp only [ett, noex, RE.bind] at hf
            intro b' B3 H3 A4 A5 t4 g4 r4 _ _
            obtain ⟨rfl, rfl⟩ := r4
            rw [List.append_nil] at t4
            obtain ⟨hl3, hb3, hn4⟩ := keepL t4 hn3 hl2 hb2
            have w4 : Tr B H (A ++ [L]) B3 H3 (A4 ++ [L]) := w3.trans t4.widen
            cases b' with
            | false =>
              simp only [Bool.false_eq_true, if_false] at hf
              obtain ⟨A6, er6, n6, k6⟩ := env_wipe vs g4.er g4.nd
              rw [wipe_same hs o3] at er6
              exact ⟨hlt, B3, env2, A6, acc, ws, sb.trans w4.bb, ⟨g4.bh, er6, n6⟩, hl3, hb3, fun z => hn4 (k6 L z), dps_mono w4.bb _ _ hd, fin_trans (w4.less (sub k6)) hf⟩
            | true =>
              simp only [if_true] at hf
              refine ⟨B3, env2, A4, g4, ?_⟩
              cases ete : te env2 with
              | ex c x e => simp only [ete] at hf; exact hf.elim
              | no => simp only [ete] at hf; exact hf.elim
              | ok y env3 =>
                simp only [ete] at hf
                intro vy B4 H4 A6 A7 t5 g5 r5 _ _
                obtain ⟨rfl, dy⟩ := r5
                rw [List.append_nil] at t5
                obtain ⟨hl4, hb4, hn6⟩ := keepL t5 hn4 hl3 hb3
                have w5 : Tr B H (A ++ [L]) B4 H4 (A6 ++ [L]) := w4.trans t5.widen
                split at hf
                · rename_i hz
                  obtain ⟨A8, er8, n8, k8⟩ := env_wipe vs g5.er g5.nd
                  rw [wipe_same hs o3] at er8
                  have d4 : DqAll T.K B4 ws acc := dps_mono w5.bb _ _ hd
                  have hn8 : L ∉ A8 := fun z => hn6 (k8 L z)
                  have w8 : Tr B H (A ++ [L]) B4 (upd H4 L (.lst (ws ++ [vy]))) (A8 ++ [L]) := (w5.less (sub k8)).trans (tr_write (List.mem_append_right _ (List.mem_singleton.mpr rfl)) (neL hl4))
                  refine ⟨ws, hl4, lt_lim (by rw [dps_length d4]; exact hz), hlt, B4, env3, A8, acc ++ [y], ws ++ [vy], sb.trans w5.bb, ⟨fun a o e => ?_, env_keep er8 ⟨Same.refl B4, fun a o ha e => ?_, fun _ _ z => z⟩, n8⟩, upd_same, hb4, hn8, dps_app d4 (dps_one dy), fin_trans w8 hf⟩
                  · rw [upd_ne (ne_of_none e hb4)]
                    exact g5.bh a o e
                  · rw [upd_ne fun q => hn8 (by rw [← q]; exact ha)]
                    exact e
                · exact hf.elim
      · have e : i = xs.length := by omega
        subst e
        rw [List.drop_length, compL] at hf
        have er : EnvR T.K T.cls B H σ (wipeE env vs) A := env_free vs gd.er (wipe_length σ vs).symm (fun i hi => (wipe_out hi).symm) fun i hi => wipeE_at vs env i hi
        exact .inl ⟨hstop, hf B H A ws Tr.refl ⟨gd.bh, er, gd.nd⟩ hlL hbL hnL hd⟩
theorem bn_comp {e0 : Expr} {g : TG} {tm : D → Env → Option Env} {is vs : List Nat} {it : Env → RE (List D)} {tt : Env → RE Bool} {te : Env → RE D} (ht : TgOk T.calm g is tm) (hs : ∀ i ∈ is, i ∈ vs)
    (h : PE X e0 (tLc (tiD T it) g (ttD T.calm tt) (teD T.calm te) vs)) : PE X e0 (teN T (nComp vs tm it tt te)) := pew h (comp_to ht hs)
end
end BV

/-! BV9: defs and their calls; no repr is under way around them. -/
namespace BV
open PySem PySem.Spec PyProof.Rows L2

/-- a def's promise, wherever no repr is under way -/
structure FnG (P : Program) (w : World) (K : Fg) (mg : Str → Option Value) (base : Heap) (CX : CXT) (k : Nat) (f : Addr) (fd : FuncData) (ps : List Str) (sp : Sp) : Prop where
  len : ∀ vs H Q E, sp vs H Q E → vs.length = ps.length
  run : ∀ (A : Around) (outer : List PySem.Env) (s : Shared) (H : Hp) (args : Args) (us : List Value) (vs : List V) (Q : VK) (E : XK), A.guards = some [] → Room k A → Env0 P w K mg base A outer s H → BindsTo s fd args (ps.zip us) → Vals vs us → sp vs H Q E →
    codeAny (model P w) A (.call (.ref f) args) (CR CX outer P w H s Q E) s

theorem guards_deeper {A : Around} {env : PySem.Env} (h : A.guards = some []) : (A.deeper env).guards = some [] := h
/-- a def by its body -/
theorem fnG_of {CX : CXT} {P : Program} {w : World} {K : Fg} {mg : Str → Option Value} {base : Heap} {k : Nat} {f : Addr} {qual : Str} {st : Stmt} {fd : FuncData} {x : Str} {N ps : List Str} {sp : Sp}
    (F : Fun K x qual st f fd) (S : FnScope N ps (defScope st)) (hlen : ∀ vs H Q E, sp vs H Q E → vs.length = ps.length)
    (go : ∀ (cdv : Value) (A : Around) (outer : List PySem.Env) (s : Shared) (H : Hp) (vs : List V) (Q : VK) (E : XK), A.guards = some [] → Room k (A.deeper (envOfC qual (defScope st) s.heap.objs.size f cdv)) → sp vs H Q E →
      ∃ t, PSs (cxOf CX P w K mg base N qual (defScope st) f cdv A outer s H E) (defBody st) t ∧ t ⟨fun _ H' => Q .non H', Q, fun _ _ => False, fun _ _ => False⟩ (start N vs) H) : FnG P w K mg base CX (k + 1) f fd ps sp := by
  obtain ⟨oc, od, kV, doc, pm, an, cdv, ct, osl, rfl, lk, hcd⟩ := F.ex
  refine ⟨hlen, fun A outer s H args us vs Q E hg hr e0 hb rv hsp => ?_⟩
  have inS : K.In s.heap := e0.mod.kin.keeps fun b o e => (e0.bs b o e).1
  have noLim : s.heap.NoLimit := e0.mod.nolimit.keeps fun b o e => (e0.bs b o e).1
  refine codeAny_call_function hr.depth (inS _ _ lk) rfl S.co S.gen rfl (PySem.W.codeRec_of inS hcd) (hb _ _ _ _ ?_)
  refine wpAny_newFunctionEnv_cells S.kind (fun p hp => ?_) fun env he s1 ic => ?_
  · obtain ⟨n, u⟩ := p
    exact (S.par n (List.of_mem_zip hp).1).imp id fun q => ⟨q, PySem.W.cellsFrom_some _ _ _ (.inl q)⟩
  · subst he
    obtain ⟨t, ht, hq⟩ := go cdv A outer s H vs Q E hg (hr.deeper _) hsp
    have I := inv_start (CX := CX) (E := E) S hr.hd e0 (hlen _ _ _ _ hsp) rv ic
    refine ⟨noLim.keeps ic.toInCall.keep, codeAny_func (wpAny_mono (ht.run [] s1 (start N vs) H _ I hq) (fun fl s' hs => ?_) fun e s' hs => hs)⟩
    match fl, hs with
    | .ret u, ⟨v, σ', H', J, ru, q⟩ => exact ⟨v, H', J.os, J.bare, J.base, J.hok, ru, q⟩
    | .next, ⟨σ', H', J, q⟩ => exact ⟨V.non, H', J.os, J.bare, J.base, J.hok, rfl, q⟩
    | .brk, ⟨_, _, _, q⟩ => exact q.elim
    | .cont, ⟨_, _, _, q⟩ => exact q.elim

section
variable {X : Cx} {CX : CXT} {k : Nat} {f : Addr} {fd : FuncData} {ps : List Str} {sp : Sp} {E : St → XK} {x : Str} {p pos : Pos} {e : Expr} {es : List Expr} {ta : TA}
theorem runG {pins : List (Addr × Obj)} {σ : St} {H : Hp} {s : Shared} {Q : VK} {us : List Value} {vs : List V} (F : FnG X.prog X.w X.K X.mg X.base CX k f fd ps sp) (hgd : X.A.guards = some []) (hr : Room k X.A) (hb : Binds X.K fd ps []) (hx : PassesAt CX X σ (E σ))
    (I : Inv X pins σ H s) (rv : Vals vs us) (h : sp vs H Q (E σ)) : wpAny (model X.prog X.w) X.A (call (.ref f) us) (EP X pins σ Q) X.xe s := by
  have hl : us.length = ps.length := rv.length.symm.trans (F.len _ _ _ _ h)
  have bs := hb s us I.kIn ((congrArg List.length (List.append_nil us)).trans hl)
  rw [List.append_nil] at bs
  refine wpAny_call (codeAny_mono (F.run X.A X.stack s H ⟨us, []⟩ us vs Q (E σ) hgd hr I.env0 bs rv h) fun r s' hq => ?_)
  match r, hq with
  | .error ev, hq => exact hx pins H s ev s' I hq
  | .ok (.ret u), hq => exact I.after hq
  | .ok .next, hq => exact hq.elim
  | .ok .brk, hq => exact hq.elim
  | .ok .cont, hq => exact hq.elim
def tCallG (sp : Sp) (E : St → XK) (t : TA) : TE := fun σ H Q => t σ H fun vs H1 => sp vs H1 Q (E σ)
theorem pe_callG (F : FnG X.prog X.w X.K X.mg X.base CX k f fd ps sp) (hgd : X.A.guards = some []) (hr : Room k X.A) (hg : Gl X x) (hm : X.mg x = some (.ref f)) (hk : PySem.W.keepIn X.K (.ref f) = true) (hb : Binds X.K fd ps []) (hx : ∀ σ, PassesAt CX X σ (E σ)) (ha : PA X (e :: es) ta)
    (hdb : (x == ("__debug__" : Str)) = false := by decide) (he : starEach (e :: es) X.env = (false, eval e X.env) :: starEach es X.env := by rfl) (hpl : (backTo pos (starEach es X.env)).any (·.1) = false := by rfl) : PE X (.Call (.Name x p) (e :: es) [] pos) (tCallG sp E ta) :=
  ⟨fun pins s σ H Q I h => wpAny_Call_Name_kw (ld_glob I hg hm (PySem.W.callWith_K (h₀ := X.base) I.ok.mod.kin hk (thn (ha.run pos pins s σ H _ I h) fun us s1 ⟨vs, H1, I1, rv, q⟩ => ⟨I1.kIn, runG F hgd hr hb (hx σ) I1 rv q⟩) he hpl) hdb)⟩
theorem pe_callG0 (F : FnG X.prog X.w X.K X.mg X.base CX k f fd ps sp) (hgd : X.A.guards = some []) (hr : Room k X.A) (hg : Gl X x) (hm : X.mg x = some (.ref f)) (hk : PySem.W.keepIn X.K (.ref f) = true) (hb : Binds X.K fd ps []) (hx : ∀ σ, PassesAt CX X σ (E σ))
    (hdb : (x == ("__debug__" : Str)) = false := by decide) : PE X (.Call (.Name x p) [] [] pos) (tCallG sp E tNil) :=
  ⟨fun pins s σ H Q I h => wpAny_Call_Name_kw (ld_glob I hg hm (PySem.W.callWith_K0 I.kIn hk (runG (us := []) F hgd hr hb (hx σ) I .nil h)) hdb)⟩
end

/-! ### arguments that may be owned -/
inductive AV where
  | v (x : D)
  | s (j : Nat)
inductive AVs (K : Fg) (B : Hp) (σ : St) : List V → List AV → Prop
  | nil : AVs K B σ [] []
  | v {v : V} {x : D} {vs : List V} {as : List AV} : Dq K B v x → AVs K B σ vs as → AVs K B σ (v :: vs) (.v x :: as)
  | s {v : V} {j : Nat} {vs : List V} {as : List AV} : σ[j]? = some (some v) → AVs K B σ vs as → AVs K B σ (v :: vs) (.s j :: as)
theorem avs_mono {K : Fg} {B B' : Hp} {σ : St} (e : Same B B') : ∀ {vs : List V} {as : List AV}, AVs K B σ vs as → AVs K B' σ vs as
  | _, _, .nil => .nil
  | _, _, .v a b => .v (dp_mono e _ _ a) (avs_mono e b)
  | _, _, .s a b => .s a (avs_mono e b)
theorem avs_len {K : Fg} {B : Hp} {σ : St} : ∀ {vs : List V} {as : List AV}, AVs K B σ vs as → vs.length = as.length
  | _, _, .nil => rfl
  | _, _, .v _ b => by rw [List.length_cons, List.length_cons, avs_len b]
  | _, _, .s _ b => by rw [List.length_cons, List.length_cons, avs_len b]
/-- the arguments' contents taken out of their slots -/
def takeA : List AV → Env → Option (List Sl × Env)
  | [], env => some ([], env)
  | .v x :: r, env => (takeA r env).map fun q => (.d x :: q.1, q.2)
  | .s j :: r, env => match env[j]? with
    | none => none
    | some .un => none
    | some e => (takeA r (env.set j .un)).map fun q => (e :: q.1, q.2)
/-- .. put back -/
def putA : List AV → List Sl → Env → Env
  | .s j :: r, o :: os, env => (putA r os env).set j o
  | .v _ :: r, _ :: os, env => putA r os env
  | _, _, env => env
section
variable {K : Fg} {cls : Str → Option Addr} {B H : Hp}
theorem take_ok : ∀ {avs : List AV} {vs : List V} {σ : St} {env env' : Env} {A : List Addr} {as : List Sl}, AVs K B σ vs avs → EnvR K cls B H σ env A → A.Nodup → takeA avs env = some (as, env') →
    ∃ Aa Ar, EnvR K cls B H (vs.map some) as Aa ∧ EnvR K cls B H σ env' Ar ∧ (Aa ++ Ar).Nodup ∧ ∀ a, a ∈ A ↔ a ∈ Aa ∨ a ∈ Ar
  | [], _, σ, env, env', A, as, .nil, er, nd, e => by
    cases e
    exact ⟨[], A, .nil, er, nd, fun a => by simp⟩
  | .v x :: r, _, σ, env, env', A, as, .v hx hr, er, nd, e => by
    obtain ⟨⟨as1, env1⟩, e1, e2⟩ := Option.map_eq_some_iff.mp e
    cases e2
    obtain ⟨Aa, Ar, h1, h2, h3, h4⟩ := take_ok hr er nd e1
    exact ⟨Aa, Ar, .cons (.d hx) h1, h2, h3, h4⟩
  | .s j :: r, _, σ, env, env', A, as, .s (v := u) hv hr, er, nd, e => by
    rw [takeA] at e
    split at e
    · cases e
    · cases e
    · rename_i s hs hne
      obtain ⟨⟨as1, env1⟩, e1, e2⟩ := Option.map_eq_some_iff.mp e
      cases e2
      obtain ⟨v, A1, A2, A3, g1, g2, g3, g4⟩ := env_at j er hne (fun z => hs z)
      rw [hv] at g1
      cases g1
      have nd' : (A1 ++ A2 ++ A3).Nodup := g3 ▸ nd
      have n1 := List.nodup_append.mp nd'
      have n2 := List.nodup_append.mp n1.1
      have er1 := g4 (B' := B) (H' := H) (s' := some u) (e' := .un) (A2' := []) (.inl ⟨rfl, rfl⟩) ⟨Same.refl B, fun _ _ _ e => e, fun _ _ e => e⟩
      rw [set_self hv] at er1
      rw [List.append_nil] at er1
      have nd1 : (A1 ++ A3).Nodup := List.nodup_append.mpr ⟨n2.1, n1.2.1, fun a ha b hb => n1.2.2 a (List.mem_append_left _ ha) b hb⟩
      obtain ⟨Aa, Ar, h1, h2, h3, h4⟩ := take_ok hr er1 nd1 e1
      refine ⟨A2 ++ Aa, Ar, .cons g2 h1, h2, ?_, fun a => ?_⟩
      · rw [List.append_assoc]
        refine List.nodup_append.mpr ⟨n2.2.1, h3, fun a ha b hb q => ?_⟩
        have : b ∈ A1 ++ A3 := (h4 b).mpr (List.mem_append.mp hb)
        rcases List.mem_append.mp this with z | z
        · exact n2.2.2 b z a ha q.symm
        · exact n1.2.2 a (List.mem_append_right _ ha) b z q
      · rw [g3]
        have := h4 a
        simp only [List.mem_append] at this ⊢
        constructor
        · rintro ((z | z) | z)
          · exact (this.mp (.inl z)).imp .inr id
          · exact .inl (.inl z)
          · exact (this.mp (.inr z)).imp .inr id
        · rintro ((z | z) | z)
          · exact .inl (.inr z)
          · exact (this.mpr (.inl z)).imp .inl id
          · exact (this.mpr (.inr z)).imp .inl id
theorem put_ok {B0 : Hp} : ∀ {avs : List AV} {vs : List V} {σ : St} {env : Env} {Ar Ao : List Addr} {outs : List Sl}, AVs K B0 σ vs avs → EnvR K cls B H σ env Ar → EnvR K cls B H (vs.map some) outs Ao → (Ao ++ Ar).Nodup →
    ∃ A', EnvR K cls B H σ (putA avs outs env) A' ∧ A'.Nodup ∧ ∀ a ∈ A', a ∈ Ao ∨ a ∈ Ar
  | [], _, σ, env, Ar, Ao, outs, .nil, er, eo, nd => by
    cases eo
    exact ⟨Ar, er, nd, fun a h => .inr h⟩
  | .v x :: r, _, σ, env, Ar, Ao, outs, .v hx hr, er, eo, nd => by
    cases eo with
    | un eo => exact put_ok (avs := r) hr er eo nd
    | cons o eo =>
      rw [List.append_assoc] at nd
      obtain ⟨A', h1, h2, h3⟩ := put_ok (avs := r) hr er eo (List.nodup_append.mp nd).2.1
      exact ⟨A', h1, h2, fun a ha => (h3 a ha).imp (List.mem_append_right _) id⟩
  | .s j :: r, _, σ, env, Ar, Ao, outs, .s (v := u) hv hr, er, eo, nd => by
    cases eo with
    | un eo =>
      obtain ⟨A', h1, h2, h3⟩ := put_ok (avs := r) hr er eo nd
      obtain ⟨A2, g1, g2, g3⟩ := env_set j (s' := some u) (e' := .un) (A2 := []) h1 (.inl ⟨rfl, rfl⟩) (fun _ z => nomatch z) h2 List.nodup_nil
      rw [set_self hv] at g1
      exact ⟨A2, g1, g2, fun a ha => (g3 a ha).elim (h3 a) fun z => nomatch z⟩
    | cons o eo =>
      rename_i e outs1 A1 A2
      rw [List.append_assoc] at nd
      obtain ⟨n1, n2, n3⟩ := List.nodup_append.mp nd
      obtain ⟨A', h1, h2, h3⟩ := put_ok (avs := r) hr er eo n2
      obtain ⟨A3, g1, g2, g3⟩ := env_set j (s' := some u) (e' := e) (A2 := A1) h1 (.inr ⟨_, rfl, o⟩) (fun a ha hb => n3 a ha a (List.mem_append.mpr (h3 a hb)) rfl) h2 n1
      rw [set_self hv] at g1
      refine ⟨A3, g1, g2, fun a ha => (g3 a ha).elim (fun z => (h3 a z).imp (List.mem_append_right _) id) fun z => .inl (List.mem_append_left _ z)⟩
end

/-! ### a def's promise by its mirror -/
def spM (xb : Bool) (K : Fg) (cls : Str → Option Addr) (m : List Sl → RF) : Sp := fun vs H Q E => ∃ B args A, Same B H ∧ EnvR K cls B H (vs.map some) args A ∧ A.Nodup ∧ match m args with
  | .ok r outs => ∀ v B' H' A1 A2, Tr B H A B' H' (A1 ++ A2) → Same B' H' → EnvR K cls B' H' (vs.map some) outs A1 → A1.Nodup → Own K cls B' H' r v A2 → A2.Nodup → (∀ a ∈ A2, a ∉ A1) → Q v H'
  | .ex c x outs => xb = true ∧ ∀ cl d B' H' A1, Tr B H A B' H' A1 → Same B' H' → EnvR K cls B' H' (vs.map some) outs A1 → A1.Nodup → XcR ⟨K, cls, [], none⟩ B' H' cl d c x → E cl d H'
  | .no => False
/-- the parameters' slots behind the body: those that always hold what was handed in -/
def mask (pins : List Nat) : Nat → Nat → Env → List Sl
  | _, 0, _ => []
  | j, n + 1, [] => .un :: mask pins (j + 1) n []
  | j, n + 1, e :: env => (if j ∈ pins then e else .un) :: mask pins (j + 1) n env
def runF (n N : Nat) (pins : List Nat) (body : Env → RS) (args : List Sl) : RF :=
  if args.length = n then match body (args ++ List.replicate (N - n) .un) with
  | .nx e => .ok (.d .none) (mask pins 0 n e)
  | .rt r e => .ok r (mask pins 0 n e)
  | .ex c x e => .ex c x (mask pins 0 n e)
  | _ => .no
  else .no
section
variable {K : Fg} {cls : Str → Option Addr} {B H : Hp}
theorem mask_ok {pins : List Nat} : ∀ (vs : List V) (j : Nat) {σ : St} {env : Env} {A : List Addr}, EnvR K cls B H σ env A → (∀ i, i < vs.length → j + i ∈ pins → σ[i]? = (vs.map some)[i]?) →
    ∃ A1, EnvR K cls B H (vs.map some) (mask pins j vs.length env) A1 ∧ A1.Sublist A
  | [], j, σ, env, A, er, hp => ⟨[], .nil, List.nil_sublist _⟩
  | v :: vs, j, _, _, _, .nil, hp => by
    obtain ⟨A1, h1, h2⟩ := mask_ok (pins := pins) vs (j + 1) (σ := []) (env := []) (A := []) .nil fun i hi hm => by
      have := hp (i + 1) (by simpa using hi) (by rw [show j + (i + 1) = j + 1 + i by omega]; exact hm)
      simpa using this
    exact ⟨A1, .un h1, h2⟩
  | v :: vs, j, _, _, _, .un er, hp => by
    obtain ⟨A1, h1, h2⟩ := mask_ok vs (j + 1) er fun i hi hm => by
      have := hp (i + 1) (by simpa using hi) (by rw [show j + (i + 1) = j + 1 + i by omega]; exact hm)
      simpa using this
    refine ⟨A1, ?_, h2⟩
    show EnvR K cls B H (some v :: vs.map some) ((if j ∈ pins then Sl.un else .un) :: mask pins (j + 1) vs.length _) A1
    rw [ite_self]
    exact .un h1
  | v :: vs, j, _, _, _, .cons (v := u) (A1 := Ah) (A2 := At) o er, hp => by
    obtain ⟨A1, h1, h2⟩ := mask_ok vs (j + 1) er fun i hi hm => by
      have := hp (i + 1) (by simpa using hi) (by rw [show j + (i + 1) = j + 1 + i by omega]; exact hm)
      simpa using this
    by_cases hj : j ∈ pins
    · have e := hp 0 (by simp) (by simpa using hj)
      simp at e
      subst e
      refine ⟨Ah ++ A1, ?_, List.Sublist.append (List.Sublist.refl _) h2⟩
      show EnvR K cls B H (some u :: vs.map some) ((if j ∈ pins then _ else Sl.un) :: mask pins (j + 1) vs.length _) _
      rw [if_pos hj]
      exact .cons o h1
    · refine ⟨A1, ?_, h2.trans (List.sublist_append_right _ _)⟩
      show EnvR K cls B H (some v :: vs.map some) ((if j ∈ pins then _ else Sl.un) :: mask pins (j + 1) vs.length _) _
      rw [if_neg hj]
      exact .un h1
theorem env_uns : ∀ n : Nat, EnvR K cls B H (List.replicate n none) (List.replicate n .un) []
  | 0 => .nil
  | n + 1 => .un (env_uns n)
theorem env_app {σ : St} {env : Env} {A : List Addr} (n : Nat) (h : EnvR K cls B H σ env A) : EnvR K cls B H (σ ++ List.replicate n none) (env ++ List.replicate n .un) A := by
  induction h with
  | nil => exact env_uns n
  | un h ih => exact .un ih
  | cons o h ih => exact .cons o ih
end
/-- what is wanted of an exception, by the layer's word -/
def wOf (x : Bool) (E : XK) : Option WX := if x then some (fun cl d _ H => E cl d H) else none
/-- THE RULE for a def: its body does what the mirror's body does -/
theorem fnM {x : Bool} {P : Program} {w : World} {K : Fg} {cls : Str → Option Addr} {mg : Str → Option Value} {base : Heap} {CX : CXT} {k n : Nat} {f : Addr} {nm qual : Str} {st : Stmt} {fd : FuncData} {N ps : List Str} {pins : List Nat} {body : Env → RS}
    (F : Fun K nm qual st f fd) (S : FnScope N ps (defScope st)) (hn : ps.length = n) (hN : n ≤ N.length)
    (go : ∀ (cdv : Value) (A : Around) (outer : List PySem.Env) (s : Shared) (H : Hp) (E : XK), A.guards = some [] → Room k (A.deeper (envOfC qual (defScope st) s.heap.objs.size f cdv)) →
      PSs (cxOf CX P w K mg base N qual (defScope st) f cdv A outer s H E) (defBody st) (tsS ⟨K, cls, pins, wOf x E⟩ body)) : FnG P w K mg base CX (k + 1) f fd ps (spM x K cls (runF n N.length pins body)) := by
  have hlen : ∀ vs H Q E, spM x K cls (runF n N.length pins body) vs H Q E → vs.length = n := fun vs H Q E ⟨B, args, A, s, er, nd, h⟩ => by
    have := env_len er
    rw [List.length_map] at this
    by_cases hc : args.length = n
    · omega
    · rw [show runF n N.length pins body args = .no from if_neg hc] at h
      exact h.elim
  refine fnG_of F S (fun vs H Q E h => (hlen vs H Q E h).trans hn.symm) fun cdv A outer s H vs Q E hg hr h => ⟨_, go cdv A outer s H E hg hr, ?_⟩
  have hl := hlen _ _ _ _ h
  obtain ⟨B, args, A0, sb, er, nd, h⟩ := h
  have hla : args.length = n := by
    have := env_len er
    rw [List.length_map] at this
    omega
  have eS : L2.start N vs = vs.map some ++ List.replicate (N.length - n) none := by unfold L2.start; rw [hl]
  refine ⟨B, args ++ List.replicate (N.length - n) .un, A0, ⟨sb, by rw [eS]; exact env_app _ er, nd⟩, ?_⟩
  have outs : ∀ {σ' : St} {B' H' : Hp} {env' : Env} {A' : List Addr}, Pin ⟨K, cls, pins, wOf x E⟩ (L2.start N vs) σ' → Good ⟨K, cls, pins, wOf x E⟩ B' H' σ' env' A' → ∃ A1, EnvR K cls B' H' (vs.map some) (mask pins 0 n env') A1 ∧ A1.Sublist A' := fun {σ' B' H' env' A'} hp g => by
    rw [← hl]
    refine mask_ok vs 0 g.er fun i hi hm => ?_
    rw [Nat.zero_add] at hm
    rw [hp i hm, eS, List.getElem?_append_left (by rw [List.length_map]; exact hi)]
  have hR : runF n N.length pins body args = (match body (args ++ List.replicate (N.length - n) .un) with
    | .nx e => .ok (.d .none) (mask pins 0 n e)
    | .rt r e => .ok r (mask pins 0 n e)
    | .ex c x e => .ex c x (mask pins 0 n e)
    | _ => .no) := if_pos hla
  rw [hR] at h
  cases eb : body (args ++ List.replicate (N.length - n) .un) with
  | nx e =>
    simp only [eb] at h
    intro σ' B' H' A' hp t g
    obtain ⟨A1, h1, h2⟩ := outs hp g
    exact h .non B' H' A1 [] (by rw [List.append_nil]; exact t.less fun a ha => h2.subset ha) g.bh h1 (g.nd.sublist h2) (.d .non) List.nodup_nil fun _ z => nomatch z
  | rt r e =>
    simp only [eb] at h
    intro v σ' B' H' A' A2 hp t g o n2 d
    obtain ⟨A1, h1, h2⟩ := outs hp g
    refine h v B' H' A1 A2 (t.less fun a ha => ?_) g.bh h1 (g.nd.sublist h2) o n2 fun a ha hb => d a ha (h2.subset hb)
    exact (List.mem_append.mp ha).elim (fun z => List.mem_append_left _ (h2.subset z)) fun z => List.mem_append_right _ z
  | ex c y e =>
    simp only [eb] at h
    cases x with
    | false => exact Bool.noConfusion h.1
    | true =>
      refine ⟨_, rfl, fun cl d σ' B' H' A' hp t g xr => ?_⟩
      obtain ⟨A1, h1, h2⟩ := outs hp g
      exact h.2 cl d B' H' A1 (t.less fun a ha => h2.subset ha) g.bh h1 (g.nd.sublist h2) xr
  | bk e => simp only [eb] at h
  | ct e => simp only [eb] at h
  | no => simp only [eb] at h
end BV

/-! BV10: calls of defs, lists that change. -/
namespace BV
open PySem PySem.Spec PyProof.Rows L2

def rAV (K : Fg) (σ : St) : Hp → Hp → List AV → List V → List Addr → Prop := fun B _ avs vs A2 => A2 = [] ∧ AVs K B σ vs avs
theorem rAV_nil {K : Fg} {σ : St} : ∀ B H x v A2, rAV K σ B H x v A2 → A2 = [] := fun _ _ _ _ _ h => h.1
def taA (T : Tb) (m : Env → RE (List AV)) : TA := fun σ H Q => gen T (rAV T.K σ) m σ H Q
def vNil : Env → RE (List AV) := fun env => .ok [] env
def vCons (m : Env → RE D) (r : Env → RE (List AV)) : Env → RE (List AV) := fun env => (m env).bind fun x env => (r env).bind fun as env => .ok (.v x :: as) env
/-- the slot i has something known -/
def hasS (i : Nat) (env : Env) : RE Unit := match env[i]? with
  | none => .no
  | some .un => .no
  | some _ => .ok () env
def vSlot (i : Nat) (r : Env → RE (List AV)) : Env → RE (List AV) := fun env => (hasS i env).bind fun _ env => (r env).bind fun as env => .ok (.s i :: as) env
section
variable {X : Cx} {T : Tb} {e : Expr} {es : List Expr} {m : Env → RE D} {ms : Env → RE (List AV)}
theorem gB_has {α β : Type} {R : Hp → Hp → α → β → List Addr → Prop} {i : Nat} {k : Env → RE α} {B : Hp} {σ : St} {H : Hp} {Q : β → Hp → Prop} (h : gen T R (fun env => (hasS i env).bind fun _ env => k env) σ H Q) : ∃ v, σ[i]? = some (some v) ∧ gen T R k σ H Q := by
  obtain ⟨B, env, A, g, h⟩ := h
  unfold hasS at h
  dsimp only at h
  split at h
  · exact h.elim
  · exact h.elim
  · rename_i s hs hne
    obtain ⟨v, _, _, _, h1, _⟩ := env_at i g.er hne (fun z => hs z)
    exact ⟨v, h1, B, env, A, g, h⟩
theorem bv_nil : PA X [] (taA T vNil) := paw pa_nil fun σ H Q ⟨B, h⟩ => gB_ok h ⟨rfl, .nil⟩
theorem bv_cons (h : PE X e (teD T m)) (hr : PA X es (taA T ms)) (hs : starEach (e :: es) X.env = (false, eval e X.env) :: starEach es X.env := by rfl) : PA X (e :: es) (taA T (vCons m ms)) :=
  paw (pa_cons h hr hs) fun σ H Q h => gen_mono (seqE (R1 := rD T.K) h rD_nil) fun v H1 ⟨x, B1, ⟨_, hx⟩, h1⟩ =>
    gB_mono (seqB (R1 := rAV T.K σ) h1 rAV_nil) fun vs H2 ⟨as, B2, sb, ⟨_, hxs⟩, h2⟩ => gB_ok h2 ⟨rfl, .v (dp_mono sb _ _ hx) hxs⟩
theorem bv_slot {i : Nat} (h : PE X e (tVar i)) (hr : PA X es (taA T ms)) (hs : starEach (e :: es) X.env = (false, eval e X.env) :: starEach es X.env := by rfl) : PA X (e :: es) (taA T (vSlot i ms)) :=
  paw (pa_cons h hr hs) fun σ H Q h => by
    obtain ⟨v, hv, h1⟩ := gB_has (B := H) h
    exact ⟨v, hv, gen_mono (seqE (R1 := rAV T.K σ) h1 rAV_nil) fun vs H2 ⟨as, B2, ⟨_, hxs⟩, h2⟩ => gB_ok h2 ⟨rfl, .s hv hxs⟩⟩
/-- a def's call by its mirror; eCall0: of one that raises nothing -/
def backA (x : Bool) (avs : List AV) (env : Env) : RF → RE Sl
  | .ok r outs => .ok r (putA avs outs env)
  | .ex c y outs => if x then .ex c y (putA avs outs env) else .no
  | .no => .no
def eCall (x : Bool) (F : List Sl → RF) (ms : Env → RE (List AV)) : Env → RE Sl := fun env => (ms env).bind fun avs env => match takeA avs env with
  | none => .no
  | some q => backA x avs q.2 (F q.1)
theorem call_go {x : Bool} {F : List Sl → RF} {E : St → XK} (hE : x = true → ∃ W, T.W = some W ∧ E = WE W) {σ : St} {H : Hp} {Q : VK} (h : teN T (eCall x F ms) σ H Q) : tCallG (spM x T.K T.cls F) E (taA T ms) σ H Q := by
  refine gen_mono (seqE (R1 := rAV T.K σ) h rAV_nil) fun vs H1 ⟨avs, B1, ⟨_, ha⟩, env, A, g, h1⟩ => ?_
  dsimp only at h1
  cases et : takeA avs env with
  | none => simp only [et] at h1; exact h1.elim
  | some q =>
    obtain ⟨as, env1⟩ := q
    simp only [et] at h1
    obtain ⟨Aa, Ar, r1, r2, nd, mem⟩ := take_ok ha g.er g.nd et
    obtain ⟨n1, n2, n3⟩ := List.nodup_append.mp nd
    refine ⟨B1, as, Aa, g.bh, r1, n1, ?_⟩
    -- what is behind the call
    have back : ∀ {B' H' : Hp} {A1 A2 : List Addr} {outs : List Sl}, Tr B1 H1 Aa B' H' (A1 ++ A2) → EnvR T.K T.cls B' H' (vs.map some) outs A1 → A1.Nodup → (∀ a ∈ A2, a ∉ A1) →
        ∃ A', EnvR T.K T.cls B' H' σ (putA avs outs env1) A' ∧ A'.Nodup ∧ Tr B1 H1 A B' H' (A' ++ A2) ∧ ∀ a ∈ A2, a ∉ A' := fun {B' H' A1 A2 outs} t eo no dj => by
      have kn : ∀ a ∈ Ar, H1 a ≠ none := fun a h => (env_known r2 a h).1
      have off : ∀ a, a ∈ A1 ++ A2 → a ∉ Ar := fun a h z => (t.na a h).elim (fun w => n3 a w a z rfl) (kn a z)
      have r3 := env_keep r2 (t.keeps (R := Ar) (fun a h z => n3 a z a h rfl) kn)
      obtain ⟨A', e1, e2, e3⟩ := put_ok ha r3 eo (List.nodup_append.mpr ⟨no, n2, fun a ha b hb q => off a (List.mem_append_left _ ha) (q ▸ hb)⟩)
      refine ⟨A', e1, e2, (t.widen (R := Ar)).perm (fun a => by rw [mem a, List.mem_append]) fun a h => ?_, fun a h z => (e3 a z).elim (dj a h) (off a (List.mem_append_right _ h))⟩
      rcases List.mem_append.mp h with z | z
      · exact (e3 a z).elim (fun w => List.mem_append_left _ (List.mem_append_left _ w)) fun w => List.mem_append_right _ w
      · exact List.mem_append_left _ (List.mem_append_right _ z)
    cases eF : F as with
    | ok r outs =>
      simp only [eF, backA] at h1
      intro v B' H' A1 A2 t s' eo no o2 nd2 dj
      obtain ⟨A', e1, e2, e3, e4⟩ := back t eo no dj
      exact h1 v B' H' A' A2 e3 ⟨s', e1, e2⟩ o2 nd2 e4
    | ex c y outs =>
      simp only [eF, backA] at h1
      cases x with
      | false => exact h1.elim
      | true =>
        obtain ⟨W, e1, e2⟩ := hE rfl
        obtain ⟨W', e1', h1⟩ := h1
        rw [e1] at e1'
        cases e1'
        subst e2
        refine ⟨rfl, fun cl d B' H' A1 t s' eo no xr => ?_⟩
        obtain ⟨A', f1, f2, f3, _⟩ := back (A2 := []) (by rw [List.append_nil]; exact t) eo no fun _ z => nomatch z
        rw [List.append_nil] at f3
        exact h1 cl d B' H' A' f3 ⟨s', f1, f2⟩ xr
    | no => simp only [eF, backA] at h1; exact h1.elim
theorem bn_call {x : Bool} {F : List Sl → RF} {E : St → XK} (hE : x = true → ∃ W, T.W = some W ∧ E = WE W) (h : PE X e (tCallG (spM x T.K T.cls F) E (taA T ms))) : PE X e (teN T (eCall x F ms)) := pew h fun σ H Q q => call_go hE q
/-- .. without arguments -/
theorem bn_call0 {x : Bool} {F : List Sl → RF} {E : St → XK} (hE : x = true → ∃ W, T.W = some W ∧ E = WE W) (h : PE X e (tCallG (spM x T.K T.cls F) E tNil)) : PE X e (teN T (eCall x F vNil)) := pew h fun σ H Q q => by
  have := call_go (ms := vNil) hE q
  obtain ⟨B, env, A, g, z⟩ := this
  exact z [] B H A [] (by simpa using Tr.refl) g ⟨rfl, .nil⟩ List.nodup_nil fun _ w => nomatch w
end
end BV

/-! BV11: lists that change; x op= e; the end of a law. -/
namespace BV
open PySem PySem.Spec PyProof.Rows L2

section
variable {T : Tb} {σ : St}
/-- an owned list written anew -/
theorem own_write {B H : Hp} {env : Env} {A : List Addr} {i : Nat} {xs : List D} (g : Good T B H σ env A) (h : env[i]? = some (.l xs)) : ∃ p vs, σ[i]? = some (some (.ref p)) ∧ H p = some (.lst vs) ∧ DqAll T.K B vs xs ∧
    ∀ ws ys, DqAll T.K B ws ys → Good T B (upd H p (.lst ws)) σ (env.set i (.l ys)) A ∧ Tr B H A B (upd H p (.lst ws)) A := by
  obtain ⟨v, A1, A2, A3, h1, h2, h3, h4⟩ := env_at i g.er h (fun z => nomatch z)
  cases h2 with
  | l b1 b2 b3 =>
    rename_i vs p
    have nd : (A1 ++ [p] ++ A3).Nodup := h3 ▸ g.nd
    have dis : ∀ a ∈ A1 ++ A3, a ≠ p := fun a ha z => by
      subst z
      simp only [List.append_assoc, List.singleton_append] at nd
      have n2 := List.nodup_append.mp nd
      rcases List.mem_append.mp ha with q | q
      · exact n2.2.2 a q a (by simp) rfl
      · exact (List.nodup_cons.mp n2.2.1).1 q
    refine ⟨p, vs, h1, b2, b3, fun ws ys d => ?_⟩
    have er := h4 (B' := B) (H' := upd H p (.lst ws)) (s' := some (.ref p)) (e' := .l ys) (A2' := [p]) (.inr ⟨_, rfl, .l b1 upd_same d⟩) ⟨Same.refl B, fun a o ha e => by rw [upd_ne (dis a ha)]; exact e, fun _ _ z => z⟩
    rw [set_self h1, ← h3] at er
    exact ⟨⟨fun a o e => by rw [upd_ne (ne_of_none e b1)]; exact g.bh a o e, er, g.nd⟩, tr_write (by rw [h3]; simp) (ne_none_of b2)⟩
end
def isL (i : Nat) (env : Env) : RE Unit := match env[i]? with
  | some (.l _) => .ok () env
  | _ => .no
/-- the owned list in slot i is changed by f -/
def updL (i : Nat) (f : List D → Option (List D)) (env : Env) : RS := match env[i]? with
  | some (.l xs) => match f xs with
    | some ys => .nx (env.set i (.l ys))
    | none => .no
  | _ => .no
def app1 (x : D) (xs : List D) : Option (List D) := if xs.length < 16777216 then some (xs ++ [x]) else none
/-- x.append(e) -/
def sApp (i : Nat) (m : Env → RE D) : Env → RS := fun env => bindS (isL i env) fun _ env => bindS (m env) fun x env => updL i (app1 x) env
/-- x[k] = e -/
def setAt (k v : D) (xs : List D) : Option (List D) := match k with
  | .int k => (ixN xs.length k).map fun j => xs.set j v
  | _ => none
def sSetIx (i : Nat) (k e : Env → RE D) : Env → RS := fun env => bindS (e env) fun v env => bindS (isL i env) fun _ env => bindS (k env) fun k env => updL i (setAt k v) env
/-- x.extend(e), e a list -/
def ext1 (x : D) (xs : List D) : Option (List D) := match x with
  | .list ys => if xs.length + ys.length ≤ 16777216 then some (xs ++ ys) else none
  | _ => none
def sExt (i : Nat) (m : Env → RE D) : Env → RS := fun env => bindS (isL i env) fun _ env => bindS (m env) fun x env => updL i (ext1 x) env
section
variable {X : Cx} {T : Tb} {st : Stmt} {m mk me : Env → RE D} {i : Nat}
theorem sB_isL {k : Env → RS} {B : Hp} {D : Ends} {σ : St} {H : Hp} (h : sB T (fun env => bindS (isL i env) fun _ env => k env) B D σ H) : ∃ p vs, σ[i]? = some (some (.ref p)) ∧ H p = some (.lst vs) ∧ sB T k B D σ H := by
  obtain ⟨env, A, g, h⟩ := h
  unfold isL at h
  dsimp only at h
  split at h
  · rename_i xs hx
    obtain ⟨p, vs, h1, h2, _⟩ := good_own g hx
    exact ⟨p, vs, h1, h2, env, A, g, h⟩
  · exact h.elim
theorem sB_updL {f : List D → Option (List D)} {B : Hp} {Dn : Ends} {σ : St} {H : Hp} (h : sB T (updL i f) B Dn σ H) : ∃ p vs xs ys, σ[i]? = some (some (.ref p)) ∧ H p = some (.lst vs) ∧ Same B H ∧ DqAll T.K B vs xs ∧ f xs = some ys ∧ ∀ ws, DqAll T.K B ws ys → Dn.nx σ (upd H p (.lst ws)) := by
  obtain ⟨env, A, g, h⟩ := h
  unfold updL at h
  split at h
  · rename_i xs hx
    split at h
    · rename_i ys hy
      obtain ⟨p, vs, h1, h2, h3, h4⟩ := own_write g hx
      exact ⟨p, vs, xs, ys, h1, h2, g.bh, h3, hy, fun ws d => h σ B _ A Pin.refl (h4 ws ys d).2 (h4 ws ys d).1⟩
    · exact h.elim
  · exact h.elim
theorem bs_app (h : PS X st (tDrop (tBM X.K "list" rAppend (tVar i) (tCons (teD T m) tNil)))) : PS X st (tsS T (sApp i m)) := psw h fun D σ H ⟨B, h⟩ => by
  obtain ⟨p, vs, h1, h2, h3⟩ := sB_isL h
  refine ⟨_, h1, .inl ⟨rfl, vs, SqL.of h2⟩, gB_mono (seqSB (R1 := rD T.K) h3 rD_nil) fun v H1 ⟨x, B1, _, ⟨_, hx⟩, h4⟩ => ?_⟩
  obtain ⟨q, ws, xs, ys, g1, g2, s, g3, g4, g5⟩ := sB_updL h4
  rw [h1] at g1
  cases g1
  unfold app1 at g4
  split at g4
  · rename_i hl
    cases g4
    exact ⟨p, ws, v, rfl, rfl, g2, lt_lim (by rw [dps_length g3]; exact hl), g5 _ (dps_app g3 (dps_one hx))⟩
  · cases g4
theorem bs_ext (h : PS X st (tDrop (tBM X.K "list" rExtend (tVar i) (tCons (teD T m) tNil)))) : PS X st (tsS T (sExt i m)) := psw h fun D σ H ⟨B, h⟩ => by
  obtain ⟨p, vs, h1, h2, h3⟩ := sB_isL h
  refine ⟨_, h1, .inl ⟨rfl, vs, SqL.of h2⟩, gB_mono (seqSB (R1 := rD T.K) h3 rD_nil) fun v H1 ⟨x, B1, _, ⟨_, hx⟩, h4⟩ => ?_⟩
  obtain ⟨q, ws, xs, ys, g1, g2, s, g3, g4, g5⟩ := sB_updL h4
  rw [h1] at g1
  cases g1
  cases x with
  | list zs =>
    replace g4 : (if xs.length + zs.length ≤ 16777216 then some (xs ++ zs) else none) = some ys := g4
    split at g4
    · rename_i hl
      cases g4
      obtain ⟨b, us, rfl, k1, k2⟩ := (show Pk T.K B1 H1 v (.list zs) from .inl hx).items s
      exact ⟨p, b, ws, us, rfl, rfl, g2, k1, le_lim (by rw [dps_length g3, dps_length k2]; exact hl), g5 _ (dps_app g3 k2)⟩
    · cases g4
  | _ => cases g4
theorem bs_setIx (h : PS X st (tAsg (teD T me) (gSub (tVar i) (teD T mk) rSetL))) : PS X st (tsS T (sSetIx i mk me)) := psw h fun D σ H h => gen_mono (seqSE (R1 := rD T.K) h rD_nil) fun v H1 ⟨x, B1, ⟨_, hx⟩, h1⟩ => by
  obtain ⟨p, vs, g1, g2, h3⟩ := sB_isL h1
  refine ⟨_, g1, gB_mono (seqSB (R1 := rD T.K) h3 rD_nil) fun u H2 ⟨k, B2, sb, ⟨_, hk⟩, h4⟩ => ?_⟩
  obtain ⟨q, ws, xs, ys, e1, e2, s, e3, e4, e5⟩ := sB_updL h4
  rw [g1] at e1
  cases e1
  cases k with
  | int k =>
    cases hk
    obtain ⟨j, f1, rfl⟩ := Option.map_eq_some_iff.mp e4
    exact ⟨p, ws, k, j, rfl, rfl, e2, by rw [dps_length e3]; exact f1, e5 _ (dps_set j e3 (dp_mono sb _ _ hx))⟩
  | _ => cases e4
/-- x op= e, data -/
def sAug (pins : List Nat) (i : Nat) (f : D → D → Option D) (m : Env → RE D) : Env → RS := fun env => bindS (eVar i env) fun x env => bindS (m env) fun y env => bindS (lft (f x y) env) fun z env => if i ∈ pins then .no else .nx (env.set i (.d z))
theorem bs_aug {r : R2} {f : D → D → Option D} (hr : DOp T.K r f) (h : PS X st (tAug i (teD T m) r)) : PS X st (tsS T (sAug T.pins i f m)) := psw h fun Dn σ H ⟨B, env, A, g, h⟩ => by
  have go : ∀ {x : D} {env1 : Env} {v : V} {B1 : Hp} {A1 : List Addr}, eVar i env = .ok x env1 → σ[i]? = some (some v) → Dq T.K B1 v x → Good T B1 H σ env1 A1 → Tr B H A B1 H A1 → tAug i (teD T m) r Dn σ H := fun {x env1 v B1 A1} e1 hv hx g1 t1 => by
    simp only [sAug, e1, bindS] at h
    refine ⟨v, hv, gB_mono (seqSB (R1 := rD T.K) (D := Dn) (m := m) (k := fun y env => bindS (lft (f x y) env) fun z env => if i ∈ T.pins then .no else .nx (env.set i (.d z))) (B := B1) ⟨env1, A1, g1, evS.trans Pin.refl t1 h⟩ rD_nil) fun u H2 ⟨y, B2, sb, ⟨_, hy⟩, env2, A2, g2, h2⟩ => ?_⟩
    cases ef : f x y with
    | none => simp only [ef, lft, bindS] at h2; exact h2.elim
    | some z =>
      simp only [ef, lft, bindS] at h2
      split at h2
      · exact h2.elim
      · rename_i hp
        refine hr B2 H2 v u x y z _ g2.bh (dp_mono sb _ _ hx) (.inl hy) ef fun w B' H' t s' d => ?_
        have kp : Keeps B2 H2 B' H' A2 := t.keeps (fun _ _ => List.not_mem_nil) fun a ha => (env_known g2.er a ha).1
        obtain ⟨A', g', t'⟩ := store_d (T := T) (i := i) (v := w) (x := z) (⟨s', env_keep g2.er kp, g2.nd⟩ : Good T B' H' σ env2 A2) d
        exact h2 _ B' H' A' (pin_set hp) (t.widen0.trans t') g'
  unfold eVar at go
  cases ex : env[i]? with
  | none => simp only [sAug, eVar, ex, bindS] at h; exact h.elim
  | some s =>
    simp only [ex] at go
    cases s with
    | d x =>
      obtain ⟨v, hv, hx⟩ := good_at g ex
      exact go rfl hv hx g Tr.refl
    | l xs =>
      obtain ⟨v, B', A', hv, hx, g', t⟩ := good_frz g ex
      exact go rfl hv hx g' t
    | un => simp only [sAug, eVar, ex, bindS] at h; exact h.elim
    | k _ => simp only [sAug, eVar, ex, bindS] at h; exact h.elim
    | t _ => simp only [sAug, eVar, ex, bindS] at h; exact h.elim
    | o _ _ => simp only [sAug, eVar, ex, bindS] at h; exact h.elim
end
end BV

/-! BV12: the end of a law row. -/
namespace BV
open PySem PySem.Spec PyProof.Rows L2

/-- the law's promise: a list of ints is handed in, True comes out -/
def spLaw (K : Fg) : Sp := fun vs H Q _ => ∃ (a : Addr) (ns : List Int), vs = [.ref a] ∧ SqL K H a (ns.map V.int) ∧ ns.length ≤ 63 ∧ ∀ H', Q (.bl true) H'
/-- the heap that knows the script alone -/
def scr (a : Addr) (ob : Obj) (ns : List Int) : Hp := fun b => if b = a then some (.frz ob (.lst (ns.map V.int))) else none
section
variable {P : Program} {w : World} {K : Fg} {mg mb : Str → Option Value} {k : Nat} {fa a : Addr} {fd : FuncData} {x : Str} {s₁ : Shared} {vs : List Value} {ns : List Int}
/-- the law is called, H the abstract heap: nothing but the script -/
theorem law_at {H : Hp} (KX : K.In s₁.heap) (gl : s₁.heap.Ns mainGlobals mg) (bl : s₁.heap.Ns builtinsNs mb) (bv : ∀ x : Str, x ≠ "__name__" → mb x = bootBuiltins x) (lim : s₁.heap.NoLimit) (g0 : s₁.gens = #[]) (hr : Room k callerA)
    (ho : ∃ n, s₁.heap.get? a = some ⟨.type "list", none, .seq vs.toArray n, #[]⟩) (hS : SqL K H a (ns.map V.int)) (hl : ns.length ≤ 63) (hH : H = (fun _ => none) ∨ ∃ ob, H = scr a ob ns) (hok : HOk P w H s₁.heap) (hK : H a ≠ none → K.lookup a = none)
    (F : ∀ base : Heap, K.In base → base.Ns mainGlobals mg → FnG P w K mg base CX0 k fa fd [x] (spLaw K)) (hbind : ∀ (s : Shared) (u : Value), BindsTo s fd ⟨[u], []⟩ [(x, u)]) :
    codeAny (model P w) callerA (.call (.ref fa) ⟨[.ref a], []⟩) (fun r s' => r = .ok (.ret (.bool true)) ∧ OldK s₁.heap s'.heap ∧ s'.os = s₁.os ∧ AllBare s'.gens) s₁ := by
  obtain ⟨n0, ha⟩ := ho
  have other : ∀ b, b ≠ a → H b = none := fun b hb => by
    rcases hH with rfl | ⟨ob, rfl⟩
    · rfl
    · exact if_neg hb
  have dict_free : ∀ {b : Addr} {o : Obj} {es : Array DictEntry} {ep : Nat}, s₁.heap.get? b = some o → o.data = .dict es ep → H b = none := fun {b o es ep} e d => other b fun q => by
    subst q
    rw [ha] at e
    cases e
    cases d
  have keepNs : ∀ {b : Addr} {m : Str → Option Value}, s₁.heap.Ns b m → (hidT s₁.heap H).Ns b m := fun h => let ⟨o, es, ep, e, d, r⟩ := h; ⟨o, es, ep, hidT_get e (dict_free e d), d, r⟩
  have KH : K.In (hidT s₁.heap H) := fun b o e => hidT_get (KX b o e) (by
    by_cases q : b = a
    · subst q
      cases h : H b with
      | none => rfl
      | some u => rw [hK (by rw [h]; exact fun z => nomatch z)] at e; cases e
    · exact other b q)
  have md : Mod K mg (hidT s₁.heap H) := ⟨KH, keepNs gl, ⟨mb, keepNs bl, bv⟩, by obtain ⟨mc, h1, h2⟩ := lim; exact ⟨mc, keepNs h1, h2⟩⟩
  have e0 : Env0 P w K mg (hidT s₁.heap H) callerA [] s₁ H := ⟨rfl, md, fun _ _ e => of_hidT e, Nat.le_of_eq (hidT_size _ _), trivial, (by intro b hb; cases hb), hok, AllBare.of_eq g0⟩
  have sp : spLaw K [.ref a] H (fun v _ => v = .bl true) (fun _ _ _ => False) := ⟨a, ns, rfl, hS, hl, fun _ => rfl⟩
  refine codeAny_mono ((F _ KH (keepNs gl)).run callerA [] s₁ H ⟨[.ref a], []⟩ [.ref a] [.ref a] _ _ rfl hr e0 (hbind s₁ (.ref a)) (.cons rfl .nil) sp) fun r s' h => ?_
  match r, h with
  | .error e, h => exact h.elim
  | .ok .next, h => exact h.elim
  | .ok .brk, h => exact h.elim
  | .ok .cont, h => exact h.elim
  | .ok (.ret u), ⟨v, H', eo, bare, un, hok', ru, ev⟩ =>
    subst ev
    cases ru
    refine ⟨rfl, .of_keep fun b o e => ?_, eo, bare⟩
    by_cases q : H b = none
    · exact un.keep b o e q (fun z => by cases z) (fun z => by cases z)
    · rcases hH with rfl | ⟨ob, rfl⟩
      · exact absurd rfl q
      · have hb : b = a := Classical.byContradiction fun z => q (if_neg z)
        subst hb
        have z1 : scr b ob ns b = some (.frz ob (.lst (ns.map V.int))) := if_pos rfl
        have f1 := (hok b _ z1).1
        have f2 := (hok' b _ (un.frzs b ob _ z1)).1
        rw [e] at f1
        cases f1
        exact f2
theorem law_callG (KX : K.In s₁.heap) (gl : s₁.heap.Ns mainGlobals mg) (bl : s₁.heap.Ns builtinsNs mb) (bv : ∀ x : Str, x ≠ "__name__" → mb x = bootBuiltins x) (lim : s₁.heap.NoLimit) (g0 : s₁.gens = #[]) (hr : Room k callerA)
    (ha : s₁.heap.get? a = some { cls := .type "list", data := .seq vs.toArray }) (hi : IntsAre vs ns) (hl : ns.length ≤ 63)
    (F : ∀ base : Heap, K.In base → base.Ns mainGlobals mg → FnG P w K mg base CX0 k fa fd [x] (spLaw K)) (hbind : ∀ (s : Shared) (u : Value), BindsTo s fd ⟨[u], []⟩ [(x, u)]) :
    codeAny (model P w) callerA (.call (.ref fa) ⟨[.ref a], []⟩) (fun r s' => r = .ok (.ret (.bool true)) ∧ OldK s₁.heap s'.heap ∧ s'.os = s₁.os ∧ AllBare s'.gens) s₁ := by
  have rv := L2.vals_ints hi
  have len := hi.length
  have hz : ns.length ≤ sizeLine := le_lim (by omega)
  cases hk : K.lookup a with
  | some o =>
    have e := KX a o hk
    rw [ha] at e
    cases e
    exact law_at (H := fun _ => none) KX gl bl bv lim g0 hr ⟨_, ha⟩ (.inr ⟨_, vs.toArray, _, hk, rfl, rfl, rfl, by rw [List.size_toArray, len]; exact hz, by rw [List.toList_toArray]; exact rv⟩) hl (.inl rfl) (fun b u z => by cases z) (fun z => absurd rfl z) F hbind
  | none =>
    let ob : Obj := { cls := .type "list", data := .seq vs.toArray }
    have z0 : scr a ob ns a = some (.frz ob (.lst (ns.map V.int))) := if_pos rfl
    refine law_at (H := scr a ob ns) KX gl bl bv lim g0 hr ⟨_, ha⟩ (.inl (.inr ⟨ob, z0⟩)) hl (.inr ⟨ob, rfl⟩) (fun b u z => ?_) (fun _ => hk) F hbind
    by_cases q : b = a
    · subst q
      rw [z0] at z
      cases z
      exact ⟨ha, by rw [List.length_map]; exact hz, vs, _, rv, ha⟩
    · rw [show scr a ob ns b = none from if_neg q] at z
      cases z
/-- the goal that k_head leaves -/
theorem walkG {l : PySem.W.OpenLaw} {k : Nat} {q : Program} {loose : List Str} {XP : (Str → Option Value) → Heap → Prop} {YP : World → Heap → Prop} {d : DefRec} {K : Params → Fg} {x : Str}
    (hn : l.most = some 63) (hdf : d.params.defaults = []) (hr : Room k callerA) (hY : ∀ (w : World) (h : Heap), YP w h → (K w.params).In h)
    (F : ∀ (w : World) (mg : Str → Option Value) (fa : Addr) (h : Heap), (K w.params).In h → h.Ns mainGlobals mg → mg d.name = some (.ref fa) →
      ∃ fd : FuncData, (∀ (s : Shared) (u : Value), BindsTo s fd ⟨[u], []⟩ [(x, u)]) ∧ ∀ base : Heap, (K w.params).In base → base.Ns mainGlobals mg → FnG l.prog w (K w.params) mg base CX0 k fa fd [x] (spLaw (K w.params))) :
    PySem.W.WalkO q loose XP YP l.row.toRowW d [] (fun f vs => PySem.call f vs) :=
  Att.attach_call hn hdf fun w s₀ s₁ mg mb fa o pm cd doc a vs ns G Y ho hd hcd hmg hobj hints hlen hg => by
    have KX := hY w _ Y
    obtain ⟨fd, hb, hF⟩ := F w mg fa _ KX G.T.g hmg
    exact law_callG KX G.T.g G.T.b G.T.builtins G.T.nolimit hg hr hobj hints hlen hF hb
end

/-! ### the draws' state -/
/-- the law's own state: the script's ints, what is left of the one at hand, the next place, the seed -/
def stD (ns : List Int) (c k s : Int) : List D := [.list (ns.map .int), .int c, .int k, .int s]
def spStart (K : Fg) : Sp := fun vs H Q _ => ∃ (a : Addr) (ns : List Int), vs = [.ref a] ∧ SqL K H a (ns.map V.int) ∧ ns.length ≤ 63 ∧
  ∀ (p q : Addr) (s : Int) (H' : Hp), 1 ≤ s → s ≤ 2147483629 → Same H H' → H p = none → H q = none → p ≠ q → H' q = some (.lst (ns.map V.int)) → H' p = some (.lst [.ref q, .int 0, .int 0, .int s]) → Q (.ref p) H'
/-- from the state that _law_start hands back: the rest of the law -/
theorem start_go {T : Tb} {N : Nat} {m : Env → RS} {a p q : Addr} {s : Int} {ns : List Int} {H' : Hp} {D : Ends} (ne : p ≠ q) (hq : H' q = some (.lst (ns.map V.int))) (hp : H' p = some (.lst [.ref q, .int 0, .int 0, .int s]))
    (hm : ∃ e, m (.un :: .l (stD ns 0 0 s) :: List.replicate N .un) = .rt (.d (.bool true)) e) (hD : ∀ H, D.rt (.bl true) H) : tsS T m D (some (.ref a) :: some (.ref p) :: List.replicate N none) H' := by
  let B : Hp := upd (fun _ => none) q (.lst (ns.map V.int))
  have bq : B q = some (.lst (ns.map V.int)) := upd_same
  have bp : B p = none := upd_ne ne
  have own : Own T.K T.cls B H' (.l (stD ns 0 0 s)) (.ref p) [p] := .l bp hp (.cons (.lst bq ints_dqs) (.cons (.int 0) (.cons (.int 0) (.cons (.int s) .nil))))
  obtain ⟨e, he⟩ := hm
  refine ⟨B, _, [p] ++ [], ⟨fun b o h => ?_, .un (.cons own (env_uns N)), by simp⟩, ?_⟩
  · by_cases z : b = q
    · subst z
      rw [bq] at h
      rw [hq]
      exact h
    · rw [show B b = none from upd_ne z] at h
      cases h
  · rw [he]
    intro v σ' B' H2 A' A2 _ _ _ o _ _
    cases o with
    | d h =>
      cases h
      exact hD H2
end BV

/-! BV13: what a generated text leans on: defs by their names, names of the module, methods of texts. -/
namespace BV
open PySem PySem.Spec PyProof.Rows L2

/-- no own error -/
abbrev cl0 : Str → Option Addr := fun _ => none
/-- a def of the module -/
structure DefF (K : Fg) (mg : Str → Option Value) (nm : Str) (st : Stmt) : Prop where
  ex : ∃ (f : Addr) (fd : FuncData), mg nm = some (.ref f) ∧ Fun K nm nm st f fd
/-- a def that may be called by its name: its mirror -/
structure Cal (x : Bool) (P : Program) (w : World) (K : Fg) (cls : Str → Option Addr) (mg : Str → Option Value) (base : Heap) (k : Nat) (nm : Str) (ps : List Str) (F : List Sl → RF) : Prop where
  ex : ∃ (f : Addr) (fd : FuncData), mg nm = some (.ref f) ∧ PySem.W.keepIn K (.ref f) = true ∧ Binds K fd ps [] ∧ FnG P w K mg base CX0 k f fd ps (spM x K cls F)
theorem calM {x : Bool} {P : Program} {w : World} {K : Fg} {cls : Str → Option Addr} {mg : Str → Option Value} {base : Heap} {k n : Nat} {nm : Str} {st : Stmt} {N ps : List Str} {pins : List Nat} {body : Env → RS}
    (F : DefF K mg nm st) (hb : ∀ (kV doc pm : Value) (an : Option Addr) (cdv ct : Value) (us : List Value), us.length = ps.length → bindArgs (PySem.W.fnOf nm nm (defArgs st) (defBody st) (defScope st) .none kV doc pm an cdv ct) ⟨us, []⟩ = pure (ps.zip us))
    (S : FnScope N ps (defScope st)) (hn : ps.length = n) (hN : n ≤ N.length)
    (go : ∀ (f : Addr) (cdv : Value) (A : Around) (outer : List PySem.Env) (s : Shared) (H : Hp) (E : XK), A.guards = some [] → Room k (A.deeper (envOfC nm (defScope st) s.heap.objs.size f cdv)) →
      PSs (cxOf CX0 P w K mg base N nm (defScope st) f cdv A outer s H E) (defBody st) (tsS ⟨K, cls, pins, wOf x E⟩ body)) : Cal x P w K cls mg base (k + 1) nm ps (runF n N.length pins body) := by
  obtain ⟨f, fd, h1, h2⟩ := F.ex
  exact ⟨f, fd, h1, h2.kp, h2.binds hb, fnM h2 S hn hN (go f)⟩
/-- .. no exception leaves it -/
theorem calN {P : Program} {w : World} {K : Fg} {cls : Str → Option Addr} {mg : Str → Option Value} {base : Heap} {k n : Nat} {nm : Str} {st : Stmt} {N ps : List Str} {pins : List Nat} {body : Env → RS}
    (F : DefF K mg nm st) (hb : ∀ (kV doc pm : Value) (an : Option Addr) (cdv ct : Value) (us : List Value), us.length = ps.length → bindArgs (PySem.W.fnOf nm nm (defArgs st) (defBody st) (defScope st) .none kV doc pm an cdv ct) ⟨us, []⟩ = pure (ps.zip us))
    (S : FnScope N ps (defScope st)) (hn : ps.length = n) (hN : n ≤ N.length)
    (go : ∀ (f : Addr) (cdv : Value) (A : Around) (outer : List PySem.Env) (s : Shared) (H : Hp) (E : XK), A.guards = some [] → Room k (A.deeper (envOfC nm (defScope st) s.heap.objs.size f cdv)) →
      PSs (cxOf CX0 P w K mg base N nm (defScope st) f cdv A outer s H E).nox (defBody st) (tsS ⟨K, cls, pins, none⟩ body)) : Cal false P w K cls mg base (k + 1) nm ps (runF n N.length pins body) :=
  calM F hb S hn hN fun f cdv A outer s H E hg hr => (go f cdv A outer s H E hg hr).nox
section
variable {X : Cx} {T : Tb} {e : Expr} {es : List Expr} {ms : Env → RE (List AV)} {k j : Nat} {nm : Str} {ps : List Str} {F : List Sl → RF} {p pos : Pos}
theorem bn_callC (C : Cal false X.prog X.w T.K T.cls X.mg X.base k nm ps F) (hK : X.K = T.K) (hgd : X.A.guards = some []) (hr : Room j X.A) (hk : k ≤ j) (hg : Gl X nm) (ha : PA X (e :: es) (taA T ms))
    (hdb : (nm == ("__debug__" : Str)) = false := by decide) (he : starEach (e :: es) X.env = (false, eval e X.env) :: starEach es X.env := by rfl) (hpl : (backTo pos (starEach es X.env)).any (·.1) = false := by rfl) : PE X (.Call (.Name nm p) (e :: es) [] pos) (teN T (eCall false F ms)) := by
  obtain ⟨f, fd, h1, h2, h3, h4⟩ := C.ex
  rw [← hK] at h2 h3 h4
  refine bn_call (E := fun _ => E0) (fun z => nomatch z) ?_
  rw [← hK]
  exact pe_callG h4 hgd (hr.mono hk) hg h1 h2 h3 (fun _ _ _ _ _ _ _ z => z.elim) ha hdb he hpl
end
/-- a name of the module that holds data -/
structure GV (K : Fg) (mg : Str → Option Value) (x : Str) (d : D) : Prop where
  ex : ∃ v u, mg x = some u ∧ RelV v u ∧ ∀ B, Dq K B v d
theorem be_g {X : Cx} {T : Tb} {x : Str} {d : D} {pos : Pos} (h : GV T.K X.mg x d) (hg : Gl X x) (hd : (x == ("__debug__" : Str)) = false := by decide) : PE X (.Name x pos) (teD T (eC d)) := by
  obtain ⟨v, u, h1, h2, h3⟩ := h.ex
  exact be_c (pe_glob hg h1 h2 hd) h3
/-! ### what a block of a comprehension asks -/
theorem bts_nil {X : Cx} {T : Tb} : PTs X [] (ttD T ttYes) := by
  refine ⟨fun pins s σ H Q I h => pts_nil.run pins s σ H Q I ?_⟩
  obtain ⟨B, h⟩ := h
  exact gB_ok h ⟨rfl, rfl⟩
/-! ### methods of texts -/
section
variable {K : Fg}
theorem dm0 {r : V → List V → Hp → VK → Prop} {g : Str → Option D} (h : ∀ (B H : Hp) (a : Str) (z : D) (Q : VK), Same B H → g a = some z → (∀ w B' H', Tr B H [] B' H' [] → Same B' H' → Dq K B' w z → Q w H') → r (.str a) [] H Q) :
    DMt K r (fun x xs => match x, xs with | .str a, [] => g a | _, _ => none) := by
  intro B H v vs x xs z Q s hx hxs e k
  match x, xs, hx, hxs, e with
  | .str a, [], hx, hxs, e =>
    cases hx
    cases hxs
    exact h B H a z Q s e k
theorem dm1 {r : V → List V → Hp → VK → Prop} {g : Str → D → Option D} (h : ∀ (B H : Hp) (a : Str) (v : V) (y z : D) (Q : VK), Same B H → Pk K B H v y → g a y = some z → (∀ w B' H', Tr B H [] B' H' [] → Same B' H' → Dq K B' w z → Q w H') → r (.str a) [v] H Q) :
    DMt K r (fun x xs => match x, xs with | .str a, [y] => g a y | _, _ => none) := by
  intro B H v vs x xs z Q s hx hxs e k
  match x, xs, hx, hxs, e with
  | .str a, [y], hx, hxs, e =>
    cases hx
    obtain ⟨u, rfl, hu⟩ := pk1 hxs
    exact h B H a u y z Q s hu e k
theorem dm2 {r : V → List V → Hp → VK → Prop} {g : Str → D → D → Option D} (h : ∀ (B H : Hp) (a : Str) (v u : V) (x y z : D) (Q : VK), Same B H → Pk K B H v x → Pk K B H u y → g a x y = some z → (∀ w B' H', Tr B H [] B' H' [] → Same B' H' → Dq K B' w z → Q w H') → r (.str a) [v, u] H Q) :
    DMt K r (fun x xs => match x, xs with | .str a, [x, y] => g a x y | _, _ => none) := by
  intro B H v vs x xs z Q s hx hxs e k
  match x, xs, hx, hxs, e with
  | .str a, [x, y], hx, hxs, e =>
    cases hx
    obtain ⟨u, u2, rfl, h1, h2⟩ := pk2 hxs
    exact h B H a u u2 x y z Q s h1 h2 e k
def m0 (g : Str → Option D) : D → List D → Option D := fun x xs => match x, xs with | .str a, [] => g a | _, _ => none
def m1 (g : Str → D → Option D) : D → List D → Option D := fun x xs => match x, xs with | .str a, [y] => g a y | _, _ => none
def m2 (g : Str → D → D → Option D) : D → List D → Option D := fun x xs => match x, xs with | .str a, [x, y] => g a x y | _, _ => none
/-- the argument a text -/
def s1 (g : Str → Str → Option D) : Str → D → Option D := fun a y => match y with | .str b => g a b | _ => none
def si (g : Str → Str → Int → Option D) : Str → D → D → Option D := fun a x y => match x, y with | .str b, .int i => g a b i | _, _ => none
theorem dms1 {r : V → List V → Hp → VK → Prop} {g : Str → Str → Option D} (h : ∀ (B H : Hp) (a b : Str) (z : D) (Q : VK), Same B H → g a b = some z → (∀ w B' H', Tr B H [] B' H' [] → Same B' H' → Dq K B' w z → Q w H') → r (.str a) [.str b] H Q) : DMt K r (m1 (s1 g)) :=
  dm1 fun B H a v y z Q s hv e k => by
    cases y with
    | str b => rw [hv.str]; exact h B H a b z Q s e k
    | _ => cases e
theorem dmsi {r : V → List V → Hp → VK → Prop} {g : Str → Str → Int → Option D} (h : ∀ (B H : Hp) (a b : Str) (i : Int) (z : D) (Q : VK), Same B H → g a b i = some z → (∀ w B' H', Tr B H [] B' H' [] → Same B' H' → Dq K B' w z → Q w H') → r (.str a) [.str b, .int i] H Q) : DMt K r (m2 (si g)) :=
  dm2 fun B H a v u x y z Q s hv hu e k => by
    cases x with
    | str b =>
      cases y with
      | int i => rw [hv.str, hu.int]; exact h B H a b i z Q s e k
      | _ => cases e
    | _ => cases y <;> cases e
theorem ifs {c : Prop} [Decidable c] {x z : D} (e : (if c then some x else none) = some z) : c ∧ x = z := by
  by_cases h : c
  · rw [if_pos h] at e; exact ⟨h, Option.some.inj e⟩
  · rw [if_neg h] at e; cases e
def dStripC := m1 (s1 fun a b => if a.length ≤ 16777216 then some (.str (Txt.stripChars a b)) else none)
theorem dm_stripC : DMt K (fun x xs H Q => ∃ a b, x = .str a ∧ xs = [.str b] ∧ a.length ≤ sizeLine ∧ Q (.str (Txt.stripChars a b)) H) dStripC := dms1 fun B H a b z Q s e k => by
  obtain ⟨h, rfl⟩ := ifs e
  exact ⟨a, b, rfl, rfl, le_lim h, k _ B H Tr.refl s (.str _)⟩
def dRstripC := m1 (s1 fun a b => if a.length ≤ 16777216 then some (.str (Txt.rstripChars a b)) else none)
theorem dm_rstripC : DMt K (fun x xs H Q => ∃ a b, x = .str a ∧ xs = [.str b] ∧ a.length ≤ sizeLine ∧ Q (.str (Txt.rstripChars a b)) H) dRstripC := dms1 fun B H a b z Q s e k => by
  obtain ⟨h, rfl⟩ := ifs e
  exact ⟨a, b, rfl, rfl, le_lim h, k _ B H Tr.refl s (.str _)⟩
def dLstripC := m1 (s1 fun a b => if a.length ≤ 16777216 then some (.str (Txt.lstripChars a b)) else none)
theorem dm_lstripC : DMt K (fun x xs H Q => ∃ a b, x = .str a ∧ xs = [.str b] ∧ a.length ≤ sizeLine ∧ Q (.str (Txt.lstripChars a b)) H) dLstripC := dms1 fun B H a b z Q s e k => by
  obtain ⟨h, rfl⟩ := ifs e
  exact ⟨a, b, rfl, rfl, le_lim h, k _ B H Tr.refl s (.str _)⟩
def dFind := m1 (s1 fun a b => some (.int (Txt.find a b)))
theorem dm_find : DMt K (fun x xs H Q => ∃ a b, x = .str a ∧ xs = [.str b] ∧ Q (.int (Txt.find a b)) H) dFind := dms1 fun B H a b z Q s e k => by
  cases e
  exact ⟨a, b, rfl, rfl, k _ B H Tr.refl s (.int _)⟩
def dFind3 := m2 (si fun a b i => some (.int (Txt.find3 a b i)))
theorem dm_find3 : DMt K (fun x xs H Q => ∃ (a b : Str) (i : Int), x = .str a ∧ xs = [.str b, .int i] ∧ Q (.int (Txt.find3 a b i)) H) dFind3 := dmsi fun B H a b i z Q s e k => by
  cases e
  exact ⟨a, b, i, rfl, rfl, k _ B H Tr.refl s (.int _)⟩
def dCount := m1 (s1 fun a b => some (.int (Txt.count a b)))
theorem dm_count : DMt K (fun x xs H Q => ∃ a b, x = .str a ∧ xs = [.str b] ∧ Q (.int (Txt.count a b)) H) dCount := dms1 fun B H a b z Q s e k => by
  cases e
  exact ⟨a, b, rfl, rfl, k _ B H Tr.refl s (.int _)⟩
def dStartsw := m1 (s1 fun a b => some (.bool (Txt.startswith a b)))
theorem dm_startsw : DMt K (fun x xs H Q => ∃ a b, x = .str a ∧ xs = [.str b] ∧ Q (.bl (Txt.startswith a b)) H) dStartsw := dms1 fun B H a b z Q s e k => by
  cases e
  exact ⟨a, b, rfl, rfl, k _ B H Tr.refl s (.bl _)⟩
def dEndsw := m1 (s1 fun a b => some (.bool (Txt.endswith a b)))
theorem dm_endsw : DMt K (fun x xs H Q => ∃ a b, x = .str a ∧ xs = [.str b] ∧ Q (.bl (Txt.endswith a b)) H) dEndsw := dms1 fun B H a b z Q s e k => by
  cases e
  exact ⟨a, b, rfl, rfl, k _ B H Tr.refl s (.bl _)⟩
def dUpper := m0 (fun a => if a.length ≤ 5592405 then some (.str (Txt.upper a)) else none)
theorem dm_upper : DMt K (fun x xs H Q => ∃ a, x = .str a ∧ xs = [] ∧ a.length ≤ 5592405 ∧ Q (.str (Txt.upper a)) H) dUpper := dm0 fun B H a z Q s e k => by
  obtain ⟨h, rfl⟩ := ifs e
  exact ⟨a, rfl, rfl, h, k _ B H Tr.refl s (.str _)⟩
def dLower := m0 (fun a => if a.length ≤ 5592405 then some (.str (Txt.lower a)) else none)
theorem dm_lower : DMt K (fun x xs H Q => ∃ a, x = .str a ∧ xs = [] ∧ a.length ≤ 5592405 ∧ Q (.str (Txt.lower a)) H) dLower := dm0 fun B H a z Q s e k => by
  obtain ⟨h, rfl⟩ := ifs e
  exact ⟨a, rfl, rfl, h, k _ B H Tr.refl s (.str _)⟩
def dStrip := m0 (fun a => if a.length ≤ 16777216 then some (.str (Txt.strip a)) else none)
theorem dm_strip : DMt K (fun x xs H Q => ∃ a, x = .str a ∧ xs = [] ∧ a.length ≤ sizeLine ∧ Q (.str (Txt.strip a)) H) dStrip := dm0 fun B H a z Q s e k => by
  obtain ⟨h, rfl⟩ := ifs e
  exact ⟨a, rfl, rfl, le_lim h, k _ B H Tr.refl s (.str _)⟩
def dIsdigit := m0 (fun a => some (.bool (Txt.isdigit a)))
theorem dm_isdigit : DMt K (fun x xs H Q => ∃ a, x = .str a ∧ xs = [] ∧ True ∧ Q (.bl (Txt.isdigit a)) H) dIsdigit := dm0 fun B H a z Q s e k => by
  cases e
  exact ⟨a, rfl, rfl, trivial, k _ B H Tr.refl s (.bl _)⟩
def dSIndex := m1 (s1 fun a b => (Builtin.Str.occurrences a b 0 a.length 1).head?.map fun i => .int (i : Nat))
theorem dm_sindex : DMt K (fun x xs H Q => ∃ a b i rest, x = .str a ∧ xs = [.str b] ∧ Builtin.Str.occurrences a b 0 a.length 1 = i :: rest ∧ Q (.int (i : Nat)) H) dSIndex := dms1 fun B H a b z Q s e k => by
  obtain ⟨i, e1, rfl⟩ := Option.map_eq_some_iff.mp e
  obtain ⟨r, e2⟩ := List.head?_eq_some_iff.mp e1
  exact ⟨a, b, i, r, rfl, rfl, e2, k _ B H Tr.refl s (.int _)⟩
def dPartition := m1 (s1 fun a b => if (b.length == 0) = false ∧ a.length ≤ 16777216 then some (.tuple [.str (Txt.partition a b).1, .str (Txt.partition a b).2.1, .str (Txt.partition a b).2.2]) else none)
theorem dm_partition : DMt K (fun x xs H Q => ∃ a b, x = .str a ∧ xs = [.str b] ∧ (b.length == 0) = false ∧ a.length ≤ sizeLine ∧
    ∀ p, H p = none → Q (.ref p) (upd H p (.tup [.str (Txt.partition a b).1, .str (Txt.partition a b).2.1, .str (Txt.partition a b).2.2]))) dPartition := dms1 fun B H a b z Q s e k => by
  obtain ⟨h, rfl⟩ := ifs e
  refine ⟨a, b, rfl, rfl, h.1, le_lim h.2, fun p hp => ?_⟩
  obtain ⟨t, s', sb⟩ := tr_new (o := .tup [.str (Txt.partition a b).1, .str (Txt.partition a b).2.1, .str (Txt.partition a b).2.2]) hp s
  exact k _ _ _ t s' (.tup (SqT.of upd_same) (.cons (.str _) (.cons (.str _) (.cons (.str _) .nil))))
def joinD (a : Str) (xs : List D) : Option D := (asStrs xs).bind fun ys => if (ys.map (·.length)).sum + ys.length * a.length ≤ 16777216 then some (.str (Txt.join a ys)) else none
def dJoin := m1 (fun a y => match y with | .list xs => joinD a xs | .tuple xs => joinD a xs | _ => none)
theorem dm_join : DMt K (fun x xs H Q => ∃ a p, ∃ ys : List Str, x = .str a ∧ xs = [.ref p] ∧ (SqL K H p (ys.map V.str) ∨ SqT K H p (ys.map V.str)) ∧
    (ys.map (·.length)).sum + ys.length * a.length ≤ 16777216 ∧ Q (.str (Txt.join a ys)) H) dJoin := dm1 fun B H a v y z Q s hv e k => by
  have go : ∀ {p : Addr} {vs : List V} {xs : List D}, joinD a xs = some z → DqAll K B vs xs → (SqL K H p vs ∨ SqT K H p vs) → ∃ a' p', ∃ ys : List Str, V.str a = .str a' ∧ [V.ref p] = [.ref p'] ∧ (SqL K H p' (ys.map V.str) ∨ SqT K H p' (ys.map V.str)) ∧
    (ys.map (·.length)).sum + ys.length * a'.length ≤ 16777216 ∧ Q (.str (Txt.join a' ys)) H := fun {p vs xs} e h2 h1 => by
    obtain ⟨ys, e1, e2⟩ := Option.bind_eq_some_iff.mp e
    obtain ⟨h, rfl⟩ := ifs e2
    obtain rfl := asStrs_eq e1
    obtain rfl := dqs_strs h2
    exact ⟨a, p, ys, rfl, rfl, h1, h, k _ B H Tr.refl s (.str _)⟩
  cases y with
  | list xs =>
    obtain ⟨p, vs, rfl, h1, h2⟩ := hv.items s
    exact go e h2 (.inl (SqL.of h1))
  | tuple xs =>
    obtain ⟨p, vs, rfl, h1, h2⟩ := hv.tup s
    exact go e h2 (.inr h1)
  | _ => cases e
end
/-! ### the head: facts by names -/
abbrev Al := He.Al
def obsM (n : Nat) (fa : List He.Fa) (mo : Fg → Bool) (fn : List He.FnD) (g : Addr → Option Obj) : Al :=
  let K := He.frG g (He.asG g n)
  (((fa.all fun f => f.ok K) && fn.all fun d => (He.Fa.code d.at_ d.qual).ok K) && mo K, fn.map fun d => He.fnObs K d.at_)
def SaysM (fa : List He.Fa) (mo : Fg → Bool) (fn : List He.FnD) (K : Fg) : Prop := He.SaysE fa fn K ∧ mo K = true
def hookM (n : Nat) (fa : List He.Fa) (mo : Fg → Bool) (fn : List He.FnD) : PySem.W.Hook where
  α := Al
  obs := fun s => obsM n fa mo fn s.heap.get?
  val := fun _ => He.valE fn
  says := fun _ h => ∃ K : Fg, K.In h ∧ SaysM fa mo fn K
  of := fun _ s e => ⟨_, He.frG_in, by
    have e1 := congrArg (fun z : Al => z.1) e
    have e2 := congrArg (fun z : Al => z.2) e
    have e3 : (((fa.all fun f => f.ok (He.frG s.heap.get? (He.asG s.heap.get? n))) && fn.all fun d => (He.Fa.code d.at_ d.qual).ok (He.frG s.heap.get? (He.asG s.heap.get? n))) && mo (He.frG s.heap.get? (He.asG s.heap.get? n))) = true := e1
    obtain ⟨h1, h2⟩ := Bool.and_eq_true_iff.mp e3
    exact ⟨Prod.ext h1 e2, h2⟩⟩
  keeps := fun _ _ _ ⟨K, hK, c⟩ k => ⟨K, PySem.W.Frag.In.keeps hK k, c⟩
theorem obsM_eq {n : Nat} {fa : List He.Fa} {mo : Fg → Bool} {fn : List He.FnD} {g : Addr → Option Obj} {s : Shared} (h : ∀ a, g a = s.heap.get? a) : obsM n fa mo fn g = (hookM n fa mo fn).obs s := by
  have e : g = s.heap.get? := funext h
  rw [e] <;> rfl
/-- a def's datum -/
abbrev fnD (nm : Str) (st : Stmt) : He.FnD := ⟨(nm, none), nm, nm, defArgs st, defBody st, defScope st⟩
section
variable {fa : List He.Fa} {mo : Fg → Bool} {fn : List He.FnD} {K : Fg} {h : Heap} {mg : Str → Option Value}
theorem defF_of (X : K.In h) (G : h.Ns mainGlobals mg) (c : SaysM fa mo fn K) {nm : Str} {st : Stmt} (i j l : Nat) (h1 : fn[i]? = some (fnD nm st)) (h2 : fa[j]? = some (.glo nm)) (h3 : fa[l]? = some (.keep nm)) : DefF K mg nm st := by
  obtain ⟨oc, od, osl, kV, doc, pm, an, cdv, ct, lk, hc⟩ := He.SaysE.def_ c.1 i h1
  exact ⟨_, _, He.glo_ok X G (He.SaysE.fact c.1 j h2), fun_mk lk hc (He.keep_ok (He.SaysE.fact c.1 l h3))⟩
theorem gvI (X : K.In h) (G : h.Ns mainGlobals mg) (c : SaysM fa mo fn K) {x : Str} {i : Int} (j : Nat) (h2 : fa[j]? = some (.int x i)) : GV K mg x (.int i) := by
  obtain ⟨t, e⟩ := He.int_ok X G (He.SaysE.fact c.1 j h2)
  exact ⟨.int i, _, e, ⟨t, rfl⟩, fun B => .int i⟩
theorem gvS (X : K.In h) (G : h.Ns mainGlobals mg) (c : SaysM fa mo fn K) {x z : Str} (j : Nat) (h2 : fa[j]? = some (.str x z)) : GV K mg x (.str z) := by
  obtain ⟨t, e⟩ := He.str_ok X G (He.SaysE.fact c.1 j h2)
  exact ⟨.str z, _, e, ⟨t, rfl⟩, fun B => .str z⟩
theorem freeM (X : K.In h) (G : h.Ns mainGlobals mg) (c : SaysM fa mo fn K) {x : Str} (j : Nat) (h2 : fa[j]? = some (.free x)) : mg x = none := He.free_ok X G (He.SaysE.fact c.1 j h2)
end
end BV

/-! BV14: small things that the printed texts name. -/
namespace BV
open PySem PySem.Spec PyProof.Rows L2

theorem hu64 {k : Nat} {A : Around} (r : Room k A) : A.units + 64 < cLine := by have := r.un; omega
theorem hu65 {k : Nat} {A : Around} (r : Room k A) : A.units + 65 < cLine := by have := r.un; omega
theorem hu66 {k : Nat} {A : Around} (r : Room k A) : A.units + 66 < cLine := by have := r.un; omega
def scK (N P : List Str) (sc : Scope) : Bool :=
  decide (sc.kind = .function) && (!sc.isCoroutine && (!sc.isGenerator && (decide N.Nodup && (decide (N.take P.length = P) && (P.all (fun x => decide (sc.names.lookup x = some .local) || decide (sc.names.lookup x = some .cell)) && sc.names.all (fun y => !decide (y.2 = .free)))))))
theorem fnScope_k {N P : List Str} {sc : Scope} (h : scK N P sc = true) : FnScope N P sc := by
  unfold scK at h
  simp only [Bool.and_eq_true, Bool.not_eq_true', decide_eq_true_eq, List.all_eq_true, Bool.or_eq_true, decide_eq_false_iff_not] at h
  obtain ⟨h1, h2, h3, h4, h5, h6, h7⟩ := h
  exact ⟨h1, h2, h3, h4, h5, h6, h7⟩
theorem bt_len : bootBuiltins "len" = some (.builtin "len") := by decide +kernel
theorem bt_int : bootBuiltins "int" = some (.type "int") := by decide +kernel
theorem bt_str : bootBuiltins "str" = some (.type "str") := by decide +kernel
theorem bt_bool : bootBuiltins "bool" = some (.type "bool") := by decide +kernel
theorem bt_abs : bootBuiltins "abs" = some (.builtin "abs") := by decide +kernel
theorem bt_ord : bootBuiltins "ord" = some (.builtin "ord") := by decide +kernel
theorem bt_chr : bootBuiltins "chr" = some (.builtin "chr") := by decide +kernel
theorem bt_max : bootBuiltins "max" = some (.builtin "max") := by decide +kernel
theorem bt_min : bootBuiltins "min" = some (.builtin "min") := by decide +kernel
theorem bt_all : bootBuiltins "all" = some (.builtin "all") := by decide +kernel
theorem bt_any : bootBuiltins "any" = some (.builtin "any") := by decide +kernel
theorem bt_sum : bootBuiltins "sum" = some (.builtin "sum") := by decide +kernel
theorem bt_tuple : bootBuiltins "tuple" = some (.type "tuple") := by decide +kernel
theorem bt_list : bootBuiltins "list" = some (.type "list") := by decide +kernel
theorem bt_dict : bootBuiltins "dict" = some (.type "dict") := by decide +kernel
theorem bt_repr : bootBuiltins "repr" = some (.builtin "repr") := by decide +kernel
theorem bt_isinstance : bootBuiltins "isinstance" = some (.builtin "isinstance") := by decide +kernel
section
variable {X : Cx} {T : Tb}
theorem bt_w {e : Expr} {t : TT} (h : PW X e t) : PT X e t := h.pt
theorem pip_of {op : Operator} {r : R2} (h : OpR X (inplaceOp op) r) : PIp X op r := fun pins s σ H x y v u Q I rx ry q => h pins s σ H x y v u Q I rx ry q
def rAddI : R2 := fun x y H Q => rI0 (fun i j => .int (i + j)) x y H Q ∨ rStrAdd x y H Q
theorem iop_addAll : PIp X .Add rAddI := pip_of (iop_add.or iop_add_str)
def dAddI : D → D → Option D
  | .int i, .int j => some (.int (i + j))
  | .str a, .str b => if a.length + b.length ≤ 16777216 then some (.str (a ++ b)) else none
  | _, _ => none
theorem do_addI {K : Fg} : DOpO K rAddI dAddI := by
  intro B H v u x y z Q s hx hy e k
  cases x with
  | int i =>
    cases y with
    | int j =>
      rw [hx.int, hy.int]
      cases e
      exact .inl ⟨i, j, rfl, rfl, k _ B H Tr.refl s (.int _)⟩
    | _ => cases e
  | str a =>
    cases y with
    | str b =>
      rw [hx.str, hy.str]
      replace e : (if a.length + b.length ≤ 16777216 then some (PyData.str (a ++ b)) else none) = some z := e
      obtain ⟨h, rfl⟩ := ifs e
      exact .inr ⟨a, b, rfl, rfl, le_lim h, k _ B H Tr.refl s (.str _)⟩
    | _ => cases e
  | _ => cases y <;> cases e
theorem iop_subAll : PIp X .Sub (rI0 fun i j => .int (i - j)) := pip_of iop_sub
theorem do_subI {K : Fg} : DOpO K (rI0 fun i j => .int (i - j)) dSub := fun B H v u x y z Q s hx hy e k => by
  obtain ⟨i, j, e1, e2, _, q⟩ := do_sub B H v u x y z Q s hx hy e k
  exact ⟨i, j, e1, e2, q⟩
/-- x = [..]: the target is stored within the comprehension's frame; as data, as an owned list -/
theorem setLc_n {st : Stmt} {i : Nat} {g : TG} {tm : D → Env → Option Env} {is vs : List Nat} {it : Env → RE (List D)} {tt : Env → RE Bool} {te : Env → RE D} (ht : TgOk T.calm g is tm) (hs : ∀ i ∈ is, i ∈ vs)
    (h : PS X st (tAsg (tLc (tiD T it) g (ttD T.calm tt) (teD T.calm te) vs) (gName i))) : PS X st (tAsg (teN T (nComp vs tm it tt te)) (gName i)) :=
  psw h fun Dn σ H q => comp_to ht hs σ H _ q
theorem setLc_d {st : Stmt} {i : Nat} {g : TG} {tm : D → Env → Option Env} {is vs : List Nat} {it : Env → RE (List D)} {tt : Env → RE Bool} {te : Env → RE D} (ht : TgOk T.calm g is tm) (hs : ∀ i ∈ is, i ∈ vs)
    (h : PS X st (tAsg (tLc (tiD T it) g (ttD T.calm tt) (teD T.calm te) vs) (gName i))) : PS X st (tAsg (teD T fun env => frz (nComp vs tm it tt te env)) (gName i)) :=
  psw (setLc_n ht hs h) fun Dn σ H q => frz_to σ H _ q
end
end BV

/-! BV15: _law_start, the law's body behind it, the end of a law over the head by facts. -/
namespace BV
open PySem PySem.Spec PyProof.Rows L2

abbrev rPl : R2 := rI0 fun i j => .int (i + j)
abbrev rTi : R2 := rI CMul fun i j => .int (i * j)
abbrev rMo : R2 := rI (fun _ j => 0 < j) fun i j => .int (i % j)
abbrev rIn1 : List V → Hp → VK → Prop := fun xs H Q => (∃ i, xs = [.int i] ∧ Q (.int i) H) ∨ ∃ k, xs = [.bl k] ∧ Q (.int (if k then 1 else 0)) H
abbrev rLs (K : Fg) : List V → Hp → VK → Prop := fun xs H Q => ∃ p ys, xs = [.ref p] ∧ (SqL K H p ys ∨ SqT K H p ys) ∧ ∀ l, H l = none → Q (.ref l) (upd H l (.lst ys))
/-- _law_start, read off -/
def tStart (K : Fg) : TS := tSeq (tAsg (tC (.int 7)) (gName 1)) (tSeq (tFor (iList K (tVar 0)) (gName 2) (tAsg (tOp rPl (tOp rMo (tCB rIn1 (tCons (tOp rPl (tOp rTi (tVar 1) (tC (.int 48271))) (tVar 2)) tNil)) (tC (.int 2147483629))) (tC (.int 1))) (gName 1)))
  (tRet (tLst (tCons (tCB (rLs K) (tCons (tVar 0) tNil)) (tCons (tC (.int 0)) (tCons (tC (.int 0)) (tCons (tVar 1) tNil)))))))
theorem start_reads {K : Fg} {H : Hp} {Q : VK} {E : XK} {vs : List V} (h : spStart K vs H Q E) : tStart K ⟨fun _ H' => Q .non H', Q, fun _ _ => False, fun _ _ => False⟩ (L2.start ["script", "seed", "cell"] vs) H := by
  obtain ⟨a, ns, rfl, hS, hl, k⟩ := h
  refine ⟨_, rfl, a, rfl, ⟨_, hS⟩, for_list (K := K) (a := a) (xs := ns.map V.int) (fun i σ H2 => ∃ (z : Int) (c : Option V), σ = [some (.ref a), some (.int z), c] ∧ H2 = H ∧ 1 ≤ z ∧ z ≤ 2147483629)
    ⟨7, none, rfl, rfl, by decide, by decide⟩ (fun i σ H2 _ ⟨_, _, _, s2, _⟩ => s2 ▸ hS) ?_ ?_⟩
  · rintro i y σ H2 hi ⟨z, c, rfl, rfl, h1, h2⟩
    obtain ⟨n, rfl⟩ : ∃ n, y = V.int n := by
      rw [List.getElem?_map] at hi
      cases e : ns[i]? with
      | none => rw [e] at hi; cases hi
      | some n => rw [e] at hi; exact ⟨n, (Option.some.inj hi).symm⟩
    refine ⟨.int z, rfl, z, 48271, rfl, rfl, .inr (by decide), _, rfl, _, _, rfl, rfl, .inl ⟨_, rfl, ?_⟩⟩
    refine ⟨_, _, rfl, rfl, (show (0 : Int) < 2147483629 by decide), _, _, rfl, rfl, ?_⟩
    refine ⟨_, _, rfl, rfl, ?_, ?_⟩
    · have := Int.emod_nonneg (z * 48271 + n) (show (2147483629 : Int) ≠ 0 by decide)
      omega
    · have := Int.emod_lt_of_pos (z * 48271 + n) (show (0 : Int) < 2147483629 by decide)
      omega
  · rintro σ H2 ⟨z, c, rfl, rfl, h1, h2⟩
    refine ⟨_, rfl, a, ns.map V.int, rfl, .inl hS, fun q hq => ?_⟩
    refine ⟨_, rfl, show 4 ≤ sizeLine from le_lim (by decide), fun p hp => ?_⟩
    have npq : p ≠ q := fun z => by subst z; rw [upd_same] at hp; cases hp
    have hp2 : H2 p = none := by rwa [upd_ne npq] at hp
    exact k p q z _ h1 h2 (fun b o e => by rw [upd_ne (ne_of_none e hp2), upd_ne (ne_of_none e hq)]; exact e) hp2 hq npq (by rw [upd_ne (Ne.symm npq), upd_same]) upd_same
section
variable {P : Program} {w : World} {K : Fg} {mg : Str → Option Value} {base : Heap}
/-- _law_start may be called -/
structure CalS (P : Program) (w : World) (K : Fg) (mg : Str → Option Value) (base : Heap) : Prop where
  ex : ∃ (f : Addr) (fd : FuncData), mg "_law_start" = some (.ref f) ∧ PySem.W.keepIn K (.ref f) = true ∧ Binds K fd ["script"] [] ∧ FnG P w K mg base CX0 1 f fd ["script"] (spStart K)
abbrev N_start : List Str := ["script", "seed", "cell"]
theorem calS {st : Stmt} (F : DefF K mg "_law_start" st) (hb : ∀ (kV doc pm : Value) (an : Option Addr) (cdv ct : Value) (us : List Value), us.length = (["script"] : List Str).length → bindArgs (PySem.W.fnOf "_law_start" "_law_start" (defArgs st) (defBody st) (defScope st) .none kV doc pm an cdv ct) ⟨us, []⟩ = pure ((["script"] : List Str).zip us))
    (S : FnScope N_start ["script"] (defScope st))
    (go : ∀ (f : Addr) (cdv : Value) (A : Around) (outer : List PySem.Env) (s : Shared) (H : Hp) (E : XK), PSs (cxOf CX0 P w K mg base N_start "_law_start" (defScope st) f cdv A outer s H E).nox (defBody st) (tStart K)) : CalS P w K mg base := by
  obtain ⟨f, fd, h1, h2⟩ := F.ex
  exact ⟨f, fd, h1, h2.kp, h2.binds hb, fnG_of h2 S (fun vs H Q E ⟨a, ns, e, _⟩ => by rw [e]; rfl) fun cdv A outer s H vs Q E hg hr h => ⟨_, (go f cdv A outer s H E).nox, start_reads h⟩⟩
/-- state = _law_start(script) -/
theorem pe_start {X : Cx} (C : CalS X.prog X.w K X.mg X.base) {p pos : Pos} {e : Expr} {es : List Expr} {t : TA} (hK : X.K = K) (hgd : X.A.guards = some []) {k : Nat} (hr : Room k X.A) (hk : 1 ≤ k) (hg : Gl X "_law_start") (ha : PA X (e :: es) t)
    (he : starEach (e :: es) X.env = (false, eval e X.env) :: starEach es X.env := by rfl) (hpl : (backTo pos (starEach es X.env)).any (·.1) = false := by rfl) : PE X (.Call (.Name "_law_start" p) (e :: es) [] pos) (tCallG (spStart K) (fun _ => E0) t) := by
  obtain ⟨f, fd, h1, h2, h3, h4⟩ := C.ex
  subst hK
  exact pe_callG h4 hgd (hr.mono hk) hg h1 h2 h3 (fun _ _ _ _ _ _ _ z => z.elim) ha (by decide) he hpl
/-- the law: its first statement, then the mirror of the rest -/
theorem lawG {st : Stmt} {k M : Nat} {N : List Str} {body : Env → RS} {cls : Str → Option Addr} (F : DefF K mg "law" st) (S : FnScope N ["script"] (defScope st)) (hN : N.length = 2 + M)
    (go : ∀ (f : Addr) (cdv : Value) (A : Around) (outer : List PySem.Env) (s : Shared) (H : Hp) (E : XK), A.guards = some [] → Room k (A.deeper (envOfC "law" (defScope st) s.heap.objs.size f cdv)) →
      PSs (cxOf CX0 P w K mg base N "law" (defScope st) f cdv A outer s H E).nox (defBody st) (tSeq (tAsg (tCallG (spStart K) (fun _ => E0) (tCons (tVar 0) tNil)) (gName 1)) (tsS ⟨K, cls, [], none⟩ body)))
    (main : ∀ (ns : List Int) (s : Int), ns.length ≤ 63 → 1 ≤ s → s ≤ 2147483629 → ∃ e, body (.un :: .l (stD ns 0 0 s) :: List.replicate M .un) = .rt (.d (.bool true)) e) :
    ∃ (f : Addr) (fd : FuncData), mg "law" = some (.ref f) ∧ Fun K "law" "law" st f fd ∧ FnG P w K mg base CX0 (k + 1) f fd ["script"] (spLaw K) := by
  obtain ⟨f, fd, h1, h2⟩ := F.ex
  refine ⟨f, fd, h1, h2, fnG_of h2 S (fun vs H Q E ⟨a, ns, e, _⟩ => by rw [e]; rfl) fun cdv A outer s H vs Q E hg hr h => ⟨_, (go f cdv A outer s H E hg hr).nox, ?_⟩⟩
  obtain ⟨a, ns, rfl, hS, hl, k⟩ := h
  have e0 : L2.start N [.ref a] = some (.ref a) :: none :: List.replicate M none := by
    unfold L2.start
    rw [hN]
    show some (V.ref a) :: List.replicate (2 + M - 1) none = _
    rw [show 2 + M - 1 = M + 1 by omega, List.replicate_succ]
  rw [e0]
  refine ⟨_, rfl, a, ns, rfl, hS, hl, fun p q z H' h1 h2 _ _ _ npq hq hp => ?_⟩
  exact start_go npq hq hp (main ns z hl h1 h2) k
end
/-- the law's end: F gives the facts' written part, the function object, the promise over every base -/
theorem walkGE {l : PySem.W.OpenLaw} {k : Nat} {q : Program} {loose : List Str} {XP : (Str → Option Value) → Heap → Prop} {YP : World → Heap → Prop} {d : DefRec} {x : Str}
    (hn : l.most = some 63) (hdf : d.params.defaults = []) (hr : Room k callerA)
    (F : ∀ (w : World) (mg : Str → Option Value) (fa : Addr) (h : Heap), YP w h → h.Ns mainGlobals mg → mg d.name = some (.ref fa) →
      ∃ (K : Fg) (fd : FuncData), K.In h ∧ (∀ (s : Shared) (u : Value), BindsTo s fd ⟨[u], []⟩ [(x, u)]) ∧ ∀ base : Heap, K.In base → base.Ns mainGlobals mg → FnG l.prog w K mg base CX0 k fa fd [x] (spLaw K)) :
    PySem.W.WalkO q loose XP YP l.row.toRowW d [] (fun f vs => PySem.call f vs) :=
  Att.attach_call hn hdf fun w s₀ s₁ mg mb fa o pm cd doc a vs ns G Y ho hd hcd hmg hobj hints hlen hg => by
    obtain ⟨K, fd, KX, hb, hF⟩ := F w mg fa _ Y G.T.g hmg
    exact law_callG KX G.T.g G.T.b G.T.builtins G.T.nolimit hg hr hobj hints hlen hF hb
end BV

/-! BV16: reading mirrors: what holds behind them; the draws. -/
namespace BV
open PySem PySem.Spec PyProof.Rows L2

/-- what stands behind is held by its type: simp does not look into it -/
inductive Bk {α : Sort u} (a : α) : Type
  | mk
def wE {α : Type} (r : RE α) (Q : α → Env → Prop) (_ : Bk Q := .mk) : Prop := match r with | .ok a e => Q a e | _ => False
def wS (r : RS) (N : Env → Prop) (R : Sl → Env → Prop) (B C : Env → Prop) (_ : Bk (N, R, B, C) := .mk) : Prop := match r with | .nx e => N e | .rt s e => R s e | .bk e => B e | .ct e => C e | _ => False
def wF (r : RF) (Q : Sl → List Sl → Prop) (_ : Bk Q := .mk) : Prop := match r with | .ok s o => Q s o | _ => False
section
variable {α β : Type} {Q Q' : α → Env → Prop} {N N' B B' C C' : Env → Prop} {R R' : Sl → Env → Prop} {e : Env}
theorem wE_ext {r : RE α} (h : ∀ a e, Q a e = Q' a e) : wE r Q = wE r Q' := by rw [show Q = Q' from funext fun a => funext fun e => h a e]
theorem wE_ok {a : α} : wE (.ok a e) Q = Q a e := rfl
theorem wE_mono {r : RE α} (h : wE r Q) (i : ∀ a e, Q a e → Q' a e) : wE r Q' := by cases r <;> first | exact i _ _ h | exact h.elim
theorem wE_bind {r : RE α} {f : α → Env → RE β} {Q : β → Env → Prop} : wE (r.bind f) Q = wE r fun a e => wE (f a e) Q := by cases r <;> rfl
theorem wS_bindS {r : RE α} {k : α → Env → RS} : wS (bindS r k) N R B C = wE r fun a e => wS (k a e) N R B C := by cases r <;> rfl
theorem wE_lft {o : Option α} : wE (lft o e) Q = ∃ x, o = some x ∧ Q x e := by
  cases o with
  | none => exact propext ⟨fun h => (show False from h).elim, fun ⟨_, h, _⟩ => nomatch h⟩
  | some x => exact propext ⟨fun h => ⟨x, rfl, h⟩, fun ⟨_, h, q⟩ => by cases h; exact q⟩
theorem wS_nx : wS (.nx e) N R B C = N e := rfl
theorem wS_rt {s : Sl} : wS (.rt s e) N R B C = R s e := rfl
theorem wS_bk : wS (.bk e) N R B C = B e := rfl
theorem wS_ct : wS (.ct e) N R B C = C e := rfl
theorem wS_seq {a b : Env → RS} : wS (sSeq a b e) N R B C = wS (a e) (fun e => wS (b e) N R B C) R B C := by
  unfold sSeq
  cases a e <;> rfl
theorem wS_mono {r : RS} (h : wS r N R B C) (i : ∀ e, N e → N' e) (j : ∀ s e, R s e → R' s e) (k : ∀ e, B e → B' e) (l : ∀ e, C e → C' e) : wS r N' R' B' C' := by
  cases r with
  | nx e => exact i _ h
  | rt s e => exact j _ _ h
  | bk e => exact k _ h
  | ct e => exact l _ h
  | _ => exact h.elim
theorem wF_mono {r : RF} {Q Q' : Sl → List Sl → Prop} (h : wF r Q) (i : ∀ s o, Q s o → Q' s o) : wF r Q' := by cases r <;> first | exact i _ _ h | exact h.elim
theorem wF_ok {r : RF} {s : Sl} {o : List Sl} {Q : Sl → List Sl → Prop} (h : r = .ok s o) (q : Q s o) : wF r Q := by rw [h]; exact q
theorem wF_run {n N0 : Nat} {pins : List Nat} {b : Env → RS} {args : List Sl} {Q : Sl → List Sl → Prop} (hl : args.length = n) (h : wS (b (args ++ List.replicate (N0 - n) .un)) (fun e => Q (.d .none) (mask pins 0 n e)) (fun s e => Q s (mask pins 0 n e)) (fun _ => False) fun _ => False) : wF (runF n N0 pins b args) Q := by
  unfold runF
  rw [if_pos hl]
  cases e : b (args ++ List.replicate (N0 - n) .un) <;> rw [e] at h <;> exact h
/-- a call: the slots handed in, then the def, then the slots back -/
theorem wE_call {F : List Sl → RF} {ms : Env → RE (List AV)} {Q : Sl → Env → Prop} : wE (eCall false F ms e) Q = wE (ms e) fun avs e => ∃ q, takeA avs e = some q ∧ wF (F q.1) fun s o => Q s (putA avs o q.2) := by
  unfold eCall
  rw [wE_bind]
  refine wE_ext fun avs e1 => ?_
  cases et : takeA avs e1 with
  | none => exact propext ⟨fun h => (show False from h).elim, fun ⟨_, h, _⟩ => nomatch h⟩
  | some q =>
    refine propext ⟨fun h => ⟨q, rfl, ?_⟩, fun ⟨q', h, w⟩ => ?_⟩
    · dsimp only at h
      cases eF : F q.1 <;> rw [eF] at h <;> first | exact h | exact h.elim
    · cases h
      dsimp only
      cases eF : F q.1 <;> rw [eF] at w <;> first | exact w | exact w.elim
theorem wE_frz {r : RE Sl} {Q : D → Env → Prop} : wE (frz r) Q = wE r fun s e => match s with | .d x => Q x e | .l xs => Q (.list xs) e | _ => False := by
  cases r with
  | ok s e => cases s <;> rfl
  | _ => rfl
theorem wE_ite {c : Prop} [Decidable c] {a b : RE α} : wE (if c then a else b) Q = if c then wE a Q else wE b Q := by split <;> rfl
theorem wS_ite {c : Prop} [Decidable c] {a b : RS} : wS (if c then a else b) N R B C = if c then wS a N R B C else wS b N R B C := by split <;> rfl
/-! ### loops -/
/-- I: the items ahead, the slots -/
theorem wS_for {tm : D → Env → Option Env} {body : Env → RS} (I : List D → Env → Prop) (step : ∀ x r e, I (x :: r) e → ∃ e1, tm x e = some e1 ∧ wS (body e1) (I r) R N (I r)) (fin : ∀ e, I [] e → N e) : ∀ (xs : List D) (e : Env), I xs e → wS (forL tm body xs e) N R B C
  | [], e, h => by rw [forL]; exact fin e h
  | x :: xs, e, h => by
    obtain ⟨e1, h1, h2⟩ := step x xs e h
    rw [forL, h1]
    dsimp only
    cases eb : body e1 with
    | nx e2 => rw [eb] at h2; exact wS_for I step fin xs e2 h2
    | ct e2 => rw [eb] at h2; exact wS_for I step fin xs e2 h2
    | bk e2 => rw [eb] at h2; exact h2
    | rt s e2 => rw [eb] at h2; exact h2
    | ex c y e2 => rw [eb] at h2; exact h2.elim
    | no => rw [eb] at h2; exact h2.elim
/-- I m: a measure -/
theorem wS_while {c : Env → RE Bool} {body : Env → RS} (I : Nat → Env → Prop) (step : ∀ m e, I m e → wE (c e) fun b e => if b then wS (body e) (fun e' => ∃ m' < m, I m' e') R N (fun e' => ∃ m' < m, I m' e') else N e) :
    ∀ (fuel m : Nat) (e : Env), I m e → m < fuel → wS (sWhile fuel c body e) N R B C
  | 0, m, e, _, h => absurd h (Nat.not_lt_zero _)
  | fuel + 1, m, e, hI, hm => by
    have h := step m e hI
    unfold sWhile
    rw [whileL, wS_bindS]
    refine wE_mono h fun b e1 hb => ?_
    cases b with
    | false => exact hb
    | true =>
      simp only [if_true] at hb ⊢
      cases eb : body e1 with
      | nx e2 => rw [eb] at hb; obtain ⟨m', h1, h2⟩ := hb; exact wS_while I step fuel m' e2 h2 (by omega)
      | ct e2 => rw [eb] at hb; obtain ⟨m', h1, h2⟩ := hb; exact wS_while I step fuel m' e2 h2 (by omega)
      | bk e2 => rw [eb] at hb; exact hb
      | rt s e2 => rw [eb] at hb; exact hb
      | ex c y e2 => rw [eb] at hb; exact hb.elim
      | no => rw [eb] at hb; exact hb.elim
/-- a comprehension: J: the items ahead, what is made, the slots -/
theorem wE_compL {vs : List Nat} {tm : D → Env → Option Env} {tt : Env → RE Bool} {te : Env → RE D} {Q : List D → Env → Prop} (J : List D → List D → Env → Prop)
    (step : ∀ x r acc e, J (x :: r) acc e → ∃ e1, tm x (wipeE e vs) = some e1 ∧ wE (tt e1) fun b e2 => if b then wE (te e2) fun y e3 => J r (acc ++ [y]) e3 else J r acc e2) (len : ∀ x r acc e, J (x :: r) acc e → acc.length < 16777216) (fin : ∀ acc e, J [] acc e → Q acc (wipeE e vs)) :
    ∀ (xs acc : List D) (e : Env), J xs acc e → wE (compL vs tm tt te xs acc e) Q
  | [], acc, e, h => by rw [compL]; exact fin acc e h
  | x :: xs, acc, e, h => by
    obtain ⟨e1, h1, h2⟩ := step x xs acc e h
    rw [compL, h1]
    dsimp only
    cases et : tt e1 with
    | ok b e2 =>
      rw [et] at h2
      cases b with
      | false => exact wE_compL J step len fin xs acc e2 h2
      | true =>
        have h3 : wE (te e2) fun y e3 => J xs (acc ++ [y]) e3 := h2
        simp only [noex, RE.bind, if_true]
        cases ee : te e2 with
        | ok y e3 =>
          rw [ee] at h3
          simp only [if_pos (len x xs acc e h)]
          exact wE_compL J step len fin xs _ e3 h3
        | ex c y e3 => rw [ee] at h3; exact h3.elim
        | no => rw [ee] at h3; exact h3.elim
    | ex c y e2 => rw [et] at h2; exact h2.elim
    | no => rw [et] at h2; exact h2.elim
theorem wE_nComp {vs : List Nat} {tm : D → Env → Option Env} {it : Env → RE (List D)} {tt : Env → RE Bool} {te : Env → RE D} {Q : Sl → Env → Prop} : wE (nComp vs tm it tt te e) Q = wE (it e) fun xs e => wE (compL vs tm tt te xs [] e) fun acc e => Q (.l acc) e := by
  unfold nComp
  rw [wE_bind]
  refine wE_ext fun avs e1 => ?_
  rw [wE_bind]
  rfl
/-- a comprehension whose parts leave the slots: f tells each item's result (none: left out) -/
theorem compL_pure {vs : List Nat} {tm : D → Env → Option Env} {tt : Env → RE Bool} {te : Env → RE D} {E : Env} (f : D → Option D) : ∀ (xs acc : List D) (e : Env), acc.length + xs.length ≤ 16777216 → wipeE e vs = E →
    (∀ x ∈ xs, ∃ e1, tm x E = some e1 ∧ wE (tt e1) fun b e2 => if b then wE (te e2) fun y e3 => f x = some y ∧ wipeE e3 vs = E else f x = none ∧ wipeE e2 vs = E) → compL vs tm tt te xs acc e = .ok (acc ++ xs.filterMap f) E := by
  intro xs
  induction xs with
  | nil => intro acc e hl he _; rw [compL, he]; simp
  | cons x xs ih =>
    intro acc e hl he h
    rw [List.length_cons] at hl
    obtain ⟨e1, h1, h2⟩ := h x List.mem_cons_self
    rw [compL, he, h1]
    dsimp only
    have hr := fun y hy => h y (List.mem_cons_of_mem _ hy)
    cases et : tt e1 with
    | ok b e2 =>
      rw [et] at h2
      cases b with
      | false =>
        obtain ⟨h3, h4⟩ : f x = none ∧ wipeE e2 vs = E := h2
        simp only [noex, RE.bind]
        rw [List.filterMap_cons, h3]
        exact ih acc e2 (by omega) h4 hr
      | true =>
        have h3 : wE (te e2) fun y e3 => f x = some y ∧ wipeE e3 vs = E := h2
        simp only [noex, RE.bind]
        cases ee : te e2 with
        | ok y e3 =>
          rw [ee] at h3
          obtain ⟨h4, h5⟩ : f x = some y ∧ wipeE e3 vs = E := h3
          rw [List.filterMap_cons, h4]
          simp only [if_true]
          rw [if_pos (by omega), ih (acc ++ [y]) e3 (by rw [List.length_append]; simp; omega) h5 hr]
          simp
        | ex c y e3 => rw [ee] at h3; exact h3.elim
        | no => rw [ee] at h3; exact h3.elim
    | ex c y e2 => rw [et] at h2; exact h2.elim
    | no => rw [et] at h2; exact h2.elim
end

/-! ### one step of reading a combinator: rules for simp; what stands behind is not looked into -/
/-- a slot read; a step done at once; a way chosen -/
def wV (o : Option Sl) (i : Nat) (e : Env) (Q : D → Env → Prop) (_ : Bk Q := .mk) : Prop := match o with | some (.d x) => Q x e | some (.l xs) => Q (.list xs) (e.set i (.d (.list xs))) | _ => False
def wO (o : Option Sl) (e : Env) (Q : D → Env → Prop) (_ : Bk Q := .mk) : Prop := match o with | some (.d x) => Q x e | some (.l xs) => Q (.list xs) e | _ => False
def wL {α : Type} (o : Option α) (e : Env) (Q : α → Env → Prop) (_ : Bk Q := .mk) : Prop := match o with | some x => Q x e | none => False
def cB (b : Bool) (p q : Prop) (_ : Bk (p, q) := .mk) : Prop := if b then p else q
section
variable {α : Type} {e : Env} {i : Nat} {Q : α → Env → Prop} {QD : D → Env → Prop} {QB : Bool → Env → Prop} {QS : Sl → Env → Prop} {QL : List D → Env → Prop} {QA : List AV → Env → Prop} {QO : Option Int → Env → Prop} {N B C : Env → Prop} {R : Sl → Env → Prop}
theorem wV_d {x : D} : wV (some (.d x)) i e QD = QD x e := rfl
theorem wV_l {xs : List D} : wV (some (.l xs)) i e QD = QD (.list xs) (e.set i (.d (.list xs))) := rfl
theorem wO_d {x : D} : wO (some (.d x)) e QD = QD x e := rfl
theorem wO_l {xs : List D} : wO (some (.l xs)) e QD = QD (.list xs) e := rfl
theorem wL_some {x : α} : wL (some x) e Q = Q x e := rfl
theorem wL_ite {c : Prop} [Decidable c] {x : α} : wL (if c then some x else none) e Q = (c ∧ Q x e) := by
  by_cases h : c
  · rw [if_pos h]; exact propext ⟨fun q => ⟨h, q⟩, fun q => q.2⟩
  · rw [if_neg h]; exact propext ⟨fun q => (show False from q).elim, fun q => h q.1⟩
theorem wL_map {β : Type} {o : Option β} {f : β → α} : wL (o.map f) e Q = wL o e fun x e => Q (f x) e := by cases o <;> rfl
theorem cB_true {p q : Prop} : cB true p q = p := rfl
theorem cB_false {p q : Prop} : cB false p q = q := rfl
theorem cB_not {b : Bool} {p q : Prop} : cB (!b) p q = cB b q p := by cases b <;> rfl
theorem cB_intro {b : Bool} {p q : Prop} (h1 : b = true → p) (h2 : b = false → q) : cB b p q := by
  cases b with
  | false => exact h2 rfl
  | true => exact h1 rfl
theorem cB_dec {c : Prop} [Decidable c] {p q : Prop} (h1 : c → p) (h2 : ¬ c → q) : cB (decide c) p q := cB_intro (fun h => h1 (of_decide_eq_true h)) fun h => h2 (of_decide_eq_false h)
theorem wL_ext {Q' : α → Env → Prop} {o : Option α} (h : ∀ a e, Q a e = Q' a e) : wL o e Q = wL o e Q' := by rw [show Q = Q' from funext fun a => funext fun e => h a e]
theorem wV_ext {Q' : D → Env → Prop} {o : Option Sl} (h : ∀ a e, QD a e = Q' a e) : wV o i e QD = wV o i e Q' := by rw [show QD = Q' from funext fun a => funext fun e => h a e]
theorem wO_ext {Q' : D → Env → Prop} {o : Option Sl} (h : ∀ a e, QD a e = Q' a e) : wO o e QD = wO o e Q' := by rw [show QD = Q' from funext fun a => funext fun e => h a e]
theorem r_lft {o : Option α} : wE (lft o e) Q = wL o e Q := by cases o <;> rfl
theorem r_var : wE (eVar i e) QD = wV e[i]? i e QD := by
  unfold eVar
  cases e[i]? with
  | none => rfl
  | some s => cases s <;> rfl
theorem r_own : wE (eOwn i e) QD = wO e[i]? e QD := by
  unfold eOwn
  cases e[i]? with
  | none => rfl
  | some s => cases s <;> rfl
theorem r_c {x : D} : wE (eC x e) QD = QD x e := rfl
variable {f g : D → D → Option D} {fb gb : D → D → Option Bool} {a b c : Env → RE D} {t t1 t2 : Env → RE Bool} {sa sb : Env → RS} {ms : Env → RE (List D)} {pins : List Nat}
theorem r_bin : wE (eBin f a b e) QD = wE (a e) fun x e => wE (b e) fun y e => wL (f x y) e QD := by
  unfold eBin; repeat (first | rfl | (refine wE_ext fun _ _ => ?_) | (refine wL_ext fun _ _ => ?_) | (refine wV_ext fun _ _ => ?_) | (refine wO_ext fun _ _ => ?_) | (refine congrArg (And _) ?_) | simp only [wE_bind] | simp only [wS_bindS] | simp only [r_lft] | simp only [wE_if] | simp only [wS_ifb] | simp only [wL_map] | simp only [wE_ok] | simp only [r_var] | simp only [r_own] | simp only [pin_ite] | simp only [r_isl] | simp only [r_upd] | simp only [wS_rt] | simp only [wS_nx] | simp only [wE_ite])
theorem r_binO : wE (eBinO f i b e) QD = wO e[i]? e fun _ e => wE (b e) fun y e => wO e[i]? e fun x e => wL (f x y) e QD := by
  unfold eBinO; repeat (first | rfl | (refine wE_ext fun _ _ => ?_) | (refine wL_ext fun _ _ => ?_) | (refine wV_ext fun _ _ => ?_) | (refine wO_ext fun _ _ => ?_) | (refine congrArg (And _) ?_) | simp only [wE_bind] | simp only [wS_bindS] | simp only [r_lft] | simp only [wE_if] | simp only [wS_ifb] | simp only [wL_map] | simp only [wE_ok] | simp only [r_var] | simp only [r_own] | simp only [pin_ite] | simp only [r_isl] | simp only [r_upd] | simp only [wS_rt] | simp only [wS_nx] | simp only [wE_ite])
theorem r_cmp : wE (eCmp fb a b e) QD = wE (a e) fun x e => wE (b e) fun y e => wL (fb x y) e fun z e => QD (.bool z) e := by
  unfold eCmp; repeat (first | rfl | (refine wE_ext fun _ _ => ?_) | (refine wL_ext fun _ _ => ?_) | (refine wV_ext fun _ _ => ?_) | (refine wO_ext fun _ _ => ?_) | (refine congrArg (And _) ?_) | simp only [wE_bind] | simp only [wS_bindS] | simp only [r_lft] | simp only [wE_if] | simp only [wS_ifb] | simp only [wL_map] | simp only [wE_ok] | simp only [r_var] | simp only [r_own] | simp only [pin_ite] | simp only [r_isl] | simp only [r_upd] | simp only [wS_rt] | simp only [wS_nx] | simp only [wE_ite])
theorem r_tcmp : wE (tCmpD fb a b e) QB = wE (a e) fun x e => wE (b e) fun y e => wL (fb x y) e QB := by
  unfold tCmpD; repeat (first | rfl | (refine wE_ext fun _ _ => ?_) | (refine wL_ext fun _ _ => ?_) | (refine wV_ext fun _ _ => ?_) | (refine wO_ext fun _ _ => ?_) | (refine congrArg (And _) ?_) | simp only [wE_bind] | simp only [wS_bindS] | simp only [r_lft] | simp only [wE_if] | simp only [wS_ifb] | simp only [wL_map] | simp only [wE_ok] | simp only [r_var] | simp only [r_own] | simp only [pin_ite] | simp only [r_isl] | simp only [r_upd] | simp only [wS_rt] | simp only [wS_nx] | simp only [wE_ite])
theorem r_tcmpO : wE (tCmpO fb i b e) QB = wO e[i]? e fun _ e => wE (b e) fun y e => wO e[i]? e fun x e => wL (fb x y) e QB := by
  unfold tCmpO; repeat (first | rfl | (refine wE_ext fun _ _ => ?_) | (refine wL_ext fun _ _ => ?_) | (refine wV_ext fun _ _ => ?_) | (refine wO_ext fun _ _ => ?_) | (refine congrArg (And _) ?_) | simp only [wE_bind] | simp only [wS_bindS] | simp only [r_lft] | simp only [wE_if] | simp only [wS_ifb] | simp only [wL_map] | simp only [wE_ok] | simp only [r_var] | simp only [r_own] | simp only [pin_ite] | simp only [r_isl] | simp only [r_upd] | simp only [wS_rt] | simp only [wS_nx] | simp only [wE_ite])
theorem r_tru : wE (tTru a e) QB = wE (a e) fun x e => wL (dTru x) e QB := by unfold tTru; repeat (first | rfl | (refine wE_ext fun _ _ => ?_) | (refine wL_ext fun _ _ => ?_) | (refine wV_ext fun _ _ => ?_) | (refine wO_ext fun _ _ => ?_) | (refine congrArg (And _) ?_) | simp only [wE_bind] | simp only [wS_bindS] | simp only [r_lft] | simp only [wE_if] | simp only [wS_ifb] | simp only [wL_map] | simp only [wE_ok] | simp only [r_var] | simp only [r_own] | simp only [pin_ite] | simp only [r_isl] | simp only [r_upd] | simp only [wS_rt] | simp only [wS_nx] | simp only [wE_ite])
theorem wE_if {b : Bool} {x y : RE α} : wE (if b then x else y) Q = cB b (wE x Q) (wE y Q) := by cases b <;> rfl
theorem wS_ifb {b : Bool} {x y : RS} : wS (if b then x else y) N R B C = cB b (wS x N R B C) (wS y N R B C) := by cases b <;> rfl
theorem r_tand : wE (tAndD t1 t2 e) QB = wE (t1 e) fun x e => cB x (wE (t2 e) QB) (QB false e) := by unfold tAndD; repeat (first | rfl | (refine wE_ext fun _ _ => ?_) | (refine wL_ext fun _ _ => ?_) | (refine wV_ext fun _ _ => ?_) | (refine wO_ext fun _ _ => ?_) | (refine congrArg (And _) ?_) | simp only [wE_bind] | simp only [wS_bindS] | simp only [r_lft] | simp only [wE_if] | simp only [wS_ifb] | simp only [wL_map] | simp only [wE_ok] | simp only [r_var] | simp only [r_own] | simp only [pin_ite] | simp only [r_isl] | simp only [r_upd] | simp only [wS_rt] | simp only [wS_nx] | simp only [wE_ite])
theorem r_tor : wE (tOrD t1 t2 e) QB = wE (t1 e) fun x e => cB x (QB true e) (wE (t2 e) QB) := by unfold tOrD; repeat (first | rfl | (refine wE_ext fun _ _ => ?_) | (refine wL_ext fun _ _ => ?_) | (refine wV_ext fun _ _ => ?_) | (refine wO_ext fun _ _ => ?_) | (refine congrArg (And _) ?_) | simp only [wE_bind] | simp only [wS_bindS] | simp only [r_lft] | simp only [wE_if] | simp only [wS_ifb] | simp only [wL_map] | simp only [wE_ok] | simp only [r_var] | simp only [r_own] | simp only [pin_ite] | simp only [r_isl] | simp only [r_upd] | simp only [wS_rt] | simp only [wS_nx] | simp only [wE_ite])
theorem r_tnot : wE (tNotD t e) QB = wE (t e) fun x e => QB (!x) e := by unfold tNotD; repeat (first | rfl | (refine wE_ext fun _ _ => ?_) | (refine wL_ext fun _ _ => ?_) | (refine wV_ext fun _ _ => ?_) | (refine wO_ext fun _ _ => ?_) | (refine congrArg (And _) ?_) | simp only [wE_bind] | simp only [wS_bindS] | simp only [r_lft] | simp only [wE_if] | simp only [wS_ifb] | simp only [wL_map] | simp only [wE_ok] | simp only [r_var] | simp only [r_own] | simp only [pin_ite] | simp only [r_isl] | simp only [r_upd] | simp only [wS_rt] | simp only [wS_nx] | simp only [wE_ite])
theorem r_eif : wE (eIf t a b e) QD = wE (t e) fun x e => cB x (wE (a e) QD) (wE (b e) QD) := by unfold eIf; repeat (first | rfl | (refine wE_ext fun _ _ => ?_) | (refine wL_ext fun _ _ => ?_) | (refine wV_ext fun _ _ => ?_) | (refine wO_ext fun _ _ => ?_) | (refine congrArg (And _) ?_) | simp only [wE_bind] | simp only [wS_bindS] | simp only [r_lft] | simp only [wE_if] | simp only [wS_ifb] | simp only [wL_map] | simp only [wE_ok] | simp only [r_var] | simp only [r_own] | simp only [pin_ite] | simp only [r_isl] | simp only [r_upd] | simp only [wS_rt] | simp only [wS_nx] | simp only [wE_ite])
theorem r_nif {a b : Env → RE Sl} : wE (nIf t a b e) QS = wE (t e) fun x e => cB x (wE (a e) QS) (wE (b e) QS) := by unfold nIf; repeat (first | rfl | (refine wE_ext fun _ _ => ?_) | (refine wL_ext fun _ _ => ?_) | (refine wV_ext fun _ _ => ?_) | (refine wO_ext fun _ _ => ?_) | (refine congrArg (And _) ?_) | simp only [wE_bind] | simp only [wS_bindS] | simp only [r_lft] | simp only [wE_if] | simp only [wS_ifb] | simp only [wL_map] | simp only [wE_ok] | simp only [r_var] | simp only [r_own] | simp only [pin_ite] | simp only [r_isl] | simp only [r_upd] | simp only [wS_rt] | simp only [wS_nx] | simp only [wE_ite])
theorem r_and : wE (eAnd a b e) QD = wE (a e) fun x e => wL (dTru x) e fun k e => cB k (wE (b e) QD) (QD x e) := by unfold eAnd; repeat (first | rfl | (refine wE_ext fun _ _ => ?_) | (refine wL_ext fun _ _ => ?_) | (refine wV_ext fun _ _ => ?_) | (refine wO_ext fun _ _ => ?_) | (refine congrArg (And _) ?_) | simp only [wE_bind] | simp only [wS_bindS] | simp only [r_lft] | simp only [wE_if] | simp only [wS_ifb] | simp only [wL_map] | simp only [wE_ok] | simp only [r_var] | simp only [r_own] | simp only [pin_ite] | simp only [r_isl] | simp only [r_upd] | simp only [wS_rt] | simp only [wS_nx] | simp only [wE_ite])
theorem r_or : wE (eOr a b e) QD = wE (a e) fun x e => wL (dTru x) e fun k e => cB k (QD x e) (wE (b e) QD) := by unfold eOr; repeat (first | rfl | (refine wE_ext fun _ _ => ?_) | (refine wL_ext fun _ _ => ?_) | (refine wV_ext fun _ _ => ?_) | (refine wO_ext fun _ _ => ?_) | (refine congrArg (And _) ?_) | simp only [wE_bind] | simp only [wS_bindS] | simp only [r_lft] | simp only [wE_if] | simp only [wS_ifb] | simp only [wL_map] | simp only [wE_ok] | simp only [r_var] | simp only [r_own] | simp only [pin_ite] | simp only [r_isl] | simp only [r_upd] | simp only [wS_rt] | simp only [wS_nx] | simp only [wE_ite])
theorem r_not : wE (eNot a e) QD = wE (a e) fun x e => wL (dTru x) e fun k e => QD (.bool (!k)) e := by unfold eNot; repeat (first | rfl | (refine wE_ext fun _ _ => ?_) | (refine wL_ext fun _ _ => ?_) | (refine wV_ext fun _ _ => ?_) | (refine wO_ext fun _ _ => ?_) | (refine congrArg (And _) ?_) | simp only [wE_bind] | simp only [wS_bindS] | simp only [r_lft] | simp only [wE_if] | simp only [wS_ifb] | simp only [wL_map] | simp only [wE_ok] | simp only [r_var] | simp only [r_own] | simp only [pin_ite] | simp only [r_isl] | simp only [r_upd] | simp only [wS_rt] | simp only [wS_nx] | simp only [wE_ite])
theorem r_neg {n : Int} : wE (eNeg (eC (.int n)) e) QD = QD (.int (-n)) e := rfl
theorem r_cb {F : List D → Option D} : wE (eCB F ms e) QD = wE (ms e) fun xs e => wL (F xs) e QD := by unfold eCB; repeat (first | rfl | (refine wE_ext fun _ _ => ?_) | (refine wL_ext fun _ _ => ?_) | (refine wV_ext fun _ _ => ?_) | (refine wO_ext fun _ _ => ?_) | (refine congrArg (And _) ?_) | simp only [wE_bind] | simp only [wS_bindS] | simp only [r_lft] | simp only [wE_if] | simp only [wS_ifb] | simp only [wL_map] | simp only [wE_ok] | simp only [r_var] | simp only [r_own] | simp only [pin_ite] | simp only [r_isl] | simp only [r_upd] | simp only [wS_rt] | simp only [wS_nx] | simp only [wE_ite])
theorem r_ncb {F : List D → Option (List D)} : wE (nCB F ms e) QS = wE (ms e) fun xs e => wL (F xs) e fun ys e => QS (.l ys) e := by unfold nCB; repeat (first | rfl | (refine wE_ext fun _ _ => ?_) | (refine wL_ext fun _ _ => ?_) | (refine wV_ext fun _ _ => ?_) | (refine wO_ext fun _ _ => ?_) | (refine congrArg (And _) ?_) | simp only [wE_bind] | simp only [wS_bindS] | simp only [r_lft] | simp only [wE_if] | simp only [wS_ifb] | simp only [wL_map] | simp only [wE_ok] | simp only [r_var] | simp only [r_own] | simp only [pin_ite] | simp only [r_isl] | simp only [r_upd] | simp only [wS_rt] | simp only [wS_nx] | simp only [wE_ite])
theorem r_chk {Ty : String} {x : D} {Q' : Unit → Env → Prop} : wE (tyChk Ty x e) Q' = (tyD x = Ty ∧ Q' () e) := by
  unfold tyChk
  by_cases h : tyD x = Ty
  · rw [if_pos h]; exact propext ⟨fun z => ⟨h, z⟩, fun z => z.2⟩
  · rw [if_neg h]; exact propext ⟨fun z => (show False from z).elim, fun z => h z.1⟩
theorem r_bm {Ty : String} {F : D → List D → Option D} : wE (eBM Ty F a ms e) QD = wE (a e) fun x e => tyD x = Ty ∧ wE (ms e) fun xs e => wL (F x xs) e QD := by
  unfold eBM
  rw [wE_bind]
  refine wE_ext fun x e1 => ?_
  rw [wE_bind, r_chk, wE_bind]
  refine congrArg (And _) (wE_ext fun xs e2 => r_lft)
theorem r_bm0 {Ty : String} {F : D → List D → Option D} : wE (eBM0 Ty F a e) QD = wE (a e) fun x e => tyD x = Ty ∧ wL (F x []) e QD := by
  unfold eBM0
  rw [wE_bind]
  refine wE_ext fun x e1 => ?_
  rw [wE_bind, r_chk, r_lft]
theorem r_tup : wE (eTup ms e) QD = wE (ms e) fun xs e => xs.length ≤ 16777216 ∧ QD (.tuple xs) e := by
  unfold eTup
  rw [wE_bind]
  refine wE_ext fun xs e1 => ?_
  by_cases h : xs.length ≤ 16777216
  · rw [if_pos h]; exact propext ⟨fun z => ⟨h, z⟩, fun z => z.2⟩
  · rw [if_neg h]; exact propext ⟨fun z => (show False from z).elim, fun z => h z.1⟩
theorem r_lst : wE (nLst ms e) QS = wE (ms e) fun xs e => xs.length ≤ 16777216 ∧ QS (.l xs) e := by
  unfold nLst; rw [wE_bind]; refine wE_ext fun _ _ => ?_; rw [r_lft, wL_ite]
theorem r_anil : wE (aNil e) QL = QL [] e := rfl
theorem r_acons : wE (aCons a ms e) QL = wE (a e) fun x e => wE (ms e) fun xs e => QL (x :: xs) e := by unfold aCons; repeat (first | rfl | (refine wE_ext fun _ _ => ?_) | (refine wL_ext fun _ _ => ?_) | (refine wV_ext fun _ _ => ?_) | (refine wO_ext fun _ _ => ?_) | (refine congrArg (And _) ?_) | simp only [wE_bind] | simp only [wS_bindS] | simp only [r_lft] | simp only [wE_if] | simp only [wS_ifb] | simp only [wL_map] | simp only [wE_ok] | simp only [r_var] | simp only [r_own] | simp only [pin_ite] | simp only [r_isl] | simp only [r_upd] | simp only [wS_rt] | simp only [wS_nx] | simp only [wE_ite])
theorem r_aone : wE (aOne a e) QL = wE (a e) fun x e => QL [x] e := by unfold aOne; repeat (first | rfl | (refine wE_ext fun _ _ => ?_) | (refine wL_ext fun _ _ => ?_) | (refine wV_ext fun _ _ => ?_) | (refine wO_ext fun _ _ => ?_) | (refine congrArg (And _) ?_) | simp only [wE_bind] | simp only [wS_bindS] | simp only [r_lft] | simp only [wE_if] | simp only [wS_ifb] | simp only [wL_map] | simp only [wE_ok] | simp only [r_var] | simp only [r_own] | simp only [pin_ite] | simp only [r_isl] | simp only [r_upd] | simp only [wS_rt] | simp only [wS_nx] | simp only [wE_ite])
theorem r_vnil : wE (vNil e) QA = QA [] e := rfl
theorem r_vcons {m : Env → RE (List AV)} : wE (vCons a m e) QA = wE (a e) fun x e => wE (m e) fun xs e => QA (.v x :: xs) e := by unfold vCons; repeat (first | rfl | (refine wE_ext fun _ _ => ?_) | (refine wL_ext fun _ _ => ?_) | (refine wV_ext fun _ _ => ?_) | (refine wO_ext fun _ _ => ?_) | (refine congrArg (And _) ?_) | simp only [wE_bind] | simp only [wS_bindS] | simp only [r_lft] | simp only [wE_if] | simp only [wS_ifb] | simp only [wL_map] | simp only [wE_ok] | simp only [r_var] | simp only [r_own] | simp only [pin_ite] | simp only [r_isl] | simp only [r_upd] | simp only [wS_rt] | simp only [wS_nx] | simp only [wE_ite])
def okS : Option Sl → Bool
  | none => false
  | some .un => false
  | some _ => true
theorem r_has {Q' : Unit → Env → Prop} : wE (hasS i e) Q' = (okS e[i]? = true ∧ Q' () e) := by
  unfold hasS
  cases h : e[i]? with
  | none => exact propext ⟨fun z => (show False from z).elim, fun z => nomatch z.1⟩
  | some s => cases s <;> first | exact propext ⟨fun z => (show False from z).elim, fun z => nomatch z.1⟩ | exact propext ⟨fun z => ⟨rfl, z⟩, fun z => z.2⟩
theorem r_vslot {m : Env → RE (List AV)} : wE (vSlot i m e) QA = (okS e[i]? = true ∧ wE (m e) fun xs e => QA (.s i :: xs) e) := by
  unfold vSlot
  rw [wE_bind, r_has, wE_bind]
  exact congrArg (And _) rfl
theorem r_sl {lo hi : Env → RE (Option Int)} : wE (eSl a lo hi e) QD = wE (a e) fun x e => wE (lo e) fun l e => wE (hi e) fun h e => wL (dSl x l h) e QD := by unfold eSl; repeat (first | rfl | (refine wE_ext fun _ _ => ?_) | (refine wL_ext fun _ _ => ?_) | (refine wV_ext fun _ _ => ?_) | (refine wO_ext fun _ _ => ?_) | (refine congrArg (And _) ?_) | simp only [wE_bind] | simp only [wS_bindS] | simp only [r_lft] | simp only [wE_if] | simp only [wS_ifb] | simp only [wL_map] | simp only [wE_ok] | simp only [r_var] | simp only [r_own] | simp only [pin_ite] | simp only [r_isl] | simp only [r_upd] | simp only [wS_rt] | simp only [wS_nx] | simp only [wE_ite])
theorem r_onone : wE (oNone e) QO = QO none e := rfl
def asI : D → Option Int
  | .int i => some i
  | _ => none
theorem r_osome : wE (oSome a e) QO = wE (a e) fun x e => wL (asI x) e fun i e => QO (some i) e := by
  unfold oSome
  rw [wE_bind]
  refine wE_ext fun x e1 => ?_
  cases x <;> rfl
theorem chain_end {α : Type} {ret : Bool → α} {QR : α → Env → Prop} {k : Bool} {y : D} : wE (if k then (c e).bind fun z env => lft ((gb y z).map ret) env else .ok (ret false) e) QR = cB k (wE (c e) fun z e => wL (gb y z) e fun k e => QR (ret k) e) (QR (ret false) e) := by
  rw [wE_if, wE_ok, wE_bind]
  refine congrArg (fun p => cB k p _) (wE_ext fun z e1 => ?_)
  rw [r_lft, wL_map]
theorem r_chain : wE (eChain fb gb a b c e) QD = wE (a e) fun x e => wE (b e) fun y e => wL (fb x y) e fun k e => cB k (wE (c e) fun z e => wL (gb y z) e fun k e => QD (.bool k) e) (QD (.bool false) e) := by
  unfold eChain chainG
  rw [wE_bind]
  refine wE_ext fun x e1 => ?_
  rw [wE_bind]
  refine wE_ext fun y e2 => ?_
  rw [wE_bind, r_lft]
  exact wL_ext fun k e3 => chain_end (ret := PyData.bool)
theorem r_tchain : wE (tChainD fb gb a b c e) QB = wE (a e) fun x e => wE (b e) fun y e => wL (fb x y) e fun k e => cB k (wE (c e) fun z e => wL (gb y z) e QB) (QB false e) := by
  unfold tChainD chainG
  rw [wE_bind]
  refine wE_ext fun x e1 => ?_
  rw [wE_bind]
  refine wE_ext fun y e2 => ?_
  rw [wE_bind, r_lft]
  exact wL_ext fun k e3 => chain_end (ret := id)
theorem r_isi {Ty : String} : wE (eIsI Ty a e) QD = wE (a e) fun x e => wL (isI Ty x) e fun k e => QD (.bool k) e := by unfold eIsI; repeat (first | rfl | (refine wE_ext fun _ _ => ?_) | (refine wL_ext fun _ _ => ?_) | (refine wV_ext fun _ _ => ?_) | (refine wO_ext fun _ _ => ?_) | (refine congrArg (And _) ?_) | simp only [wE_bind] | simp only [wS_bindS] | simp only [r_lft] | simp only [wE_if] | simp only [wS_ifb] | simp only [wL_map] | simp only [wE_ok] | simp only [r_var] | simp only [r_own] | simp only [pin_ite] | simp only [r_isl] | simp only [r_upd] | simp only [wS_rt] | simp only [wS_nx] | simp only [wE_ite])
theorem r_iany : wE (iAny a e) QL = wE (a e) fun x e => wL (itemsOf x) e QL := by unfold iAny; repeat (first | rfl | (refine wE_ext fun _ _ => ?_) | (refine wL_ext fun _ _ => ?_) | (refine wV_ext fun _ _ => ?_) | (refine wO_ext fun _ _ => ?_) | (refine congrArg (And _) ?_) | simp only [wE_bind] | simp only [wS_bindS] | simp only [r_lft] | simp only [wE_if] | simp only [wS_ifb] | simp only [wL_map] | simp only [wE_ok] | simp only [r_var] | simp only [r_own] | simp only [pin_ite] | simp only [r_isl] | simp only [r_upd] | simp only [wS_rt] | simp only [wS_nx] | simp only [wE_ite])
theorem r_rg1 : wE (iRg1 ms e) QL = wE (ms e) fun x e => wL (dRng1 x) e QL := by unfold iRg1; repeat (first | rfl | (refine wE_ext fun _ _ => ?_) | (refine wL_ext fun _ _ => ?_) | (refine wV_ext fun _ _ => ?_) | (refine wO_ext fun _ _ => ?_) | (refine congrArg (And _) ?_) | simp only [wE_bind] | simp only [wS_bindS] | simp only [r_lft] | simp only [wE_if] | simp only [wS_ifb] | simp only [wL_map] | simp only [wE_ok] | simp only [r_var] | simp only [r_own] | simp only [pin_ite] | simp only [r_isl] | simp only [r_upd] | simp only [wS_rt] | simp only [wS_nx] | simp only [wE_ite])
theorem r_rg2 : wE (iRg2 ms e) QL = wE (ms e) fun x e => wL (dRng2 x) e QL := by unfold iRg2; repeat (first | rfl | (refine wE_ext fun _ _ => ?_) | (refine wL_ext fun _ _ => ?_) | (refine wV_ext fun _ _ => ?_) | (refine wO_ext fun _ _ => ?_) | (refine congrArg (And _) ?_) | simp only [wE_bind] | simp only [wS_bindS] | simp only [r_lft] | simp only [wE_if] | simp only [wS_ifb] | simp only [wL_map] | simp only [wE_ok] | simp only [r_var] | simp only [r_own] | simp only [pin_ite] | simp only [r_isl] | simp only [r_upd] | simp only [wS_rt] | simp only [wS_nx] | simp only [wE_ite])
theorem r_yes : wE (ttYes e) QB = QB true e := rfl
/-- frozen; a call -/
def wZ (s : Sl) (e : Env) (Q : D → Env → Prop) (_ : Bk Q := .mk) : Prop := match s with | .d x => Q x e | .l xs => Q (.list xs) e | _ => False
theorem wZ_d {x : D} : wZ (.d x) e QD = QD x e := rfl
theorem wZ_l {x : List D} : wZ (.l x) e QD = QD (.list x) e := rfl
theorem r_frz {r : RE Sl} : wE (frz r) QD = wE r fun s e => wZ s e QD := wE_frz
def wTk (o : Option (List Sl × Env)) (F : List Sl → RF) (K : Env → Sl → List Sl → Prop) (_ : Bk K := .mk) : Prop := match o with | some q => wF (F q.1) (K q.2) | none => False
theorem wTk_some {q : List Sl} {e : Env} {F : List Sl → RF} {K : Env → Sl → List Sl → Prop} : wTk (some (q, e)) F K = wF (F q) (K e) := rfl
theorem r_call {F : List Sl → RF} {m : Env → RE (List AV)} : wE (eCall false F m e) QS = wE (m e) fun avs e => wTk (takeA avs e) F fun e s o => QS s (putA avs o e) := by
  rw [wE_call]
  refine wE_ext fun avs e1 => ?_
  cases takeA avs e1 with
  | none => exact propext ⟨fun z => (by obtain ⟨_, h, _⟩ := z; cases h), fun h => (show False from h).elim⟩
  | some q => exact propext ⟨fun z => (by obtain ⟨_, h, w⟩ := z; cases h; exact w), fun h => ⟨q, rfl, h⟩⟩
theorem r_F {s : Sl} {o : List Sl} {Q : Sl → List Sl → Prop} : wF (.ok s o) Q = Q s o := rfl
theorem r_sif : wS (sIf t sa sb e) N R B C = wE (t e) fun x e => cB x (wS (sa e) N R B C) (wS (sb e) N R B C) := by unfold sIf; repeat (first | rfl | (refine wE_ext fun _ _ => ?_) | (refine wL_ext fun _ _ => ?_) | (refine wV_ext fun _ _ => ?_) | (refine wO_ext fun _ _ => ?_) | (refine congrArg (And _) ?_) | simp only [wE_bind] | simp only [wS_bindS] | simp only [r_lft] | simp only [wE_if] | simp only [wS_ifb] | simp only [wL_map] | simp only [wE_ok] | simp only [r_var] | simp only [r_own] | simp only [pin_ite] | simp only [r_isl] | simp only [r_upd] | simp only [wS_rt] | simp only [wS_nx] | simp only [wE_ite])
theorem r_snil : wS (sNil e) N R B C = N e := rfl
theorem r_pass : wS (sPass e) N R B C = N e := rfl
theorem r_break : wS (sBreak e) N R B C = B e := rfl
theorem r_cont : wS (sCont e) N R B C = C e := rfl
theorem r_no : wS (sNo e) N R B C = False := rfl
theorem r_ret : wS (sRet a e) N R B C = wE (a e) fun x e => R (.d x) e := by unfold sRet; repeat (first | rfl | (refine wE_ext fun _ _ => ?_) | (refine wL_ext fun _ _ => ?_) | (refine wV_ext fun _ _ => ?_) | (refine wO_ext fun _ _ => ?_) | (refine congrArg (And _) ?_) | simp only [wE_bind] | simp only [wS_bindS] | simp only [r_lft] | simp only [wE_if] | simp only [wS_ifb] | simp only [wL_map] | simp only [wE_ok] | simp only [r_var] | simp only [r_own] | simp only [pin_ite] | simp only [r_isl] | simp only [r_upd] | simp only [wS_rt] | simp only [wS_nx] | simp only [wE_ite])
theorem r_retN {m : Env → RE Sl} : wS (sRetN m e) N R B C = wE (m e) fun x e => R x e := by unfold sRetN; repeat (first | rfl | (refine wE_ext fun _ _ => ?_) | (refine wL_ext fun _ _ => ?_) | (refine wV_ext fun _ _ => ?_) | (refine wO_ext fun _ _ => ?_) | (refine congrArg (And _) ?_) | simp only [wE_bind] | simp only [wS_bindS] | simp only [r_lft] | simp only [wE_if] | simp only [wS_ifb] | simp only [wL_map] | simp only [wE_ok] | simp only [r_var] | simp only [r_own] | simp only [pin_ite] | simp only [r_isl] | simp only [r_upd] | simp only [wS_rt] | simp only [wS_nx] | simp only [wE_ite])
theorem r_retNone : wS (sRetNone e) N R B C = R (.d .none) e := rfl
theorem r_drop : wS (sDrop a e) N R B C = wE (a e) fun _ e => N e := by unfold sDrop; repeat (first | rfl | (refine wE_ext fun _ _ => ?_) | (refine wL_ext fun _ _ => ?_) | (refine wV_ext fun _ _ => ?_) | (refine wO_ext fun _ _ => ?_) | (refine congrArg (And _) ?_) | simp only [wE_bind] | simp only [wS_bindS] | simp only [r_lft] | simp only [wE_if] | simp only [wS_ifb] | simp only [wL_map] | simp only [wE_ok] | simp only [r_var] | simp only [r_own] | simp only [pin_ite] | simp only [r_isl] | simp only [r_upd] | simp only [wS_rt] | simp only [wS_nx] | simp only [wE_ite])
theorem r_dropN {m : Env → RE Sl} : wS (sDropN m e) N R B C = wE (m e) fun _ e => N e := by unfold sDropN; repeat (first | rfl | (refine wE_ext fun _ _ => ?_) | (refine wL_ext fun _ _ => ?_) | (refine wV_ext fun _ _ => ?_) | (refine wO_ext fun _ _ => ?_) | (refine congrArg (And _) ?_) | simp only [wE_bind] | simp only [wS_bindS] | simp only [r_lft] | simp only [wE_if] | simp only [wS_ifb] | simp only [wL_map] | simp only [wE_ok] | simp only [r_var] | simp only [r_own] | simp only [pin_ite] | simp only [r_isl] | simp only [r_upd] | simp only [wS_rt] | simp only [wS_nx] | simp only [wE_ite])
theorem pin_ite {e1 : Env} : wS (if i ∈ pins then .no else .nx e1) N R B C = (i ∉ pins ∧ N e1) := by
  by_cases h : i ∈ pins
  · rw [if_pos h]; exact propext ⟨fun z => (show False from z).elim, fun z => z.1 h⟩
  · rw [if_neg h]; exact propext ⟨fun z => ⟨h, z⟩, fun z => z.2⟩
theorem r_asg : wS (sAsg pins i a e) N R B C = wE (a e) fun x e => i ∉ pins ∧ N (e.set i (.d x)) := by unfold sAsg; repeat (first | rfl | (refine wE_ext fun _ _ => ?_) | (refine wL_ext fun _ _ => ?_) | (refine wV_ext fun _ _ => ?_) | (refine wO_ext fun _ _ => ?_) | (refine congrArg (And _) ?_) | simp only [wE_bind] | simp only [wS_bindS] | simp only [r_lft] | simp only [wE_if] | simp only [wS_ifb] | simp only [wL_map] | simp only [wE_ok] | simp only [r_var] | simp only [r_own] | simp only [pin_ite] | simp only [r_isl] | simp only [r_upd] | simp only [wS_rt] | simp only [wS_nx] | simp only [wE_ite])
theorem r_asgN {m : Env → RE Sl} : wS (sAsgN pins i m e) N R B C = wE (m e) fun x e => i ∉ pins ∧ N (e.set i x) := by unfold sAsgN; repeat (first | rfl | (refine wE_ext fun _ _ => ?_) | (refine wL_ext fun _ _ => ?_) | (refine wV_ext fun _ _ => ?_) | (refine wO_ext fun _ _ => ?_) | (refine congrArg (And _) ?_) | simp only [wE_bind] | simp only [wS_bindS] | simp only [r_lft] | simp only [wE_if] | simp only [wS_ifb] | simp only [wL_map] | simp only [wE_ok] | simp only [r_var] | simp only [r_own] | simp only [pin_ite] | simp only [r_isl] | simp only [r_upd] | simp only [wS_rt] | simp only [wS_nx] | simp only [wE_ite])
theorem r_aug : wS (sAug pins i f a e) N R B C = wV e[i]? i e fun x e => wE (a e) fun y e => wL (f x y) e fun z e => i ∉ pins ∧ N (e.set i (.d z)) := by
  unfold sAug; repeat (first | rfl | (refine wE_ext fun _ _ => ?_) | (refine wL_ext fun _ _ => ?_) | (refine wV_ext fun _ _ => ?_) | (refine wO_ext fun _ _ => ?_) | (refine congrArg (And _) ?_) | simp only [wE_bind] | simp only [wS_bindS] | simp only [r_lft] | simp only [wE_if] | simp only [wS_ifb] | simp only [wL_map] | simp only [wE_ok] | simp only [r_var] | simp only [r_own] | simp only [pin_ite] | simp only [r_isl] | simp only [r_upd] | simp only [wS_rt] | simp only [wS_nx] | simp only [wE_ite])
def wT (o : Option Env) (N : Env → Prop) (_ : Bk N := .mk) : Prop := match o with | some e => N e | none => False
theorem wT_some {e : Env} {N : Env → Prop} : wT (some e) N = N e := rfl
theorem r_stup {tm : D → Env → Option Env} : wS (sTup tm a e) N R B C = wE (a e) fun x e => wT (tm x e) N := by
  unfold sTup
  rw [wS_bindS]
  refine wE_ext fun x e1 => ?_
  cases tm x e1 <;> rfl
def lOf : Option Sl → Option (List D)
  | some (.l xs) => some xs
  | _ => none
theorem r_isl {Q' : Unit → Env → Prop} : wE (isL i e) Q' = ((lOf e[i]?).isSome = true ∧ Q' () e) := by
  unfold isL
  cases h : e[i]? with
  | none => exact propext ⟨fun z => (show False from z).elim, fun z => nomatch z.1⟩
  | some s => cases s <;> first | exact propext ⟨fun z => (show False from z).elim, fun z => nomatch z.1⟩ | exact propext ⟨fun z => ⟨rfl, z⟩, fun z => z.2⟩
theorem r_upd {F : List D → Option (List D)} : wS (updL i F e) N R B C = wL (lOf e[i]?) e fun xs e => wL (F xs) e fun ys e => N (e.set i (.l ys)) := by
  unfold updL
  cases h : e[i]? with
  | none => rfl
  | some s =>
    cases s <;> first | rfl | skip
    rename_i xs
    cases hF : F xs with
    | none =>
      show wS (match F xs with | some ys => .nx (e.set i (.l ys)) | none => .no) N R B C = wL (F xs) e fun ys e => N (e.set i (.l ys))
      rw [hF]; rfl
    | some ys =>
      show wS (match F xs with | some ys => .nx (e.set i (.l ys)) | none => .no) N R B C = wL (F xs) e fun ys e => N (e.set i (.l ys))
      rw [hF]; rfl
theorem r_app : wS (sApp i a e) N R B C = ((lOf e[i]?).isSome = true ∧ wE (a e) fun x e => wL (lOf e[i]?) e fun xs e => wL (app1 x xs) e fun ys e => N (e.set i (.l ys))) := by
  unfold sApp; repeat (first | rfl | (refine wE_ext fun _ _ => ?_) | (refine wL_ext fun _ _ => ?_) | (refine wV_ext fun _ _ => ?_) | (refine wO_ext fun _ _ => ?_) | (refine congrArg (And _) ?_) | simp only [wE_bind] | simp only [wS_bindS] | simp only [r_lft] | simp only [wE_if] | simp only [wS_ifb] | simp only [wL_map] | simp only [wE_ok] | simp only [r_var] | simp only [r_own] | simp only [pin_ite] | simp only [r_isl] | simp only [r_upd] | simp only [wS_rt] | simp only [wS_nx] | simp only [wE_ite])
theorem r_ext : wS (sExt i a e) N R B C = ((lOf e[i]?).isSome = true ∧ wE (a e) fun x e => wL (lOf e[i]?) e fun xs e => wL (ext1 x xs) e fun ys e => N (e.set i (.l ys))) := by
  unfold sExt; repeat (first | rfl | (refine wE_ext fun _ _ => ?_) | (refine wL_ext fun _ _ => ?_) | (refine wV_ext fun _ _ => ?_) | (refine wO_ext fun _ _ => ?_) | (refine congrArg (And _) ?_) | simp only [wE_bind] | simp only [wS_bindS] | simp only [r_lft] | simp only [wE_if] | simp only [wS_ifb] | simp only [wL_map] | simp only [wE_ok] | simp only [r_var] | simp only [r_own] | simp only [pin_ite] | simp only [r_isl] | simp only [r_upd] | simp only [wS_rt] | simp only [wS_nx] | simp only [wE_ite])
theorem r_setix : wS (sSetIx i b a e) N R B C = wE (a e) fun v e => (lOf e[i]?).isSome = true ∧ wE (b e) fun k e => wL (lOf e[i]?) e fun xs e => wL (setAt k v xs) e fun ys e => N (e.set i (.l ys)) := by
  unfold sSetIx; repeat (first | rfl | (refine wE_ext fun _ _ => ?_) | (refine wL_ext fun _ _ => ?_) | (refine wV_ext fun _ _ => ?_) | (refine wO_ext fun _ _ => ?_) | (refine congrArg (And _) ?_) | simp only [wE_bind] | simp only [wS_bindS] | simp only [r_lft] | simp only [wE_if] | simp only [wS_ifb] | simp only [wL_map] | simp only [wE_ok] | simp only [r_var] | simp only [r_own] | simp only [pin_ite] | simp only [r_isl] | simp only [r_upd] | simp only [wS_rt] | simp only [wS_nx] | simp only [wE_ite])
theorem r_for {tm : D → Env → Option Env} {it : Env → RE (List D)} : wS (sFor tm it sa e) N R B C = wE (it e) fun xs e => wS (forL tm sa xs e) N R B C := by unfold sFor; repeat (first | rfl | (refine wE_ext fun _ _ => ?_) | (refine wL_ext fun _ _ => ?_) | (refine wV_ext fun _ _ => ?_) | (refine wO_ext fun _ _ => ?_) | (refine congrArg (And _) ?_) | simp only [wE_bind] | simp only [wS_bindS] | simp only [r_lft] | simp only [wE_if] | simp only [wS_ifb] | simp only [wL_map] | simp only [wE_ok] | simp only [r_var] | simp only [r_own] | simp only [pin_ite] | simp only [r_isl] | simp only [r_upd] | simp only [wS_rt] | simp only [wS_nx] | simp only [wE_ite])
theorem r_retOwn : wS (sRetOwn i e) N R B C = (okS e[i]? = true ∧ R ((e[i]?).getD .un) (e.set i .un)) := by
  unfold sRetOwn
  cases h : e[i]? with
  | none => exact propext ⟨fun z => (show False from z).elim, fun z => nomatch z.1⟩
  | some s => cases s <;> first | exact propext ⟨fun z => (show False from z).elim, fun z => nomatch z.1⟩ | exact propext ⟨fun z => ⟨rfl, z⟩, fun z => z.2⟩
end
end BV

/-! BV17: the leaves; the draws, the picks, same. -/
namespace BV
open PySem PySem.Spec PyProof.Rows L2
/-! ### leaves -/
section
variable {a b : Int} {x y : Str} {xs ys : List D} {d : D}
theorem l_addI : dAdd (.int a) (.int b) = some (.int (a + b)) := rfl
theorem l_addS : dAdd (.str x) (.str y) = if x.length + y.length ≤ 16777216 then some (.str (x ++ y)) else none := rfl
theorem l_addL : dAdd (.list xs) (.list ys) = if xs.length + ys.length ≤ 16777216 then some (.list (xs ++ ys)) else none := rfl
theorem l_addT : dAdd (.tuple xs) (.tuple ys) = if xs.length + ys.length ≤ 16777216 then some (.tuple (xs ++ ys)) else none := rfl
theorem l_sub : dSub (.int a) (.int b) = some (.int (a - b)) := rfl
theorem dec_ite {α : Type} {c : Prop} [Decidable c] {p q : α} : (if decide c = true then p else q) = if c then p else q := by by_cases h : c <;> simp [h]
theorem l_div : dDiv (.int a) (.int b) = if 0 < b ∧ b < 1073741824 then some (.int (a / b)) else none := dec_ite
theorem l_mod : dMod (.int a) (.int b) = if 0 < b then some (.int (a % b)) else none := dec_ite
theorem l_mulI : dMul (.int a) (.int b) = if (-(2 ^ 64) < a ∧ a < 2 ^ 64) ∨ (-(2 ^ 64) < b ∧ b < 2 ^ 64) then some (.int (a * b)) else none := dec_ite
theorem l_mulS : dMul (.str x) (.int b) = if -(2 ^ 63) ≤ b ∧ b < 2 ^ 63 ∧ x.length * b.toNat ≤ 16777216 then some (.str (repS x b)) else none := dec_ite
theorem l_mulL : dMul (.list xs) (.int b) = if -(2 ^ 63) ≤ b ∧ b < 2 ^ 63 ∧ xs.length * b.toNat ≤ 16777216 then some (.list (List.replicate b.toNat xs).flatten) else none := dec_ite
theorem l_eqI : dEqB (.int a) (.int b) = some (decide (a = b)) := by
  show (if SeqAt.shaped (.int a) && SeqAt.shaped (.int b) then some (PyData.eqv (.int a) (.int b)) else none) = _
  rw [if_pos (by rfl), PyData.eqv]
  rfl
theorem l_eqS : dEqB (.str x) (.str y) = some (decide (x = y)) := rfl
theorem l_neI : dNeB (.int a) (.int b) = some (!decide (a = b)) := by unfold dNeB; rw [l_eqI]; rfl
theorem l_neS : dNeB (.str x) (.str y) = some (!decide (x = y)) := rfl
theorem l_ltI : dLtB (.int a) (.int b) = some (decide (a < b)) := rfl
theorem l_leI : dLeB (.int a) (.int b) = some (decide (a ≤ b)) := rfl
theorem l_gtI : dGtB (.int a) (.int b) = some (decide (b < a)) := rfl
theorem l_geI : dGeB (.int a) (.int b) = some (decide (b ≤ a)) := rfl
theorem l_ltS : dLtB (.str x) (.str y) = some (sLt x y) := rfl
theorem l_leS : dLeB (.str x) (.str y) = some (!sLt y x) := rfl
theorem l_gtS : dGtB (.str x) (.str y) = some (sLt y x) := rfl
theorem l_geS : dGeB (.str x) (.str y) = some (!sLt x y) := rfl
theorem l_truI : dTru (.int a) = some (!decide (a = 0)) := by
  show some (a != 0) = _
  refine congrArg some ?_
  by_cases h : a = 0 <;> simp [h]
theorem l_truB {k : Bool} : dTru (.bool k) = some k := rfl
theorem l_truL : dTru (.list xs) = some (!xs.isEmpty) := rfl
theorem l_truT : dTru (.tuple xs) = some (!xs.isEmpty) := rfl
theorem l_truN : dTru .none = some false := rfl
theorem l_truS : dTru (.str x) = if x.length ≤ 16777216 then some (!decide (x.length = 0)) else none := by
  show (if x.length ≤ 16777216 then some ((x.length : Int) != 0) else none) = _
  by_cases h : x.length = 0
  · rw [h]; rfl
  · have : ((x.length : Int) != 0) = !decide (x.length = 0) := by
      rw [decide_eq_false h]
      exact bne_iff_ne.mpr fun z => h (by omega)
    rw [this]
theorem l_lenS : dLen (.str x) = if x.length ≤ 16777216 then some (.int x.length) else none := rfl
theorem l_lenL : dLen (.list xs) = some (.int xs.length) := rfl
theorem l_lenT : dLen (.tuple xs) = some (.int xs.length) := rfl
theorem l_intI : dIntOf (.int a) = some (.int a) := rfl
theorem l_absI : dAbs (.int a) = some (.int (if a < 0 then -a else a)) := rfl
theorem l_tupL : dTuple (.list xs) = some (.tuple xs) := rfl
theorem l_tupT : dTuple (.tuple xs) = some (.tuple xs) := rfl
theorem l_itL : itemsOf (.list xs) = some xs := rfl
theorem l_itT : itemsOf (.tuple xs) = some xs := rfl
theorem l_itS : itemsOf (.str x) = some (x.cps.toList.map fun c => .str ⟨#[c]⟩) := rfl
theorem l_rg1 : dRng1 [.int a] = if -(2 ^ 62) ≤ a ∧ a < 2 ^ 62 then some (rng 0 a) else none := dec_ite
theorem l_rg2 : dRng2 [.int a, .int b] = if -(2 ^ 62) ≤ a ∧ a < 2 ^ 62 ∧ -(2 ^ 62) ≤ b ∧ b < 2 ^ 62 then some (rng a b) else none := dec_ite
theorem l_ixL : dIx (.list xs) (.int a) = atI xs a := rfl
theorem l_ixT : dIx (.tuple xs) (.int a) = atI xs a := rfl
theorem l_ixS : dIx (.str x) (.int a) = if x.length ≤ 16777216 then (atI x.cps.toList a).map fun c => .str ⟨#[c]⟩ else none := rfl
theorem at_0 {α : Type} {p : α} {r : List α} : atI (p :: r) 0 = some p := by
  unfold atI ixN
  rw [if_pos (by decide), if_pos (by rw [List.length_cons]; omega)]
  rfl
theorem at_1 {α : Type} {p q : α} {r : List α} : atI (p :: q :: r) 1 = some q := by
  unfold atI ixN
  rw [if_pos (by decide), if_pos (by rw [List.length_cons, List.length_cons]; omega)]
  rfl
theorem at_2 {α : Type} {p q s : α} {r : List α} : atI (p :: q :: s :: r) 2 = some s := by
  unfold atI ixN
  rw [if_pos (by decide), if_pos (by simp only [List.length_cons]; omega)]
  rfl
theorem at_3 {α : Type} {p q s t : α} {r : List α} : atI (p :: q :: s :: t :: r) 3 = some t := by
  unfold atI ixN
  rw [if_pos (by decide), if_pos (by simp only [List.length_cons]; omega)]
  rfl
theorem at_nat {α : Type} {l : List α} {i : Int} {z : α} (h0 : 0 ≤ i) (h : l[i.toNat]? = some z) : atI l i = some z := by
  have hl := (List.getElem?_eq_some_iff.mp h).1
  unfold atI ixN
  rw [if_pos h0, if_pos (by omega)]
  exact h
theorem at_last {α : Type} {l : List α} {z : α} : atI (l ++ [z]) (-1) = some z := by
  unfold atI ixN
  rw [if_neg (by decide), if_pos (by rw [List.length_append, List.length_singleton]; omega)]
  have : (-1 + ((l ++ [z]).length : Nat) : Int).toNat = l.length := by rw [List.length_append, List.length_singleton]; omega
  show (l ++ [z])[(-1 + ((l ++ [z]).length : Nat) : Int).toNat]? = some z
  rw [this]
  simp
theorem set_0 {p : D} {v : D} {r : List D} : setAt (.int 0) v (p :: r) = some (v :: r) := by
  show (ixN (p :: r).length 0).map _ = _
  unfold ixN
  rw [if_pos (by decide), if_pos (by rw [List.length_cons]; omega)]
  rfl
theorem set_1 {p q v : D} {r : List D} : setAt (.int 1) v (p :: q :: r) = some (p :: v :: r) := by
  show (ixN (p :: q :: r).length 1).map _ = _
  unfold ixN
  rw [if_pos (by decide), if_pos (by simp only [List.length_cons]; omega)]
  rfl
theorem set_2 {p q s v : D} {r : List D} : setAt (.int 2) v (p :: q :: s :: r) = some (p :: q :: v :: r) := by
  show (ixN (p :: q :: s :: r).length 2).map _ = _
  unfold ixN
  rw [if_pos (by decide), if_pos (by simp only [List.length_cons]; omega)]
  rfl
theorem set_3 {p q s t v : D} {r : List D} : setAt (.int 3) v (p :: q :: s :: t :: r) = some (p :: q :: s :: v :: r) := by
  show (ixN (p :: q :: s :: t :: r).length 3).map _ = _
  unfold ixN
  rw [if_pos (by decide), if_pos (by simp only [List.length_cons]; omega)]
  rfl
end
/-! ### draws -/
theorem okS_d {x : D} : okS (some (.d x)) = true := rfl
theorem okS_l {x : List D} : okS (some (.l x)) = true := rfl
theorem abs_nn (i : Int) : 0 ≤ (if i < 0 then -i else i) := by split <;> omega
theorem tk_nil {e : Env} : takeA [] e = some ([], e) := rfl
theorem tk_v {x : D} {r : List AV} {e : Env} : takeA (.v x :: r) e = (takeA r e).map fun q => (.d x :: q.1, q.2) := rfl
theorem tk_s {j : Nat} {r : List AV} {e : Env} : takeA (.s j :: r) e = if okS e[j]? = true then (takeA r (e.set j .un)).map fun q => ((e[j]?).getD .un :: q.1, q.2) else none := by
  rw [takeA]
  cases h : e[j]? with
  | none => rfl
  | some s => cases s <;> rfl
def bDraw : Env → RS := (sSeq (sIf (tAndD (tCmpD dEqB (eBinO dIx 0 (eC (.int 1))) (eC (.int 0))) (tCmpD dGeB (eBinO dIx 0 (eC (.int 2))) (eCB (d1 dLen) (aOne (eBinO dIx 0 (eC (.int 0))))))) (sSeq (sSetIx 0 (eC (.int 3)) (eBin dMod (eCB (d1 dIntOf) (aOne (eBin dAdd (eBin dMul (eBinO dIx 0 (eC (.int 3))) (eC (.int 48271))) (eC (.int 69621))))) (eC (.int 2147483629))))
 (sRet (eBin dMod (eCB (d1 dIntOf) (aOne (eBin dDiv (eBinO dIx 0 (eC (.int 3))) (eC (.int 13))))) (eOwn 1)))) sNil)
 (sSeq (sIf (tCmpD dEqB (eBinO dIx 0 (eC (.int 1))) (eC (.int 0))) (sSeq (sSetIx 0 (eC (.int 1)) (eCB (d1 dAbs) (aOne (eBin dIx (eBinO dIx 0 (eC (.int 0))) (eBinO dIx 0 (eC (.int 2)))))))
 (sSetIx 0 (eC (.int 2)) (eBin dAdd (eBinO dIx 0 (eC (.int 2))) (eC (.int 1))))) sNil)
 (sSeq (sAsg [0] 2 (eBin dMod (eCB (d1 dIntOf) (aOne (eBinO dIx 0 (eC (.int 1))))) (eOwn 1)))
 (sSeq (sSetIx 0 (eC (.int 1)) (eBin dDiv (eBinO dIx 0 (eC (.int 1))) (eOwn 1)))
 (sRet (eVar 2))))))
def mDraw : List Sl → RF := runF 2 3 [0] bDraw
/-- the draws' state: k is a place of the script, or behind it -/
def Stt (s : Sl) : Prop := ∃ (ns : List Int) (c k z : Int), s = .l (stD ns c k z) ∧ 0 ≤ c ∧ 0 ≤ k ∧ ns.length ≤ 63
theorem draw_ok {s : Sl} {many : Int} (h : Stt s) (h1 : 0 < many) (h2 : many < 1073741824) {Q : Sl → List Sl → Prop} (k : ∀ v s', 0 ≤ v → v < many → Stt s' → Q (.d (.int v)) [s', .un]) : wF (mDraw [s, .d (.int many)]) Q := by
  obtain ⟨ns, c, p, z, rfl, hc, hp, hl⟩ := h
  refine wF_run rfl ?_
  simp only [bDraw, stD, r_lft, r_var, r_own, r_c, r_bin, r_binO, r_cmp, r_tcmp, r_tcmpO, r_tru, r_tand, r_tor, r_tnot, r_eif, r_nif, r_and, r_or, r_not, r_neg, r_cb, r_ncb, r_bm, r_bm0, r_tup, r_lst, r_anil, r_acons, r_aone, r_vnil, r_vcons, r_vslot, r_sl, r_onone, r_osome, r_chain, r_tchain, r_isi, r_iany, r_rg1, r_rg2, r_yes, r_frz, r_call, r_F, r_sif, r_snil, r_pass, r_break, r_cont, r_no, r_ret, r_retN, r_retNone, r_drop, r_dropN, r_asg, r_asgN, r_aug, r_stup, r_app, r_ext, r_setix, r_for, r_retOwn, wE_nComp, wE_ok, wS_nx, wS_rt, wS_bk, wS_ct, wS_seq, wV_d, wV_l, wO_d, wO_l, wL_some, wL_ite, wL_map, cB_true, cB_false, cB_not, wZ_d, wZ_l, wTk_some, wT_some, tk_nil, tk_v, tk_s, putA, mask, d1, d2, tyD, okS_d, okS_l, lOf, asI, Option.isSome_some, Option.getD_some, Option.map_some, List.getElem?_cons_zero, List.getElem?_cons_succ, List.set_cons_zero, List.set_cons_succ, List.replicate_succ, List.replicate_zero, List.cons_append, List.nil_append, List.not_mem_nil, List.mem_cons, or_false, not_false_eq_true, true_and, decide_true, if_true, if_false, reduceIte, Nat.reduceEqDiff, Nat.reduceAdd, Nat.reduceSub, Nat.reduceLeDiff, Nat.reduceLT, Int.reduceLT, Int.reduceLE, Int.reduceAdd, Int.reduceSub, Int.reduceEq, Int.reduceNeg, Nat.reduceMul, decide_false, Bool.not_true, Bool.not_false, and_true, true_or, or_true, Int.reduceMul, Int.reduceToNat, Nat.reducePow, Int.reducePow, Nat.not_lt_zero, l_addI, l_addS, l_addL, l_addT, l_sub, l_div, l_mod, l_mulI, l_mulS, l_mulL, l_eqI, l_eqS, l_neI, l_neS, l_ltI, l_leI, l_gtI, l_geI, l_ltS, l_leS, l_gtS, l_geS, l_truI, l_truB, l_truL, l_truT, l_truN, l_truS, l_lenS, l_lenL, l_lenT, l_intI, l_absI, l_tupL, l_tupT, l_itL, l_itT, l_itS, l_rg1, l_rg2, l_ixL, l_ixT, l_ixS, at_0, at_1, at_2, at_3, set_0, set_1, set_2, set_3]
  have fin : ∀ (c' p' : Int), 0 ≤ c' → 0 ≤ p' → (0 < many ∧ (0 < many ∧ many < 1073741824) ∧ Q (.d (.int (c' % many))) [.l [.list (ns.map .int), .int (c' / many), .int p', .int z], .un]) := fun c' p' hc' hp' =>
    ⟨h1, ⟨h1, h2⟩, k _ _ (Int.emod_nonneg _ (by omega)) (Int.emod_lt_of_pos _ h1) ⟨ns, _, p', z, rfl, Int.ediv_nonneg hc' (by omega), hp', hl⟩⟩
  refine cB_dec (fun c0 => ?_) fun c0 => ?_
  · simp only [r_lft, r_var, r_own, r_c, r_bin, r_binO, r_cmp, r_tcmp, r_tcmpO, r_tru, r_tand, r_tor, r_tnot, r_eif, r_nif, r_and, r_or, r_not, r_neg, r_cb, r_ncb, r_bm, r_bm0, r_tup, r_lst, r_anil, r_acons, r_aone, r_vnil, r_vcons, r_vslot, r_sl, r_onone, r_osome, r_chain, r_tchain, r_isi, r_iany, r_rg1, r_rg2, r_yes, r_frz, r_call, r_F, r_sif, r_snil, r_pass, r_break, r_cont, r_no, r_ret, r_retN, r_retNone, r_drop, r_dropN, r_asg, r_asgN, r_aug, r_stup, r_app, r_ext, r_setix, r_for, r_retOwn, wE_nComp, wE_ok, wS_nx, wS_rt, wS_bk, wS_ct, wS_seq, wV_d, wV_l, wO_d, wO_l, wL_some, wL_ite, wL_map, cB_true, cB_false, cB_not, wZ_d, wZ_l, wTk_some, wT_some, tk_nil, tk_v, tk_s, putA, mask, d1, d2, tyD, okS_d, okS_l, lOf, asI, Option.isSome_some, Option.getD_some, Option.map_some, List.getElem?_cons_zero, List.getElem?_cons_succ, List.set_cons_zero, List.set_cons_succ, List.replicate_succ, List.replicate_zero, List.cons_append, List.nil_append, List.not_mem_nil, List.mem_cons, or_false, not_false_eq_true, true_and, decide_true, if_true, if_false, reduceIte, Nat.reduceEqDiff, Nat.reduceAdd, Nat.reduceSub, Nat.reduceLeDiff, Nat.reduceLT, Int.reduceLT, Int.reduceLE, Int.reduceAdd, Int.reduceSub, Int.reduceEq, Int.reduceNeg, Nat.reduceMul, decide_false, Bool.not_true, Bool.not_false, and_true, true_or, or_true, Int.reduceMul, Int.reduceToNat, Nat.reducePow, Int.reducePow, Nat.not_lt_zero, l_addI, l_addS, l_addL, l_addT, l_sub, l_div, l_mod, l_mulI, l_mulS, l_mulL, l_eqI, l_eqS, l_neI, l_neS, l_ltI, l_leI, l_gtI, l_geI, l_ltS, l_leS, l_gtS, l_geS, l_truI, l_truB, l_truL, l_truT, l_truN, l_truS, l_lenS, l_lenL, l_lenT, l_intI, l_absI, l_tupL, l_tupT, l_itL, l_itT, l_itS, l_rg1, l_rg2, l_ixL, l_ixT, l_ixS, at_0, at_1, at_2, at_3, set_0, set_1, set_2, set_3]
    refine cB_dec (fun p0 => ?_) fun p0 => ?_
    · simp only [r_lft, r_var, r_own, r_c, r_bin, r_binO, r_cmp, r_tcmp, r_tcmpO, r_tru, r_tand, r_tor, r_tnot, r_eif, r_nif, r_and, r_or, r_not, r_neg, r_cb, r_ncb, r_bm, r_bm0, r_tup, r_lst, r_anil, r_acons, r_aone, r_vnil, r_vcons, r_vslot, r_sl, r_onone, r_osome, r_chain, r_tchain, r_isi, r_iany, r_rg1, r_rg2, r_yes, r_frz, r_call, r_F, r_sif, r_snil, r_pass, r_break, r_cont, r_no, r_ret, r_retN, r_retNone, r_drop, r_dropN, r_asg, r_asgN, r_aug, r_stup, r_app, r_ext, r_setix, r_for, r_retOwn, wE_nComp, wE_ok, wS_nx, wS_rt, wS_bk, wS_ct, wS_seq, wV_d, wV_l, wO_d, wO_l, wL_some, wL_ite, wL_map, cB_true, cB_false, cB_not, wZ_d, wZ_l, wTk_some, wT_some, tk_nil, tk_v, tk_s, putA, mask, d1, d2, tyD, okS_d, okS_l, lOf, asI, Option.isSome_some, Option.getD_some, Option.map_some, List.getElem?_cons_zero, List.getElem?_cons_succ, List.set_cons_zero, List.set_cons_succ, List.replicate_succ, List.replicate_zero, List.cons_append, List.nil_append, List.not_mem_nil, List.mem_cons, or_false, not_false_eq_true, true_and, decide_true, if_true, if_false, reduceIte, Nat.reduceEqDiff, Nat.reduceAdd, Nat.reduceSub, Nat.reduceLeDiff, Nat.reduceLT, Int.reduceLT, Int.reduceLE, Int.reduceAdd, Int.reduceSub, Int.reduceEq, Int.reduceNeg, Nat.reduceMul, decide_false, Bool.not_true, Bool.not_false, and_true, true_or, or_true, Int.reduceMul, Int.reduceToNat, Nat.reducePow, Int.reducePow, Nat.not_lt_zero, l_addI, l_addS, l_addL, l_addT, l_sub, l_div, l_mod, l_mulI, l_mulS, l_mulL, l_eqI, l_eqS, l_neI, l_neS, l_ltI, l_leI, l_gtI, l_geI, l_ltS, l_leS, l_gtS, l_geS, l_truI, l_truB, l_truL, l_truT, l_truN, l_truS, l_lenS, l_lenL, l_lenT, l_intI, l_absI, l_tupL, l_tupT, l_itL, l_itT, l_itS, l_rg1, l_rg2, l_ixL, l_ixT, l_ixS, at_0, at_1, at_2, at_3, set_0, set_1, set_2, set_3]
      exact ⟨h1, k _ _ (Int.emod_nonneg _ (by omega)) (Int.emod_lt_of_pos _ h1) ⟨ns, c, p, _, rfl, hc, hp, hl⟩⟩
    · simp only [r_lft, r_var, r_own, r_c, r_bin, r_binO, r_cmp, r_tcmp, r_tcmpO, r_tru, r_tand, r_tor, r_tnot, r_eif, r_nif, r_and, r_or, r_not, r_neg, r_cb, r_ncb, r_bm, r_bm0, r_tup, r_lst, r_anil, r_acons, r_aone, r_vnil, r_vcons, r_vslot, r_sl, r_onone, r_osome, r_chain, r_tchain, r_isi, r_iany, r_rg1, r_rg2, r_yes, r_frz, r_call, r_F, r_sif, r_snil, r_pass, r_break, r_cont, r_no, r_ret, r_retN, r_retNone, r_drop, r_dropN, r_asg, r_asgN, r_aug, r_stup, r_app, r_ext, r_setix, r_for, r_retOwn, wE_nComp, wE_ok, wS_nx, wS_rt, wS_bk, wS_ct, wS_seq, wV_d, wV_l, wO_d, wO_l, wL_some, wL_ite, wL_map, cB_true, cB_false, cB_not, wZ_d, wZ_l, wTk_some, wT_some, tk_nil, tk_v, tk_s, putA, mask, d1, d2, tyD, okS_d, okS_l, lOf, asI, Option.isSome_some, Option.getD_some, Option.map_some, List.getElem?_cons_zero, List.getElem?_cons_succ, List.set_cons_zero, List.set_cons_succ, List.replicate_succ, List.replicate_zero, List.cons_append, List.nil_append, List.not_mem_nil, List.mem_cons, or_false, not_false_eq_true, true_and, decide_true, if_true, if_false, reduceIte, Nat.reduceEqDiff, Nat.reduceAdd, Nat.reduceSub, Nat.reduceLeDiff, Nat.reduceLT, Int.reduceLT, Int.reduceLE, Int.reduceAdd, Int.reduceSub, Int.reduceEq, Int.reduceNeg, Nat.reduceMul, decide_false, Bool.not_true, Bool.not_false, and_true, true_or, or_true, Int.reduceMul, Int.reduceToNat, Nat.reducePow, Int.reducePow, Nat.not_lt_zero, l_addI, l_addS, l_addL, l_addT, l_sub, l_div, l_mod, l_mulI, l_mulS, l_mulL, l_eqI, l_eqS, l_neI, l_neS, l_ltI, l_leI, l_gtI, l_geI, l_ltS, l_leS, l_gtS, l_geS, l_truI, l_truB, l_truL, l_truT, l_truN, l_truS, l_lenS, l_lenL, l_lenT, l_intI, l_absI, l_tupL, l_tupT, l_itL, l_itT, l_itS, l_rg1, l_rg2, l_ixL, l_ixT, l_ixS, at_0, at_1, at_2, at_3, set_0, set_1, set_2, set_3]
      refine cB_dec (fun _ => ?_) fun z => absurd c0 z
      rw [List.length_map] at p0
      have hk : p.toNat < ns.length := by omega
      have e : atI (ns.map PyData.int) p = some (.int ns[p.toNat]) := at_nat hp (by rw [List.getElem?_map, List.getElem?_eq_getElem hk]; rfl)
      simp only [r_lft, r_var, r_own, r_c, r_bin, r_binO, r_cmp, r_tcmp, r_tcmpO, r_tru, r_tand, r_tor, r_tnot, r_eif, r_nif, r_and, r_or, r_not, r_neg, r_cb, r_ncb, r_bm, r_bm0, r_tup, r_lst, r_anil, r_acons, r_aone, r_vnil, r_vcons, r_vslot, r_sl, r_onone, r_osome, r_chain, r_tchain, r_isi, r_iany, r_rg1, r_rg2, r_yes, r_frz, r_call, r_F, r_sif, r_snil, r_pass, r_break, r_cont, r_no, r_ret, r_retN, r_retNone, r_drop, r_dropN, r_asg, r_asgN, r_aug, r_stup, r_app, r_ext, r_setix, r_for, r_retOwn, wE_nComp, wE_ok, wS_nx, wS_rt, wS_bk, wS_ct, wS_seq, wV_d, wV_l, wO_d, wO_l, wL_some, wL_ite, wL_map, cB_true, cB_false, cB_not, wZ_d, wZ_l, wTk_some, wT_some, tk_nil, tk_v, tk_s, putA, mask, d1, d2, tyD, okS_d, okS_l, lOf, asI, Option.isSome_some, Option.getD_some, Option.map_some, List.getElem?_cons_zero, List.getElem?_cons_succ, List.set_cons_zero, List.set_cons_succ, List.replicate_succ, List.replicate_zero, List.cons_append, List.nil_append, List.not_mem_nil, List.mem_cons, or_false, not_false_eq_true, true_and, decide_true, if_true, if_false, reduceIte, Nat.reduceEqDiff, Nat.reduceAdd, Nat.reduceSub, Nat.reduceLeDiff, Nat.reduceLT, Int.reduceLT, Int.reduceLE, Int.reduceAdd, Int.reduceSub, Int.reduceEq, Int.reduceNeg, Nat.reduceMul, decide_false, Bool.not_true, Bool.not_false, and_true, true_or, or_true, Int.reduceMul, Int.reduceToNat, Nat.reducePow, Int.reducePow, Nat.not_lt_zero, l_addI, l_addS, l_addL, l_addT, l_sub, l_div, l_mod, l_mulI, l_mulS, l_mulL, l_eqI, l_eqS, l_neI, l_neS, l_ltI, l_leI, l_gtI, l_geI, l_ltS, l_leS, l_gtS, l_geS, l_truI, l_truB, l_truL, l_truT, l_truN, l_truS, l_lenS, l_lenL, l_lenT, l_intI, l_absI, l_tupL, l_tupT, l_itL, l_itT, l_itS, l_rg1, l_rg2, l_ixL, l_ixT, l_ixS, at_0, at_1, at_2, at_3, set_0, set_1, set_2, set_3, e]
      exact fin _ _ (abs_nn _) (by omega)
  · simp only [r_lft, r_var, r_own, r_c, r_bin, r_binO, r_cmp, r_tcmp, r_tcmpO, r_tru, r_tand, r_tor, r_tnot, r_eif, r_nif, r_and, r_or, r_not, r_neg, r_cb, r_ncb, r_bm, r_bm0, r_tup, r_lst, r_anil, r_acons, r_aone, r_vnil, r_vcons, r_vslot, r_sl, r_onone, r_osome, r_chain, r_tchain, r_isi, r_iany, r_rg1, r_rg2, r_yes, r_frz, r_call, r_F, r_sif, r_snil, r_pass, r_break, r_cont, r_no, r_ret, r_retN, r_retNone, r_drop, r_dropN, r_asg, r_asgN, r_aug, r_stup, r_app, r_ext, r_setix, r_for, r_retOwn, wE_nComp, wE_ok, wS_nx, wS_rt, wS_bk, wS_ct, wS_seq, wV_d, wV_l, wO_d, wO_l, wL_some, wL_ite, wL_map, cB_true, cB_false, cB_not, wZ_d, wZ_l, wTk_some, wT_some, tk_nil, tk_v, tk_s, putA, mask, d1, d2, tyD, okS_d, okS_l, lOf, asI, Option.isSome_some, Option.getD_some, Option.map_some, List.getElem?_cons_zero, List.getElem?_cons_succ, List.set_cons_zero, List.set_cons_succ, List.replicate_succ, List.replicate_zero, List.cons_append, List.nil_append, List.not_mem_nil, List.mem_cons, or_false, not_false_eq_true, true_and, decide_true, if_true, if_false, reduceIte, Nat.reduceEqDiff, Nat.reduceAdd, Nat.reduceSub, Nat.reduceLeDiff, Nat.reduceLT, Int.reduceLT, Int.reduceLE, Int.reduceAdd, Int.reduceSub, Int.reduceEq, Int.reduceNeg, Nat.reduceMul, decide_false, Bool.not_true, Bool.not_false, and_true, true_or, or_true, Int.reduceMul, Int.reduceToNat, Nat.reducePow, Int.reducePow, Nat.not_lt_zero, l_addI, l_addS, l_addL, l_addT, l_sub, l_div, l_mod, l_mulI, l_mulS, l_mulL, l_eqI, l_eqS, l_neI, l_neS, l_ltI, l_leI, l_gtI, l_geI, l_ltS, l_leS, l_gtS, l_geS, l_truI, l_truB, l_truL, l_truT, l_truN, l_truS, l_lenS, l_lenL, l_lenT, l_intI, l_absI, l_tupL, l_tupT, l_itL, l_itT, l_itS, l_rg1, l_rg2, l_ixL, l_ixT, l_ixS, at_0, at_1, at_2, at_3, set_0, set_1, set_2, set_3]
    refine cB_dec (fun z => absurd z c0) fun _ => ?_
    simp only [r_lft, r_var, r_own, r_c, r_bin, r_binO, r_cmp, r_tcmp, r_tcmpO, r_tru, r_tand, r_tor, r_tnot, r_eif, r_nif, r_and, r_or, r_not, r_neg, r_cb, r_ncb, r_bm, r_bm0, r_tup, r_lst, r_anil, r_acons, r_aone, r_vnil, r_vcons, r_vslot, r_sl, r_onone, r_osome, r_chain, r_tchain, r_isi, r_iany, r_rg1, r_rg2, r_yes, r_frz, r_call, r_F, r_sif, r_snil, r_pass, r_break, r_cont, r_no, r_ret, r_retN, r_retNone, r_drop, r_dropN, r_asg, r_asgN, r_aug, r_stup, r_app, r_ext, r_setix, r_for, r_retOwn, wE_nComp, wE_ok, wS_nx, wS_rt, wS_bk, wS_ct, wS_seq, wV_d, wV_l, wO_d, wO_l, wL_some, wL_ite, wL_map, cB_true, cB_false, cB_not, wZ_d, wZ_l, wTk_some, wT_some, tk_nil, tk_v, tk_s, putA, mask, d1, d2, tyD, okS_d, okS_l, lOf, asI, Option.isSome_some, Option.getD_some, Option.map_some, List.getElem?_cons_zero, List.getElem?_cons_succ, List.set_cons_zero, List.set_cons_succ, List.replicate_succ, List.replicate_zero, List.cons_append, List.nil_append, List.not_mem_nil, List.mem_cons, or_false, not_false_eq_true, true_and, decide_true, if_true, if_false, reduceIte, Nat.reduceEqDiff, Nat.reduceAdd, Nat.reduceSub, Nat.reduceLeDiff, Nat.reduceLT, Int.reduceLT, Int.reduceLE, Int.reduceAdd, Int.reduceSub, Int.reduceEq, Int.reduceNeg, Nat.reduceMul, decide_false, Bool.not_true, Bool.not_false, and_true, true_or, or_true, Int.reduceMul, Int.reduceToNat, Nat.reducePow, Int.reducePow, Nat.not_lt_zero, l_addI, l_addS, l_addL, l_addT, l_sub, l_div, l_mod, l_mulI, l_mulS, l_mulL, l_eqI, l_eqS, l_neI, l_neS, l_ltI, l_leI, l_gtI, l_geI, l_ltS, l_leS, l_gtS, l_geS, l_truI, l_truB, l_truL, l_truT, l_truN, l_truS, l_lenS, l_lenL, l_lenT, l_intI, l_absI, l_tupL, l_tupT, l_itL, l_itT, l_itS, l_rg1, l_rg2, l_ixL, l_ixT, l_ixS, at_0, at_1, at_2, at_3, set_0, set_1, set_2, set_3]
    exact fin c p hc hp
/-! ### picks -/
def bPick : Env → RS := (sRet (eBin dIx (eVar 1) (fun env => frz ((eCall false mDraw (vSlot 0 (vCons (eCB (d1 dLen) (aOne (eOwn 1))) vNil))) env))))
def mPick : List Sl → RF := runF 2 2 [0] bPick
theorem okS_stt {s : Sl} (h : Stt s) : okS (some s) = true := by obtain ⟨_, _, _, _, rfl, _⟩ := h; rfl
theorem pick_ok {s : Sl} {xs : List D} (h : Stt s) (h1 : xs ≠ []) (h2 : xs.length < 1073741824) {Q : Sl → List Sl → Prop} (k : ∀ v s', v ∈ xs → Stt s' → Q (.d v) [s', .un]) : wF (mPick [s, .d (.list xs)]) Q := by
  refine wF_run rfl ?_
  simp only [bPick, r_lft, r_var, r_own, r_c, r_bin, r_binO, r_cmp, r_tcmp, r_tcmpO, r_tru, r_tand, r_tor, r_tnot, r_eif, r_nif, r_and, r_or, r_not, r_neg, r_cb, r_ncb, r_bm, r_bm0, r_tup, r_lst, r_anil, r_acons, r_aone, r_vnil, r_vcons, r_vslot, r_sl, r_onone, r_osome, r_chain, r_tchain, r_isi, r_iany, r_rg1, r_rg2, r_yes, r_frz, r_call, r_F, r_sif, r_snil, r_pass, r_break, r_cont, r_no, r_ret, r_retN, r_retNone, r_drop, r_dropN, r_asg, r_asgN, r_aug, r_stup, r_app, r_ext, r_setix, r_for, r_retOwn, wE_nComp, wE_ok, wS_nx, wS_rt, wS_bk, wS_ct, wS_seq, wV_d, wV_l, wO_d, wO_l, wL_some, wL_ite, wL_map, cB_true, cB_false, cB_not, wZ_d, wZ_l, wTk_some, wT_some, tk_nil, tk_v, tk_s, putA, mask, d1, d2, tyD, okS_d, okS_l, lOf, asI, Option.isSome_some, Option.getD_some, Option.map_some, List.getElem?_cons_zero, List.getElem?_cons_succ, List.set_cons_zero, List.set_cons_succ, List.replicate_succ, List.replicate_zero, List.cons_append, List.nil_append, List.not_mem_nil, List.mem_cons, or_false, not_false_eq_true, true_and, decide_true, if_true, if_false, reduceIte, Nat.reduceEqDiff, Nat.reduceAdd, Nat.reduceSub, Nat.reduceLeDiff, Nat.reduceLT, Int.reduceLT, Int.reduceLE, Int.reduceAdd, Int.reduceSub, Int.reduceEq, Int.reduceNeg, Nat.reduceMul, decide_false, Bool.not_true, Bool.not_false, and_true, true_or, or_true, Int.reduceMul, Int.reduceToNat, Nat.reducePow, Int.reducePow, Nat.not_lt_zero, l_addI, l_addS, l_addL, l_addT, l_sub, l_div, l_mod, l_mulI, l_mulS, l_mulL, l_eqI, l_eqS, l_neI, l_neS, l_ltI, l_leI, l_gtI, l_geI, l_ltS, l_leS, l_gtS, l_geS, l_truI, l_truB, l_truL, l_truT, l_truN, l_truS, l_lenS, l_lenL, l_lenT, l_intI, l_absI, l_tupL, l_tupT, l_itL, l_itT, l_itS, l_rg1, l_rg2, l_ixL, l_ixT, l_ixS, at_0, at_1, at_2, at_3, set_0, set_1, set_2, set_3, okS_stt h]
  have hp := List.length_pos_iff.mpr h1
  refine draw_ok (many := xs.length) h (by omega) (by omega) fun v s' v0 v1 hs => ?_
  simp only [r_lft, r_var, r_own, r_c, r_bin, r_binO, r_cmp, r_tcmp, r_tcmpO, r_tru, r_tand, r_tor, r_tnot, r_eif, r_nif, r_and, r_or, r_not, r_neg, r_cb, r_ncb, r_bm, r_bm0, r_tup, r_lst, r_anil, r_acons, r_aone, r_vnil, r_vcons, r_vslot, r_sl, r_onone, r_osome, r_chain, r_tchain, r_isi, r_iany, r_rg1, r_rg2, r_yes, r_frz, r_call, r_F, r_sif, r_snil, r_pass, r_break, r_cont, r_no, r_ret, r_retN, r_retNone, r_drop, r_dropN, r_asg, r_asgN, r_aug, r_stup, r_app, r_ext, r_setix, r_for, r_retOwn, wE_nComp, wE_ok, wS_nx, wS_rt, wS_bk, wS_ct, wS_seq, wV_d, wV_l, wO_d, wO_l, wL_some, wL_ite, wL_map, cB_true, cB_false, cB_not, wZ_d, wZ_l, wTk_some, wT_some, tk_nil, tk_v, tk_s, putA, mask, d1, d2, tyD, okS_d, okS_l, lOf, asI, Option.isSome_some, Option.getD_some, Option.map_some, List.getElem?_cons_zero, List.getElem?_cons_succ, List.set_cons_zero, List.set_cons_succ, List.replicate_succ, List.replicate_zero, List.cons_append, List.nil_append, List.not_mem_nil, List.mem_cons, or_false, not_false_eq_true, true_and, decide_true, if_true, if_false, reduceIte, Nat.reduceEqDiff, Nat.reduceAdd, Nat.reduceSub, Nat.reduceLeDiff, Nat.reduceLT, Int.reduceLT, Int.reduceLE, Int.reduceAdd, Int.reduceSub, Int.reduceEq, Int.reduceNeg, Nat.reduceMul, decide_false, Bool.not_true, Bool.not_false, and_true, true_or, or_true, Int.reduceMul, Int.reduceToNat, Nat.reducePow, Int.reducePow, Nat.not_lt_zero, l_addI, l_addS, l_addL, l_addT, l_sub, l_div, l_mod, l_mulI, l_mulS, l_mulL, l_eqI, l_eqS, l_neI, l_neS, l_ltI, l_leI, l_gtI, l_geI, l_ltS, l_leS, l_gtS, l_geS, l_truI, l_truB, l_truL, l_truT, l_truN, l_truS, l_lenS, l_lenL, l_lenT, l_intI, l_absI, l_tupL, l_tupT, l_itL, l_itT, l_itS, l_rg1, l_rg2, l_ixL, l_ixT, l_ixS, at_0, at_1, at_2, at_3, set_0, set_1, set_2, set_3]
  have hv : v.toNat < xs.length := by omega
  rw [at_nat v0 (List.getElem?_eq_getElem hv), wL_some]
  exact k _ s' (List.getElem_mem hv) hs
/-! ### same -/
mutual
def wt : D → Nat
  | .none => 4
  | .bool _ => 5
  | .int i => i.natAbs.log2 + 3
  | .str x => 10 * x.length + 2
  | .list xs => wtA xs + 3
  | .tuple xs => wtA xs + 3
  | .dict _ => 0
def wtA : List D → Nat
  | [] => 0
  | x :: xs => wt x + 2 + wtA xs
end
def fine (x : D) : Bool := x.canLay0 && x.showable && decide (x.depth ≤ 64)
theorem strOk_lt {x : Str} (h : PyData.strOk x = true) : ∀ c ∈ x.cps.toList, c < 16 ^ 8 := fun c hc => by
  unfold PyData.strOk at h
  rw [← Array.all_toList, List.all_eq_true] at h
  have := of_decide_eq_true (h c hc)
  omega
theorem join_len : ∀ ts : List Str, (Str.join ", " ts).length ≤ piled ts
  | [] => by rw [piled_nil]; exact Nat.le_of_eq rfl
  | t :: ts => by have := join_length_add (t :: ts) (by simp); omega
mutual
theorem shown_wt : ∀ (x : D), x.canLay0 = true → x.showable = true → x.shown.length ≤ wt x
  | .none, _, _ => by rw [PyData.shown, wt]; decide
  | .bool b, _, _ => by rw [PyData.shown, wt]; cases b <;> decide
  | .int i, _, h => by
    rw [PyData.showable] at h
    rw [PyData.shown, wt]
    have h2 := int_text_length_le (a := i) (k := i.natAbs.log2 + 1) (by omega) (by omega)
    rw [PySem.ofString_length]; omega
  | .str x, h, _ => by
    rw [PyData.canLay0] at h
    rw [PyData.shown, wt]
    exact PySem.StrLaws.reprText_len x (strOk_lt h)
  | .list xs, h1, h2 => by
    rw [PyData.canLay0] at h1
    rw [PyData.showable] at h2
    rw [PyData.shown, wt, listText_eq_join, strLen_append, strLen_append]
    have := join_len (PyData.shownAll xs)
    have := shownAll_wt xs h1 h2
    have e1 : ((("[" : String) : Str)).length = 1 := rfl
    have e2 : ((("]" : String) : Str)).length = 1 := rfl
    omega
  | .tuple xs, h1, h2 => by
    rw [PyData.canLay0] at h1
    rw [PyData.showable] at h2
    rw [PyData.shown, wt]
    unfold tupleText
    rw [strLen_append, strLen_append]
    have := join_len (PyData.shownAll xs)
    have := shownAll_wt xs h1 h2
    have e1 : ((("(" : String) : Str)).length = 1 := rfl
    have e2 : (((if (PyData.shownAll xs).length == 1 then ",)" else ")" : String) : Str)).length ≤ 2 := by split <;> decide
    omega
  | .dict _, h, _ => nomatch h
theorem shownAll_wt : ∀ (xs : List D), PyData.canLayAll0 xs = true → PyData.showableAll xs = true → piled (PyData.shownAll xs) ≤ wtA xs
  | [], _, _ => by rw [PyData.shownAll, piled_nil]; exact Nat.zero_le _
  | x :: xs, h1, h2 => by
    rw [PyData.canLayAll0, Bool.and_eq_true] at h1
    rw [PyData.showableAll, Bool.and_eq_true] at h2
    rw [PyData.shownAll, piled_cons, wtA]
    have := shown_wt x h1.1 h2.1
    have := shownAll_wt xs h1.2 h2.2
    omega
end
mutual
theorem noDict_of : ∀ (x : D), x.canLay0 = true → x.hasDict = false
  | .none, _ => rfl
  | .bool _, _ => rfl
  | .int _, _ => rfl
  | .str _, _ => rfl
  | .list xs, h => by rw [PyData.canLay0] at h; rw [PyData.hasDict]; exact noDictAll_of xs h
  | .tuple xs, h => by rw [PyData.canLay0] at h; rw [PyData.hasDict]; exact noDictAll_of xs h
  | .dict _, h => nomatch h
theorem noDictAll_of : ∀ (xs : List D), PyData.canLayAll0 xs = true → PyData.hasDictAll xs = false
  | [], _ => rfl
  | x :: xs, h => by
    rw [PyData.canLayAll0, Bool.and_eq_true] at h
    rw [PyData.hasDictAll, noDict_of x h.1, noDictAll_of xs h.2]
    rfl
end
def bSame : Env → RS := (sRet (eAnd (eCmp dEqB (eVar 0) (eOwn 1)) (eCmp dEqB (eCB (d1 dRepr) (aOne (eOwn 0))) (eCB (d1 dRepr) (aOne (eOwn 1))))))
def mSame : List Sl → RF := runF 2 2 [] bSame
theorem fine_eq {x : D} (h : fine x = true) : dEqB x x = some true := by
  simp only [fine, Bool.and_eq_true, decide_eq_true_eq] at h
  obtain ⟨⟨h1, h2⟩, h3⟩ := h
  have hs : SeqAt.shaped x = true := by unfold SeqAt.shaped; rw [h1, decide_eq_true h3]; rfl
  have hq := PySem.SeqAt.eqv_refl x h1
  have gen : (if SeqAt.shaped x && SeqAt.shaped x then some (PyData.eqv x x) else none) = some true := by rw [hs, hq]; rfl
  cases x with
  | str a => rw [l_eqS, decide_eq_true rfl]
  | _ => exact gen
theorem fine_repr {x : D} (h : fine x = true) (hw : wt x ≤ 16777216) : dRepr x = some (.str x.shown) := by
  simp only [fine, Bool.and_eq_true, decide_eq_true_eq] at h
  obtain ⟨⟨h1, h2⟩, h3⟩ := h
  unfold dRepr
  rw [h2, noDict_of x h1, decide_eq_true h3, decide_eq_true (Nat.le_trans (shown_wt x h1 h2) hw)]
  rfl
theorem same_ok {x : D} (h : fine x = true) (hw : wt x ≤ 16777216) : mSame [.d x, .d x] = .ok (.d (.bool true)) [.un, .un] := by
  have : wF (mSame [.d x, .d x]) fun s o => RF.ok s o = .ok (.d (.bool true)) [.un, .un] := by
    refine wF_run rfl ?_
    simp only [bSame, r_lft, r_var, r_own, r_c, r_bin, r_binO, r_cmp, r_tcmp, r_tcmpO, r_tru, r_tand, r_tor, r_tnot, r_eif, r_nif, r_and, r_or, r_not, r_neg, r_cb, r_ncb, r_bm, r_bm0, r_tup, r_lst, r_anil, r_acons, r_aone, r_vnil, r_vcons, r_vslot, r_sl, r_onone, r_osome, r_chain, r_tchain, r_isi, r_iany, r_rg1, r_rg2, r_yes, r_frz, r_call, r_F, r_sif, r_snil, r_pass, r_break, r_cont, r_no, r_ret, r_retN, r_retNone, r_drop, r_dropN, r_asg, r_asgN, r_aug, r_stup, r_app, r_ext, r_setix, r_for, r_retOwn, wE_nComp, wE_ok, wS_nx, wS_rt, wS_bk, wS_ct, wS_seq, wV_d, wV_l, wO_d, wO_l, wL_some, wL_ite, wL_map, cB_true, cB_false, cB_not, wZ_d, wZ_l, wTk_some, wT_some, tk_nil, tk_v, tk_s, putA, mask, d1, d2, tyD, okS_d, okS_l, lOf, asI, Option.isSome_some, Option.getD_some, Option.map_some, List.getElem?_cons_zero, List.getElem?_cons_succ, List.set_cons_zero, List.set_cons_succ, List.replicate_succ, List.replicate_zero, List.cons_append, List.nil_append, List.not_mem_nil, List.mem_cons, or_false, not_false_eq_true, true_and, decide_true, if_true, if_false, reduceIte, Nat.reduceEqDiff, Nat.reduceAdd, Nat.reduceSub, Nat.reduceLeDiff, Nat.reduceLT, Int.reduceLT, Int.reduceLE, Int.reduceAdd, Int.reduceSub, Int.reduceEq, Int.reduceNeg, Nat.reduceMul, decide_false, Bool.not_true, Bool.not_false, and_true, true_or, or_true, Int.reduceMul, Int.reduceToNat, Nat.reducePow, Int.reducePow, Nat.not_lt_zero, l_addI, l_addS, l_addL, l_addT, l_sub, l_div, l_mod, l_mulI, l_mulS, l_mulL, l_eqI, l_eqS, l_neI, l_neS, l_ltI, l_leI, l_gtI, l_geI, l_ltS, l_leS, l_gtS, l_geS, l_truI, l_truB, l_truL, l_truT, l_truN, l_truS, l_lenS, l_lenL, l_lenT, l_intI, l_absI, l_tupL, l_tupT, l_itL, l_itT, l_itS, l_rg1, l_rg2, l_ixL, l_ixT, l_ixS, at_0, at_1, at_2, at_3, set_0, set_1, set_2, set_3, fine_eq h, fine_repr h hw]
  cases e : mSame [.d x, .d x] with
  | ok s o => rw [e] at this; exact this
  | ex c y o => rw [e] at this; exact this.elim
  | no => rw [e] at this; exact this.elim
/-- an equation from what holds behind -/
theorem eqF {r : RF} {s : Sl} {o : List Sl} (h : wF r fun s' o' => s' = s ∧ o' = o) : r = .ok s o := by
  cases r with
  | ok s' o' => obtain ⟨rfl, rfl⟩ := (show s' = s ∧ o' = o from h); rfl
  | ex c y o => exact (show False from h).elim
  | no => exact (show False from h).elim
end BV

/-! BV18: texts as lists of signs. -/
namespace BV
open PySem PySem.Spec PyProof.Rows L2
abbrev S (l : List Nat) : Str := ⟨l.toArray⟩
theorem S_len (l : List Nat) : (S l).length = l.length := List.size_toArray
theorem S_app (a b : List Nat) : S a ++ S b = S (a ++ b) := congrArg Str.mk (by simp)
theorem S_tl (x : Str) : x = S x.cps.toList := by cases x; simp
theorem S_inj {a b : List Nat} : S a = S b ↔ a = b := ⟨fun h => by have := congrArg (fun x : Str => x.cps.toList) h; simpa using this, fun h => by rw [h]⟩
theorem sLt_one (a b : Nat) : sLt ⟨#[a]⟩ ⟨#[b]⟩ = decide (a < b) := by
  unfold sLt
  by_cases h : a < b
  · rw [decide_eq_true h]; exact decide_eq_true (List.Lex.rel h)
  · rw [decide_eq_false h]
    refine decide_eq_false fun z => ?_
    cases z with
    | rel z => exact h z
    | cons z => cases z
theorem all_true : ∀ {xs : List D}, (∀ x ∈ xs, x = .bool true) → dAll (.list xs) = some (.bool true) := fun {xs} h => by
  have : ∀ ys : List D, (∀ x ∈ ys, x = .bool true) → ∃ bs : List Bool, asBools ys = some bs ∧ bs.all id = true := fun ys => by
    induction ys with
    | nil => exact fun _ => ⟨[], rfl, rfl⟩
    | cons y r ih =>
      intro h
      obtain ⟨bs, e1, e2⟩ := ih fun x hx => h x (List.mem_cons_of_mem _ hx)
      rw [h y List.mem_cons_self]
      exact ⟨true :: bs, by rw [asBools, e1]; rfl, by simp [e2]⟩
  obtain ⟨bs, e1, e2⟩ := this xs h
  show (asBools xs).map _ = _
  rw [e1]
  show some (PyData.bool (bs.all id)) = _
  rw [e2]
/-- the place of c behind p and r -/
theorem find3_at {p r q : List Nat} {c : Nat} (h : c ∉ r) : Txt.find3 (S (p ++ (r ++ c :: q))) ⟨#[c]⟩ (p.length : Nat) = ((p.length + r.length : Nat) : Int) := by
  have hl : (S (p ++ (r ++ c :: q))).length = p.length + (r.length + (q.length + 1)) := by rw [S_len]; simp
  have hf : fromIndex (S (p ++ (r ++ c :: q))).length (p.length : Nat) = p.length := by
    rw [hl]; unfold fromIndex; (first | (simp; done) | (simp; omega))
  have get : ∀ v, (S (p ++ (r ++ c :: q))).cps.getD v 0 = (p ++ (r ++ c :: q)).getD v 0 := fun v => by simp [Array.getD_eq_getD_getElem?, List.getD_eq_getElem?_getD]
  have gc : (p ++ (r ++ c :: q)).getD (p.length + r.length) 0 = c := by
    rw [List.getD_eq_getElem?_getD, List.getElem?_append_right (by omega), List.getElem?_append_right (by omega)]
    simp
  rcases PySem.StrLaws.find3_spec (S (p ++ (r ++ c :: q))) c (p.length : Nat) with ⟨_, h2⟩ | ⟨k, h1, h2, h3, h4, h5⟩
  · exact absurd gc (by have := h2 (p.length + r.length) (by rw [hf]; omega) (by rw [hl]; omega); rwa [get] at this)
  · rw [hf] at h2 h5
    rw [h1]
    have lo : ¬ k < p.length + r.length := fun z => by
      rw [get, List.getD_eq_getElem?_getD, List.getElem?_append_right h2, List.getElem?_append_left (by omega)] at h4
      have hk : k - p.length < r.length := by omega
      rw [List.getElem?_eq_getElem hk] at h4
      exact h (h4 ▸ List.getElem_mem hk)
    have hi : ¬ p.length + r.length < k := fun z => by
      have := h5 (p.length + r.length) (by omega) z
      rw [get] at this
      exact this gc
    have : k = p.length + r.length := by omega
    rw [this]
theorem cut_at {p r q : List Nat} : cutS (S (p ++ (r ++ q))) (some (p.length : Nat)) (some ((p.length + r.length : Nat) : Int)) = S r := by
  unfold cutS
  rw [HT.sIx_nat, HT.sIx_nat, S_len]
  have e1 : min p.length (p ++ (r ++ q)).length = p.length := by simp
  have e2 : min (p.length + r.length) (p ++ (r ++ q)).length = p.length + r.length := by simp
  rw [e1, e2]
  refine congrArg Str.mk ?_
  have : (S (p ++ (r ++ q))).cps.toList = p ++ (r ++ q) := by simp
  rw [this, List.drop_left, show p.length + r.length - p.length = r.length by omega, List.take_left]
/-! ### more leaves -/
section
variable {x : Str} {a : Int} {xs : List D} {k : Bool} {c : Nat}
theorem l_isSS : isI "str" (.str x) = some true := rfl
theorem l_isST : isI "str" (.tuple xs) = some false := rfl
theorem l_isSL : isI "str" (.list xs) = some false := rfl
theorem l_isSI : isI "str" (.int a) = some false := rfl
theorem l_isTT : isI "tuple" (.tuple xs) = some true := rfl
theorem l_isTS : isI "tuple" (.str x) = some false := rfl
theorem l_isTL : isI "tuple" (.list xs) = some false := rfl
theorem l_isTI : isI "tuple" (.int a) = some false := rfl
theorem l_isII : isI "int" (.int a) = some true := rfl
theorem l_isBI : isI "bool" (.int a) = some false := rfl
theorem l_isLL : isI "list" (.list xs) = some true := rfl
theorem l_ord : dOrdC (.str ⟨#[c]⟩) = some (.int c) := rfl
theorem ch_sp : (Str.ofString " ") = ⟨#[32]⟩ := rfl
theorem ch_ti : (Str.ofString "~") = ⟨#[126]⟩ := rfl
theorem ch_nl : (Str.ofString "\n") = ⟨#[10]⟩ := rfl
theorem wE_compL_eq {vs : List Nat} {tm : D → Env → Option Env} {tt : Env → RE Bool} {te : Env → RE D} {ys acc acc' : List D} {e E : Env} {Q : List D → Env → Prop} (h : compL vs tm tt te ys acc e = .ok acc' E) (q : Q acc' E) : wE (compL vs tm tt te ys acc e) Q := by rw [h]; exact q
theorem tgD_n {pins : List Nat} {i : Nat} {y : D} {e : Env} : tgDo pins (.n i) y e = if i ∈ pins then none else some (e.set i (.d y)) := by rw [tgDo]
theorem tgD_t {pins : List Nat} {ts : List Tg} {e : Env} : tgDo pins (.t ts) (.tuple xs) e = tgAll pins ts xs e := by rw [tgDo]
theorem tgA_nil {pins : List Nat} {e : Env} : tgAll pins [] [] e = some e := by rw [tgAll]
theorem tgA_cons {pins : List Nat} {t : Tg} {ts : List Tg} {y : D} {e : Env} : tgAll pins (t :: ts) (y :: xs) e = (tgDo pins t y e).bind (tgAll pins ts xs) := by
  rw [tgAll]
  cases tgDo pins t y e <;> rfl
theorem wE_comp {vs : List Nat} {tm : D → Env → Option Env} {tt : Env → RE Bool} {te : Env → RE D} {ys : List D} {e : Env} {Q : List D → Env → Prop} (E : Env) (f : D → Option D) (hE : wipeE e vs = E) (hl : ys.length ≤ 16777216)
    (h : ∀ x ∈ ys, ∃ e1, tm x E = some e1 ∧ wE (tt e1) fun b e2 => if b then wE (te e2) fun y e3 => f x = some y ∧ wipeE e3 vs = E else f x = none ∧ wipeE e2 vs = E) (q : Q (ys.filterMap f) E) : wE (compL vs tm tt te ys [] e) Q :=
  wE_compL_eq (acc' := ys.filterMap f) (by rw [compL_pure f ys [] e (by simpa using hl) hE h]; rfl) q
/-- a comprehension over ys, laid out by g; c tells each one's result -/
theorem wE_compG {α : Type} {vs : List Nat} {tm : D → Env → Option Env} {tt : Env → RE Bool} {te : Env → RE D} {e : Env} {Q : List D → Env → Prop} (E : Env) (g : α → D) (c : α → Option D) (ys : List α) (hE : wipeE e vs = E) (hl : ys.length ≤ 16777216)
    (h : ∀ p ∈ ys, ∃ e1, tm (g p) E = some e1 ∧ wE (tt e1) fun b e2 => if b then wE (te e2) fun y e3 => c p = some y ∧ wipeE e3 vs = E else c p = none ∧ wipeE e2 vs = E) (q : Q (ys.filterMap c) E) : wE (compL vs tm tt te (ys.map g) [] e) Q := by
  refine wE_compL (fun xs acc e => ∃ dn rest, ys = dn ++ rest ∧ xs = rest.map g ∧ acc = dn.filterMap c ∧ wipeE e vs = E) ?_ ?_ ?_ _ _ _ ⟨[], ys, rfl, rfl, rfl, hE⟩
  · rintro x r acc e ⟨dn, rest, rfl, h1, rfl, h2⟩
    cases rest with
    | nil => cases h1
    | cons p rest =>
      cases h1
      obtain ⟨e1, h3, h4⟩ := h p (by simp)
      rw [h2]
      refine ⟨e1, h3, wE_mono h4 fun b e2 hb => ?_⟩
      cases b with
      | true => exact wE_mono (show wE (te e2) _ from hb) fun y e3 ⟨k1, k2⟩ => ⟨dn ++ [p], rest, by simp, rfl, by simp [k1], k2⟩
      | false => exact ⟨dn ++ [p], rest, by simp, rfl, by have := hb.1; simp [this], hb.2⟩
  · rintro x r acc e ⟨dn, rest, rfl, h1, rfl, h2⟩
    cases rest with
    | nil => cases h1
    | cons p rest =>
      have := List.length_filterMap_le c dn
      rw [List.length_append, List.length_cons] at hl
      omega
  · rintro acc e ⟨dn, rest, rfl, h1, rfl, h2⟩
    cases rest with
    | nil => rw [h2]; simpa using q
    | cons p rest => cases h1
theorem sum_le : ∀ (xs : List Nat) (b : Nat), (∀ x ∈ xs, x ≤ b) → xs.sum ≤ xs.length * b
  | [], _, _ => Nat.zero_le _
  | x :: xs, b, h => by
    have := sum_le xs b fun y hy => h y (List.mem_cons_of_mem _ hy)
    have := h x List.mem_cons_self
    rw [List.sum_cons, List.length_cons, Nat.succ_mul]
    omega
theorem fm_some {α β : Type} (f : α → β) : ∀ xs : List α, xs.filterMap (fun x => some (f x)) = xs.map f := fun xs => by simp
theorem l_sum {ns : List Int} : dSum (.list (ns.map .int)) = some (.int ns.sum) := by
  show (asInts (ns.map .int)).map _ = _
  rw [asInts_map]
  rfl
theorem set_last {l : List D} {z v : D} : setAt (.int (-1)) v (l ++ [z]) = some (l ++ [v]) := by
  show (ixN (l ++ [z]).length (-1)).map _ = _
  unfold ixN
  rw [if_neg (by decide), if_pos (by rw [List.length_append, List.length_singleton]; omega)]
  have : (-1 + ((l ++ [z]).length : Nat) : Int).toNat = l.length := by rw [List.length_append, List.length_singleton]; omega
  show some ((l ++ [z]).set (-1 + ((l ++ [z]).length : Nat) : Int).toNat v) = _
  rw [this]
  simp
theorem joinL_one : ∀ l : List Nat, TL.joinL [] (l.map fun c => [c]) = l
  | [] => rfl
  | [a] => rfl
  | a :: b :: r => by
    have ih := joinL_one (b :: r)
    simp only [List.map_cons] at ih ⊢
    rw [TL.joinL, ih]
    rfl
theorem join_ones {l : List Nat} (h : l.length ≤ 16777216) : dJoin (.str (S [])) [.list (l.map fun c => .str (S [c]))] = some (.str (S l)) := by
  show joinD (S []) (l.map fun c => .str (S [c])) = _
  unfold joinD
  have e1 : (l.map fun c => PyData.str (S [c])) = (l.map fun c => S [c]).map PyData.str := by rw [List.map_map]; rfl
  rw [e1, asStrs_map]
  show (if _ then _ else _) = _
  have e2 : ((l.map fun c => S [c]).map (·.length)).sum = l.length := by
    rw [List.map_map]
    have : ((fun x : Str => x.length) ∘ fun c => S [c]) = fun _ => 1 := rfl
    rw [this]
    induction l with
    | nil => rfl
    | cons a r ih => rw [List.map_cons, List.sum_cons, ih (by rw [List.length_cons] at h; omega) (by rw [List.map_map]; rfl), List.length_cons]; omega
  rw [if_pos (by rw [e2]; show l.length + _ * 0 ≤ _; omega)]
  have e3 : (l.map fun c => S [c]) = (l.map fun c => [c]).map SX.S := by rw [List.map_map]; rfl
  rw [e3, show (S [] : Str) = SX.S [] from rfl, SX.join_S, joinL_one]
/-! ### what same takes -/
def Fx (n d : Nat) (x : D) : Prop := x.canLay0 = true ∧ x.showable = true ∧ x.depth ≤ d ∧ wt x ≤ n
theorem Fx.str {l : List Nat} {k : Nat} (h : ∀ c ∈ l, c < 1114112) (hl : l.length ≤ k) : Fx (10 * k + 2) 0 (.str (S l)) := by
  refine ⟨?_, by rw [PyData.showable], by rw [PyData.depth]; exact Nat.le_refl _, ?_⟩
  · rw [PyData.canLay0]
    unfold PyData.strOk
    rw [← Array.all_toList, List.all_eq_true]
    exact fun c hc => decide_eq_true (h c (by simpa using hc))
  · rw [wt, S_len]; omega
theorem Fx.int {i : Int} (h0 : 0 ≤ i) (h : i < 2 ^ 64) : Fx 67 0 (.int i) := by
  have hb : i.natAbs.log2 < 65 := by
    by_cases z : i.natAbs = 0
    · rw [z]; decide
    · exact (Nat.log2_lt z).mpr (by omega)
  refine ⟨by rw [PyData.canLay0], ?_, by rw [PyData.depth]; exact Nat.le_refl _, by rw [wt]; omega⟩
  rw [PyData.showable]
  exact decide_eq_true (by omega)
theorem Fx.none : Fx 4 0 .none := ⟨rfl, rfl, Nat.le_refl _, Nat.le_refl _⟩
theorem Fx.bool {b : Bool} : Fx 5 0 (.bool b) := ⟨rfl, rfl, Nat.le_refl _, Nat.le_refl _⟩
theorem Fx.all {n d : Nat} : ∀ {xs : List D}, (∀ x ∈ xs, Fx n d x) → PyData.canLayAll0 xs = true ∧ PyData.showableAll xs = true ∧ PyData.depthAll xs ≤ d ∧ wtA xs ≤ xs.length * (n + 2)
  | [], _ => ⟨rfl, rfl, by rw [PyData.depthAll]; exact Nat.zero_le _, by rw [wtA]; exact Nat.zero_le _⟩
  | x :: xs, h => by
    obtain ⟨a1, a2, a3, a4⟩ := h x List.mem_cons_self
    obtain ⟨b1, b2, b3, b4⟩ := Fx.all fun y hy => h y (List.mem_cons_of_mem _ hy)
    refine ⟨by rw [PyData.canLayAll0, a1, b1]; rfl, by rw [PyData.showableAll, a2, b2]; rfl, by rw [PyData.depthAll]; omega, ?_⟩
    rw [wtA, List.length_cons, Nat.succ_mul]
    omega
theorem Fx.list {n d k : Nat} {xs : List D} (h : ∀ x ∈ xs, Fx n d x) (hl : xs.length ≤ k) : Fx (k * (n + 2) + 3) (d + 1) (.list xs) := by
  obtain ⟨b1, b2, b3, b4⟩ := Fx.all h
  have := Nat.mul_le_mul_right (n + 2) hl
  exact ⟨by rw [PyData.canLay0]; exact b1, by rw [PyData.showable]; exact b2, by rw [PyData.depth]; omega, by rw [wt]; omega⟩
theorem Fx.tup {n d k : Nat} {xs : List D} (h : ∀ x ∈ xs, Fx n d x) (hl : xs.length ≤ k) : Fx (k * (n + 2) + 3) (d + 1) (.tuple xs) := by
  obtain ⟨b1, b2, b3, b4⟩ := Fx.all h
  have := Nat.mul_le_mul_right (n + 2) hl
  exact ⟨by rw [PyData.canLay0]; exact b1, by rw [PyData.showable]; exact b2, by rw [PyData.depth]; omega, by rw [wt]; omega⟩
theorem Fx.mono {n n' d d' : Nat} {x : D} (h : Fx n d x) (hn : n ≤ n') (hd : d ≤ d') : Fx n' d' x := ⟨h.1, h.2.1, Nat.le_trans h.2.2.1 hd, Nat.le_trans h.2.2.2 hn⟩
theorem Fx.same {n d : Nat} {x : D} (h : Fx n d x) (hn : n ≤ 16777216) (hd : d ≤ 64) : mSame [.d x, .d x] = .ok (.d (.bool true)) [.un, .un] :=
  same_ok (by unfold fine; rw [h.1, h.2.1, decide_eq_true (Nat.le_trans h.2.2.1 hd)]; rfl) (Nat.le_trans h.2.2.2 hn)
theorem Fx.two {n d : Nat} {x y : D} (hx : Fx n d x) (hy : Fx n d y) : ∀ z ∈ [x, y], Fx n d z := fun z hz => by
  simp only [List.mem_cons, List.not_mem_nil, or_false] at hz
  rcases hz with rfl | rfl
  · exact hx
  · exact hy
theorem Fx.three {n d : Nat} {x y w : D} (hx : Fx n d x) (hy : Fx n d y) (hw : Fx n d w) : ∀ z ∈ [x, y, w], Fx n d z := fun z hz => by
  simp only [List.mem_cons, List.not_mem_nil, or_false] at hz
  rcases hz with rfl | rfl | rfl
  · exact hx
  · exact hy
  · exact hw
end
end BV

/-! law_k01_letters: mirrors and walk, printed by gen.py -/
namespace K01
open PySem PySem.Spec PyProof.Rows L2 BV
def top (i : Nat) : Stmt := PySem.Challenge.pw_oncehome_k01_letters.main.body.getD i (.Pass ⟨0, 0, 0, 0⟩)
abbrev s__law_start : Stmt := top 32
abbrev s__law_same : Stmt := top 35
abbrev s__law_draw : Stmt := top 33
abbrev s__law_pick : Stmt := top 34
abbrev s__law_letter : Stmt := top 36
abbrev s__law_text : Stmt := top 37
abbrev s__law_short : Stmt := top 40
abbrev s__law_great : Stmt := top 38
abbrev s__law_loose : Stmt := top 39
abbrev s_is_line : Stmt := top 14
abbrev s_body_of : Stmt := top 30
abbrev s_is_name : Stmt := top 13
abbrev s_head_of : Stmt := top 29
abbrev s_is_value : Stmt := top 15
abbrev s_read : Stmt := top 28
abbrev s_check_letter : Stmt := top 16
abbrev s_text_of : Stmt := top 26
abbrev s_write : Stmt := top 27
abbrev s_size_in : Stmt := top 24
abbrev s_size_of : Stmt := top 25
abbrev s_check_name : Stmt := top 17
abbrev s_without_heads : Stmt := top 23
abbrev s_with_head : Stmt := top 22
abbrev s_values_in : Stmt := top 18
abbrev s_values_of : Stmt := top 19
abbrev s_first_value : Stmt := top 21
abbrev s_value_of : Stmt := top 20
abbrev s_law : Stmt := top 41
section
/-! ### mirrors -/
/-- _law_same: 0 actual, 1 due -/
def b__law_same : BV.Env → RS := (sRet (eAnd (eCmp dEqB (eVar 0) (eOwn 1)) (eCmp dEqB (eCB (d1 dRepr) (aOne (eOwn 0))) (eCB (d1 dRepr) (aOne (eOwn 1))))))
def m__law_same : List Sl → RF := runF 2 2 [] b__law_same
/-- _law_draw: 0 state, 1 many, 2 value -/
def b__law_draw : BV.Env → RS := (sSeq (sIf (tAndD (tCmpD dEqB (eBinO dIx 0 (eC (.int 1))) (eC (.int 0))) (tCmpD dGeB (eBinO dIx 0 (eC (.int 2))) (eCB (d1 dLen) (aOne (eBinO dIx 0 (eC (.int 0))))))) (sSeq (sSetIx 0 (eC (.int 3)) (eBin dMod (eCB (d1 dIntOf) (aOne (eBin dAdd (eBin dMul (eBinO dIx 0 (eC (.int 3))) (eC (.int 48271))) (eC (.int 69621))))) (eC (.int 2147483629))))
 (sRet (eBin dMod (eCB (d1 dIntOf) (aOne (eBin dDiv (eBinO dIx 0 (eC (.int 3))) (eC (.int 13))))) (eOwn 1)))) sNil)
 (sSeq (sIf (tCmpD dEqB (eBinO dIx 0 (eC (.int 1))) (eC (.int 0))) (sSeq (sSetIx 0 (eC (.int 1)) (eCB (d1 dAbs) (aOne (eBin dIx (eBinO dIx 0 (eC (.int 0))) (eBinO dIx 0 (eC (.int 2)))))))
 (sSetIx 0 (eC (.int 2)) (eBin dAdd (eBinO dIx 0 (eC (.int 2))) (eC (.int 1))))) sNil)
 (sSeq (sAsg [0] 2 (eBin dMod (eCB (d1 dIntOf) (aOne (eBinO dIx 0 (eC (.int 1))))) (eOwn 1)))
 (sSeq (sSetIx 0 (eC (.int 1)) (eBin dDiv (eBinO dIx 0 (eC (.int 1))) (eOwn 1)))
 (sRet (eVar 2))))))
def m__law_draw : List Sl → RF := runF 2 3 [0] b__law_draw
/-- _law_pick: 0 state, 1 some -/
def b__law_pick : BV.Env → RS := (sRet (eBin dIx (eVar 1) (fun env => frz ((eCall false m__law_draw (vSlot 0 (vCons (eCB (d1 dLen) (aOne (eOwn 1))) vNil))) env))))
def m__law_pick : List Sl → RF := runF 2 2 [0] b__law_pick
/-- _law_letter: 0 state, 1 most, 2 names, 3 values, 4 heads, 5 k, 6 lines -/
def b__law_letter : BV.Env → RS := (sSeq (sTup (tgDo [0] (.t [(.n 2), (.n 3)])) (eTup (aCons (fun env => frz ((nLst (aCons (eC (.str "to")) (aCons (eC (.str "from")) (aCons (eC (.str "subject")) (aCons (eC (.str "a")) (aCons (eC (.str "x-y")) (aCons (eC (.str "abcdefghijklmnopqrst")) aNil))))))) env)) (aCons (fun env => frz ((nLst (aCons (eC (.str "")) (aCons (eC (.str "a")) (aCons (eC (.str "a b")) (aCons (eC (.str "x:y")) (aCons (eC (.str "~")) (aCons (eC (.str "A  b")) (aCons (eC (.str "b c d")) (aCons (eBin dMul (eC (.str "v")) (eC (.int 200))) aNil))))))))) env)) aNil))))
 (sSeq (sAsg [0] 4 (eCB (d1 dTuple) (aOne (fun env => frz ((nComp [5] (tgDo [0] (.n 5)) (iRg1 (aCons (fun env => frz ((eCall false m__law_draw (vSlot 0 (vCons (eBin dAdd (eVar 1) (eC (.int 1))) vNil))) env)) aNil)) ttYes (eTup (aCons (fun env => frz ((eCall false m__law_pick (vSlot 0 (vCons (eVar 2) vNil))) env)) (aCons (fun env => frz ((eCall false m__law_pick (vSlot 0 (vCons (eVar 3) vNil))) env)) aNil)))) env)))))
 (sSeq (sAsg [0] 6 (fun env => frz ((nLst (aCons (eC (.str "")) (aCons (eC (.str "a")) (aCons (eC (.str " b ")) (aCons (eC (.str "To: x")) (aCons (eC (.str ".")) (aCons (eC (.str "  ")) (aCons (eBin dMul (eC (.str "w")) (eC (.int 200))) (aCons (eC (.str "From me")) aNil))))))))) env)))
 (sRet (eTup (aCons (eVar 4) (aCons (eCB (d1 dTuple) (aOne (fun env => frz ((nComp [5] (tgDo [0] (.n 5)) (iRg1 (aCons (fun env => frz ((eCall false m__law_draw (vSlot 0 (vCons (eBin dAdd (eVar 1) (eC (.int 1))) vNil))) env)) aNil)) ttYes (fun env => frz ((eCall false m__law_pick (vSlot 0 (vCons (eVar 6) vNil))) env))) env)))) aNil)))))))
def m__law_letter : List Sl → RF := runF 2 7 [0] b__law_letter
/-- _law_text: 0 letter, 1 rows, 2 name, 3 value -/
def b__law_text : BV.Env → RS := (sSeq (sAsg [] 1 (eBin dAdd (eBin dAdd (fun env => frz ((nComp [2, 3] (tgDo [] (.t [(.n 2), (.n 3)])) (iAny (eBin dIx (eVar 0) (eC (.int 0)))) ttYes (eBin dAdd (eBin dAdd (eVar 2) (eC (.str ": "))) (eOwn 3))) env)) (fun env => frz ((nLst (aCons (eC (.str "")) aNil)) env))) (fun env => frz ((nCB nList (aOne (eBin dIx (eVar 0) (eC (.int 1))))) env))))
 (sRet (eBin dAdd (eBM "str" dJoin (eC (.str "\n")) (aOne (eOwn 1))) (eC (.str "\n")))))
def m__law_text : List Sl → RF := runF 1 4 [] b__law_text
/-- _law_short: 0 letter, 1 name, 2 value -/
def b__law_short : BV.Env → RS := (sRet (eTup (aCons (eCB (d1 dTuple) (aOne (fun env => frz ((nComp [1, 2] (tgDo [] (.t [(.n 1), (.n 2)])) (iAny (eBin dIx (eVar 0) (eC (.int 0)))) (tCmpD dLtB (eBin dAdd (eCB (d1 dLen) (aOne (eOwn 1))) (eCB (d1 dLen) (aOne (eOwn 2)))) (eC (.int 190))) (eTup (aCons (eVar 1) (aCons (eVar 2) aNil)))) env)))) (aCons (eBin dIx (eVar 0) (eC (.int 1))) aNil))))
def m__law_short : List Sl → RF := runF 1 3 [] b__law_short
/-- _law_great: 0 state, 1 name, 2 found, 3 sign -/
def b__law_great : BV.Env → RS := (sSeq (sAsg [0] 2 (eC (.str "")))
 (sSeq (sFor (tgDo [0] (.n 3)) (iAny (eVar 1))
 (sAsg [0] 2 (eBin dAdd (eVar 2) (eIf (tCmpD dEqB (fun env => frz ((eCall false m__law_draw (vSlot 0 (vCons (eC (.int 3)) vNil))) env)) (eC (.int 0))) (eBM0 "str" dUpper (eVar 3)) (eVar 3)))))
 (sRet (eVar 2))))
def m__law_great : List Sl → RF := runF 2 4 [0] b__law_great
/-- _law_loose: 0 state, 1 letter, 2 rows, 3 name, 4 value, 5 head, 6 at -/
def b__law_loose : BV.Env → RS := (sSeq (sAsgN [0] 2 (nLst aNil))
 (sSeq (sFor (tgDo [0] (.t [(.n 3), (.n 4)])) (iAny (eBin dIx (eVar 1) (eC (.int 0))))
 (sSeq (sAsg [0] 5 (eBin dAdd (fun env => frz ((eCall false m__law_great (vSlot 0 (vCons (eVar 3) vNil))) env)) (eC (.str ":"))))
 (sSeq (sAsg [0] 6 (eBM "str" dFind (eVar 4) (aOne (eC (.str " ")))))
 (sIf (tAndD (tCmpD dGtB (eVar 6) (eC (.int 0))) (tAndD (tCmpD dNeB (eBin dIx (eVar 4) (eBin dAdd (eVar 6) (eC (.int 1)))) (eC (.str " "))) (tCmpD dEqB (fun env => frz ((eCall false m__law_draw (vSlot 0 (vCons (eC (.int 2)) vNil))) env)) (eC (.int 0))))) (sSeq (sApp 2 (eBin dAdd (eBin dAdd (eBin dAdd (eVar 5) (eBin dMul (eC (.str " ")) (fun env => frz ((eCall false m__law_draw (vSlot 0 (vCons (eC (.int 3)) vNil))) env)))) (eSl (eVar 4) oNone (oSome (eVar 6)))) (eBin dMul (eC (.str " ")) (fun env => frz ((eCall false m__law_draw (vSlot 0 (vCons (eC (.int 2)) vNil))) env)))))
 (sApp 2 (eBin dAdd (eBin dAdd (eBin dMul (eC (.str " ")) (eBin dAdd (eC (.int 1)) (fun env => frz ((eCall false m__law_draw (vSlot 0 (vCons (eC (.int 2)) vNil))) env)))) (eSl (eVar 4) (oSome (eBin dAdd (eVar 6) (eC (.int 1)))) oNone)) (eBin dMul (eC (.str " ")) (fun env => frz ((eCall false m__law_draw (vSlot 0 (vCons (eC (.int 2)) vNil))) env)))))) (sApp 2 (eBin dAdd (eBin dAdd (eBin dAdd (eVar 5) (eBin dMul (eC (.str " ")) (fun env => frz ((eCall false m__law_draw (vSlot 0 (vCons (eC (.int 3)) vNil))) env)))) (eOwn 4)) (eBin dMul (eC (.str " ")) (fun env => frz ((eCall false m__law_draw (vSlot 0 (vCons (eC (.int 2)) vNil))) env)))))))))
 (sRet (eBin dAdd (eBM "str" dJoin (eC (.str "\n")) (aOne (eBin dAdd (eBinO dAdd 2 (fun env => frz ((nLst (aCons (eC (.str "")) aNil)) env))) (fun env => frz ((nCB nList (aOne (eBin dIx (eVar 1) (eC (.int 1))))) env))))) (eC (.str "\n"))))))
def m__law_loose : List Sl → RF := runF 2 7 [0] b__law_loose
/-- is_line: 0 value, 1 sign -/
def b_is_line : BV.Env → RS := (sSeq (sIf (tOrD (tNotD (tTru (eIsI "str" (eOwn 0)))) (tCmpD dGtB (eCB (d1 dLen) (aOne (eOwn 0))) (eC (.int 200)))) (sRet (eC (.bool false))) sNil)
 (sRet (eCB (d1 dAll) (aOne (fun env => frz ((nComp [1] (tgDo [] (.n 1)) (iAny (eVar 0)) ttYes (eAnd (eChain dLeB dLeB (eC (.str " ")) (eVar 1) (eC (.str "~"))) (eCmp dNeB (eCB (d1 dOrdC) (aOne (eOwn 1))) (eC (.int 37))))) env))))))
def m_is_line : List Sl → RF := runF 1 2 [] b_is_line
/-- body_of: 0 text, 1 at, 2 rows, 3 end -/
def b_body_of : BV.Env → RS := (sSeq (sAsgN [] 2 (nLst aNil))
 (sSeq (sWhile 100000 (tCmpD dLtB (eVar 1) (eCB (d1 dLen) (aOne (eOwn 0))))
 (sSeq (sAsg [] 3 (eBM "str" dFind3 (eVar 0) (aCons (eC (.str "\n")) (aCons (eVar 1) aNil))))
 (sSeq (sIf (tCmpD dLtB (eVar 3) (eC (.int 0))) sNo sNil)
 (sSeq (sIf (tOrD (tNotD (tTru (fun env => frz ((eCall false m_is_line (vCons (eSl (eVar 0) (oSome (eVar 1)) (oSome (eVar 3))) vNil)) env)))) (tCmpD dEqB (eCB (d1 dLen) (aOne (eOwn 2))) (eC (.int 200)))) sNo sNil)
 (sSeq (sApp 2 (eSl (eVar 0) (oSome (eVar 1)) (oSome (eVar 3))))
 (sAsg [] 1 (eBin dAdd (eVar 3) (eC (.int 1)))))))))
 (sRet (eCB (d1 dTuple) (aOne (eOwn 2))))))
def m_body_of : List Sl → RF := runF 2 4 [] b_body_of
/-- is_name: 0 value, 1 sign -/
def b_is_name : BV.Env → RS := (sSeq (sIf (tOrD (tNotD (tTru (eIsI "str" (eOwn 0)))) (tOrD (tNotD (tChainD dLeB dLeB (eC (.int 1)) (eCB (d1 dLen) (aOne (eOwn 0))) (eC (.int 20)))) (tCmpD dNinB (eBin dIx (eVar 0) (eC (.int 0))) (eC (.str "abcdefghijklmnopqrstuvwxyz"))))) (sRet (eC (.bool false))) sNil)
 (sRet (eCB (d1 dAll) (aOne (fun env => frz ((nComp [1] (tgDo [] (.n 1)) (iAny (eVar 0)) ttYes (eOr (eCmp dInB (eVar 1) (eC (.str "abcdefghijklmnopqrstuvwxyz"))) (eCmp dEqB (eVar 1) (eC (.str "-"))))) env))))))
def m_is_name : List Sl → RF := runF 1 2 [] b_is_name
/-- head_of: 0 line, 1 at, 2 name, 3 colon, 4 value, 5 sign -/
def b_head_of : BV.Env → RS := (sSeq (sTup (tgDo [] (.t [(.n 2), (.n 3), (.n 4)])) (eBM "str" dPartition (eVar 0) (aOne (eC (.str ":")))))
 (sSeq (sAsg [] 2 (eBM "str" dJoin (eC (.str "")) (aOne (fun env => frz ((nComp [5] (tgDo [] (.n 5)) (iAny (eVar 2)) ttYes (eIf (tCmpD dInB (eVar 5) (eC (.str "ABCDEFGHIJKLMNOPQRSTUVWXYZ"))) (eBin dIx (eC (.str "abcdefghijklmnopqrstuvwxyz")) (eBM "str" dSIndex (eC (.str "ABCDEFGHIJKLMNOPQRSTUVWXYZ")) (aOne (eOwn 5)))) (eVar 5))) env)))))
 (sSeq (sIf (tOrD (tCmpD dEqB (eVar 3) (eC (.str ""))) (tNotD (tTru (fun env => frz ((eCall false m_is_name (vCons (eVar 2) vNil)) env))))) sNo sNil)
 (sRet (eTup (aCons (eVar 2) (aCons (eBM "str" dStripC (eVar 4) (aOne (eC (.str " ")))) aNil)))))))
def m_head_of : List Sl → RF := runF 2 6 [] b_head_of
/-- is_value: 0 value -/
def b_is_value : BV.Env → RS := (sRet (eAnd (fun env => frz ((eCall false m_is_line (vCons (eVar 0) vNil)) env)) (eCmp dEqB (eVar 0) (eBM "str" dStripC (eVar 0) (aOne (eC (.str " ")))))))
def m_is_value : List Sl → RF := runF 1 1 [] b_is_value
/-- read: 0 text, 1 heads, 2 at, 3 end, 4 line -/
def b_read : BV.Env → RS := (sSeq (sIf (tOrD (tNotD (tTru (eIsI "str" (eOwn 0)))) (tCmpD dGtB (eCB (d1 dLen) (aOne (eOwn 0))) (eC (.int 20000)))) sNo sNil)
 (sSeq (sAsgN [] 1 (nLst aNil))
 (sSeq (sAsg [] 2 (eC (.int 0)))
 (sSeq (sWhile 100000 (tTru (eC (.bool true)))
 (sSeq (sAsg [] 3 (eBM "str" dFind3 (eVar 0) (aCons (eC (.str "\n")) (aCons (eVar 2) aNil))))
 (sSeq (sIf (tCmpD dLtB (eVar 3) (eC (.int 0))) sNo sNil)
 (sSeq (sAsg [] 4 (eSl (eVar 0) (oSome (eVar 2)) (oSome (eVar 3))))
 (sSeq (sIf (tCmpD dEqB (eVar 4) (eC (.str ""))) sBreak sNil)
 (sSeq (sIf (tNotD (tTru (fun env => frz ((eCall false m_is_line (vCons (eVar 4) vNil)) env)))) sNo sNil)
 (sSeq (sIf (tCmpD dEqB (eBin dIx (eVar 4) (eC (.int 0))) (eC (.str " "))) (sSeq (sIf (tOrD (tNotD (tTru (eOwn 1))) (tCmpD dEqB (eBM "str" dStripC (eVar 4) (aOne (eC (.str " ")))) (eC (.str "")))) sNo sNil)
 (sSetIx 1 (eNeg (eC (.int 1))) (eTup (aCons (eBin dIx (eBinO dIx 1 (eNeg (eC (.int 1)))) (eC (.int 0))) (aCons (eBM "str" dStripC (eBin dAdd (eBin dAdd (eBin dIx (eBinO dIx 1 (eNeg (eC (.int 1)))) (eC (.int 1))) (eC (.str " "))) (eBM "str" dStripC (eVar 4) (aOne (eC (.str " "))))) (aOne (eC (.str " ")))) aNil))))) (sApp 1 (fun env => frz ((eCall false m_head_of (vCons (eVar 4) (vCons (eVar 2) vNil))) env))))
 (sSeq (sIf (tOrD (tNotD (tTru (fun env => frz ((eCall false m_is_value (vCons (eBin dIx (eBinO dIx 1 (eNeg (eC (.int 1)))) (eC (.int 1))) vNil)) env)))) (tCmpD dGtB (eCB (d1 dLen) (aOne (eOwn 1))) (eC (.int 40)))) sNo sNil)
 (sAsg [] 2 (eBin dAdd (eVar 3) (eC (.int 1))))))))))))
 (sRet (eTup (aCons (eCB (d1 dTuple) (aOne (eOwn 1))) (aCons (fun env => frz ((eCall false m_body_of (vCons (eVar 0) (vCons (eBin dAdd (eVar 3) (eC (.int 1))) vNil))) env)) aNil))))))))
def m_read : List Sl → RF := runF 1 5 [] b_read
/-- check_letter: 0 letter, 1 part, 2 heads, 3 body, 4 head, 5 line -/
def b_check_letter : BV.Env → RS := (sSeq (sIf (tOrD (tNotD (tTru (eIsI "tuple" (eOwn 0)))) (tOrD (tCmpD dNeB (eCB (d1 dLen) (aOne (eOwn 0))) (eC (.int 2))) (tNotD (tTru (eCB (d1 dAll) (aOne (fun env => frz ((nComp [1] (tgDo [] (.n 1)) (iAny (eVar 0)) ttYes (eIsI "tuple" (eOwn 1))) env)))))))) sNo sNil)
 (sSeq (sTup (tgDo [] (.t [(.n 2), (.n 3)])) (eVar 0))
 (sSeq (sIf (tCmpD dGtB (eCB (d1 dLen) (aOne (eOwn 2))) (eC (.int 40))) sNo sNil)
 (sSeq (sFor (tgDo [] (.n 4)) (iAny (eVar 2))
 (sIf (tOrD (tNotD (tTru (eIsI "tuple" (eOwn 4)))) (tOrD (tCmpD dNeB (eCB (d1 dLen) (aOne (eOwn 4))) (eC (.int 2))) (tOrD (tNotD (tTru (fun env => frz ((eCall false m_is_name (vCons (eBin dIx (eVar 4) (eC (.int 0))) vNil)) env)))) (tNotD (tTru (fun env => frz ((eCall false m_is_value (vCons (eBin dIx (eVar 4) (eC (.int 1))) vNil)) env))))))) sNo sNil))
 (sSeq (sIf (tCmpD dGtB (eCB (d1 dLen) (aOne (eOwn 3))) (eC (.int 200))) sNo sNil)
 (sIf (tNotD (tTru (eCB (d1 dAll) (aOne (fun env => frz ((nComp [5] (tgDo [] (.n 5)) (iAny (eVar 3)) ttYes (fun env => frz ((eCall false m_is_line (vCons (eVar 5) vNil)) env))) env)))))) sNo sNil))))))
def m_check_letter : List Sl → RF := runF 1 6 [] b_check_letter
/-- text_of: 0 letter, 1 rows, 2 name, 3 value -/
def b_text_of : BV.Env → RS := (sSeq (sAsg [] 1 (eBin dAdd (eBin dAdd (fun env => frz ((nComp [2, 3] (tgDo [] (.t [(.n 2), (.n 3)])) (iAny (eBin dIx (eVar 0) (eC (.int 0)))) ttYes (eBin dAdd (eBin dAdd (eVar 2) (eC (.str ": "))) (eOwn 3))) env)) (fun env => frz ((nLst (aCons (eC (.str "")) aNil)) env))) (fun env => frz ((nCB nList (aOne (eBin dIx (eVar 0) (eC (.int 1))))) env))))
 (sRet (eBin dAdd (eBM "str" dJoin (eC (.str "\n")) (aOne (eOwn 1))) (eC (.str "\n")))))
def m_text_of : List Sl → RF := runF 1 4 [] b_text_of
/-- write: 0 letter -/
def b_write : BV.Env → RS := (sSeq (sDropN (eCall false m_check_letter (vCons (eVar 0) vNil)))
 (sRetN (eCall false m_text_of (vCons (eVar 0) vNil))))
def m_write : List Sl → RF := runF 1 1 [] b_write
/-- size_in: 0 letter, 1 total, 2 name, 3 value, 4 line -/
def b_size_in : BV.Env → RS := (sSeq (sAsg [] 1 (eCB (d1 dSum) (aOne (fun env => frz ((nComp [2, 3] (tgDo [] (.t [(.n 2), (.n 3)])) (iAny (eBin dIx (eVar 0) (eC (.int 0)))) ttYes (eBin dAdd (eBin dAdd (eCB (d1 dLen) (aOne (eOwn 2))) (eCB (d1 dLen) (aOne (eOwn 3)))) (eC (.int 3)))) env)))))
 (sRet (eBin dAdd (eBin dAdd (eVar 1) (eCB (d1 dSum) (aOne (fun env => frz ((nComp [4] (tgDo [] (.n 4)) (iAny (eBin dIx (eVar 0) (eC (.int 1)))) ttYes (eBin dAdd (eCB (d1 dLen) (aOne (eOwn 4))) (eC (.int 1)))) env))))) (eC (.int 1)))))
def m_size_in : List Sl → RF := runF 1 5 [] b_size_in
/-- size_of: 0 letter -/
def b_size_of : BV.Env → RS := (sSeq (sDropN (eCall false m_check_letter (vCons (eVar 0) vNil)))
 (sRetN (eCall false m_size_in (vCons (eVar 0) vNil))))
def m_size_of : List Sl → RF := runF 1 1 [] b_size_of
/-- check_name: 0 name -/
def b_check_name : BV.Env → RS := (sIf (tNotD (tTru (fun env => frz ((eCall false m_is_name (vCons (eVar 0) vNil)) env)))) sNo sNil)
def m_check_name : List Sl → RF := runF 1 1 [] b_check_name
/-- without_heads: 0 letter, 1 name, 2 head -/
def b_without_heads : BV.Env → RS := (sSeq (sDropN (eCall false m_check_letter (vCons (eVar 0) vNil)))
 (sSeq (sDropN (eCall false m_check_name (vCons (eVar 1) vNil)))
 (sRet (eTup (aCons (eCB (d1 dTuple) (aOne (fun env => frz ((nComp [2] (tgDo [] (.n 2)) (iAny (eBin dIx (eVar 0) (eC (.int 0)))) (tCmpD dNeB (eBin dIx (eVar 2) (eC (.int 0))) (eOwn 1)) (eVar 2)) env)))) (aCons (eBin dIx (eVar 0) (eC (.int 1))) aNil))))))
def m_without_heads : List Sl → RF := runF 2 3 [] b_without_heads
/-- with_head: 0 letter, 1 name, 2 value -/
def b_with_head : BV.Env → RS := (sSeq (sDropN (eCall false m_check_letter (vCons (eVar 0) vNil)))
 (sSeq (sDropN (eCall false m_check_name (vCons (eVar 1) vNil)))
 (sSeq (sIf (tNotD (tTru (fun env => frz ((eCall false m_is_value (vCons (eVar 2) vNil)) env)))) sNo sNil)
 (sSeq (sIf (tCmpD dEqB (eCB (d1 dLen) (aOne (eBin dIx (eVar 0) (eC (.int 0))))) (eC (.int 40))) sNo sNil)
 (sRet (eTup (aCons (eBin dAdd (eTup (aCons (eTup (aCons (eVar 1) (aCons (eVar 2) aNil))) aNil)) (eBin dIx (eVar 0) (eC (.int 0)))) (aCons (eBin dIx (eVar 0) (eC (.int 1))) aNil))))))))
def m_with_head : List Sl → RF := runF 3 3 [] b_with_head
/-- values_in: 0 letter, 1 name, 2 own, 3 value -/
def b_values_in : BV.Env → RS := (sRetN (nComp [2, 3] (tgDo [] (.t [(.n 2), (.n 3)])) (iAny (eBin dIx (eVar 0) (eC (.int 0)))) (tCmpD dEqB (eVar 2) (eOwn 1)) (eVar 3)))
def m_values_in : List Sl → RF := runF 2 4 [] b_values_in
/-- values_of: 0 letter, 1 name -/
def b_values_of : BV.Env → RS := (sSeq (sDropN (eCall false m_check_letter (vCons (eVar 0) vNil)))
 (sSeq (sDropN (eCall false m_check_name (vCons (eVar 1) vNil)))
 (sRet (eCB (d1 dTuple) (aOne (fun env => frz ((eCall false m_values_in (vCons (eVar 0) (vCons (eVar 1) vNil))) env)))))))
def m_values_of : List Sl → RF := runF 2 2 [] b_values_of
/-- first_value: 0 letter, 1 name, 2 found -/
def b_first_value : BV.Env → RS := (sSeq (sAsg [] 2 (fun env => frz ((eCall false m_values_in (vCons (eVar 0) (vCons (eVar 1) vNil))) env)))
 (sRet (eIf (tTru (eOwn 2)) (eBin dIx (eVar 2) (eC (.int 0))) (eC .none))))
def m_first_value : List Sl → RF := runF 2 3 [] b_first_value
/-- value_of: 0 letter, 1 name -/
def b_value_of : BV.Env → RS := (sSeq (sDropN (eCall false m_check_letter (vCons (eVar 0) vNil)))
 (sSeq (sDropN (eCall false m_check_name (vCons (eVar 1) vNil)))
 (sRetN (eCall false m_first_value (vCons (eVar 0) (vCons (eVar 1) vNil))))))
def m_value_of : List Sl → RF := runF 2 2 [] b_value_of
end
/-- law behind its first statement: 0 script, 1 state, 2 turn, 3 letter, 4 text, 5 name, 6 own, 7 other, 8 value, 9 rest, 10 head, 11 some, 12 loose -/
def b_law : BV.Env → RS := (sSeq (sFor (tgDo [] (.n 2)) (iRg1 (aCons (eC (.int 4)) aNil))
 (sSeq (sAsg [] 3 (fun env => frz ((eCall false m__law_letter (vSlot 1 (vCons (fun env => frz ((eCall false m__law_pick (vSlot 1 (vCons (fun env => frz ((nLst (aCons (eC (.int 1)) (aCons (eC (.int 4)) (aCons (eC (.int 12)) (aCons (eIf (tCmpD dEqB (eVar 2) (eC (.int 0))) (eC (.int 40)) (eC (.int 6))) aNil))))) env)) vNil))) env)) vNil))) env)))
 (sSeq (sAsg [] 4 (fun env => frz ((eCall false m__law_text (vCons (eVar 3) vNil)) env)))
 (sSeq (sIf (tNotD (tTru (fun env => frz ((eCall false m__law_same (vCons (fun env => frz ((nLst (aCons (fun env => frz ((eCall false m_check_letter (vCons (eVar 3) vNil)) env)) (aCons (fun env => frz ((eCall false m_write (vCons (eVar 3) vNil)) env)) (aCons (fun env => frz ((eCall false m_size_of (vCons (eVar 3) vNil)) env)) aNil)))) env)) (vCons (fun env => frz ((nLst (aCons (eC .none) (aCons (eVar 4) (aCons (eCB (d1 dLen) (aOne (eOwn 4))) aNil)))) env)) vNil))) env)))) (sRet (eC (.bool false))) sNil)
 (sSeq (sFor (tgDo [] (.n 5)) (iAny (fun env => frz ((nLst (aCons (eC (.str "to")) (aCons (eC (.str "from")) (aCons (eC (.str "subject")) (aCons (eC (.str "q")) aNil))))) env)))
 (sSeq (sAsg [] 6 (fun env => frz ((nComp [7, 8] (tgDo [] (.t [(.n 7), (.n 8)])) (iAny (eBin dIx (eVar 3) (eC (.int 0)))) (tCmpD dEqB (eVar 7) (eOwn 5)) (eVar 8)) env)))
 (sSeq (sIf (tNotD (tTru (fun env => frz ((eCall false m__law_same (vCons (fun env => frz ((nLst (aCons (fun env => frz ((eCall false m_values_of (vCons (eVar 3) (vCons (eVar 5) vNil))) env)) (aCons (fun env => frz ((eCall false m_value_of (vCons (eVar 3) (vCons (eVar 5) vNil))) env)) aNil))) env)) (vCons (fun env => frz ((nLst (aCons (eCB (d1 dTuple) (aOne (eOwn 6))) (aCons (eIf (tTru (eOwn 6)) (eBin dIx (eVar 6) (eC (.int 0))) (eC .none)) aNil))) env)) vNil))) env)))) (sRet (eC (.bool false))) sNil)
 (sSeq (sAsg [] 9 (eTup (aCons (eCB (d1 dTuple) (aOne (fun env => frz ((nComp [10] (tgDo [] (.n 10)) (iAny (eBin dIx (eVar 3) (eC (.int 0)))) (tCmpD dNeB (eBin dIx (eVar 10) (eC (.int 0))) (eOwn 5)) (eVar 10)) env)))) (aCons (eBin dIx (eVar 3) (eC (.int 1))) aNil))))
 (sIf (tNotD (tTru (fun env => frz ((eCall false m__law_same (vCons (fun env => frz ((eCall false m_without_heads (vCons (eVar 3) (vCons (eVar 5) vNil))) env)) (vCons (eVar 9) vNil))) env)))) (sRet (eC (.bool false))) sNil)))))
 (sSeq (sIf (tAndD (tCmpD dLtB (eCB (d1 dLen) (aOne (eBin dIx (eVar 3) (eC (.int 0))))) (eC (.int 40))) (tNotD (tTru (fun env => frz ((eCall false m__law_same (vCons (fun env => frz ((eCall false m_with_head (vCons (eVar 3) (vCons (eC (.str "to")) (vCons (eC (.str "a b")) vNil)))) env)) (vCons (eTup (aCons (eBin dAdd (eTup (aCons (eTup (aCons (eC (.str "to")) (aCons (eC (.str "a b")) aNil))) aNil)) (eBin dIx (eVar 3) (eC (.int 0)))) (aCons (eBin dIx (eVar 3) (eC (.int 1))) aNil))) vNil))) env))))) (sRet (eC (.bool false))) sNil)
 (sSeq (sAsg [] 11 (fun env => frz ((eCall false m__law_short (vCons (eVar 3) vNil)) env)))
 (sSeq (sAsg [] 12 (fun env => frz ((eCall false m__law_loose (vSlot 1 (vCons (eVar 11) vNil))) env)))
 (sIf (tNotD (tTru (fun env => frz ((eCall false m__law_same (vCons (fun env => frz ((nLst (aCons (fun env => frz ((eCall false m_read (vCons (fun env => frz ((eCall false m__law_text (vCons (eVar 11) vNil)) env)) vNil)) env)) (aCons (fun env => frz ((eCall false m_read (vCons (eVar 12) vNil)) env)) aNil))) env)) (vCons (fun env => frz ((nLst (aCons (eVar 11) (aCons (eVar 11) aNil))) env)) vNil))) env)))) (sRet (eC (.bool false))) sNil)))))))))
 (sRetN (eCall false m__law_same (vCons (fun env => frz ((eCall false m_read (vCons (eC (.str "Subject: a\n  b \nto:c@d\n\nhello\n\n")) vNil)) env)) (vCons (eTup (aCons (eTup (aCons (eTup (aCons (eC (.str "subject")) (aCons (eC (.str "a b")) aNil))) (aCons (eTup (aCons (eC (.str "to")) (aCons (eC (.str "c@d")) aNil))) aNil))) (aCons (eTup (aCons (eC (.str "hello")) (aCons (eC (.str "")) aNil))) aNil))) vNil)))))
/-! ### what the walk asks of the module -/
structure Tx (K : Fg) (mg : Str → Option Value) : Prop where
  f_repr : mg "repr" = none
  f_int : mg "int" = none
  f_abs : mg "abs" = none
  f_len : mg "len" = none
  f_tuple : mg "tuple" = none
  f_range : mg "range" = none
  f_list : mg "list" = none
  f_all : mg "all" = none
  f_ord : mg "ord" = none
  f_isinstance : mg "isinstance" = none
  f_str : mg "str" = none
  f_sum : mg "sum" = none
  g_MAX_SIGNS : GV K mg "MAX_SIGNS" (.int 200)
  g_MAX_LINES : GV K mg "MAX_LINES" (.int 200)
  g_LETTERS : GV K mg "LETTERS" (.str "abcdefghijklmnopqrstuvwxyz")
  g_MAX_NAME : GV K mg "MAX_NAME" (.int 20)
  g_GREAT : GV K mg "GREAT" (.str "ABCDEFGHIJKLMNOPQRSTUVWXYZ")
  g_MAX_HEADS : GV K mg "MAX_HEADS" (.int 40)
  g_MAX_TEXT : GV K mg "MAX_TEXT" (.int 20000)
  d__law_start : DefF K mg "_law_start" s__law_start
  d__law_same : DefF K mg "_law_same" s__law_same
  d__law_draw : DefF K mg "_law_draw" s__law_draw
  d__law_pick : DefF K mg "_law_pick" s__law_pick
  d__law_letter : DefF K mg "_law_letter" s__law_letter
  d__law_text : DefF K mg "_law_text" s__law_text
  d__law_short : DefF K mg "_law_short" s__law_short
  d__law_great : DefF K mg "_law_great" s__law_great
  d__law_loose : DefF K mg "_law_loose" s__law_loose
  d_is_line : DefF K mg "is_line" s_is_line
  d_body_of : DefF K mg "body_of" s_body_of
  d_is_name : DefF K mg "is_name" s_is_name
  d_head_of : DefF K mg "head_of" s_head_of
  d_is_value : DefF K mg "is_value" s_is_value
  d_read : DefF K mg "read" s_read
  d_check_letter : DefF K mg "check_letter" s_check_letter
  d_text_of : DefF K mg "text_of" s_text_of
  d_write : DefF K mg "write" s_write
  d_size_in : DefF K mg "size_in" s_size_in
  d_size_of : DefF K mg "size_of" s_size_of
  d_check_name : DefF K mg "check_name" s_check_name
  d_without_heads : DefF K mg "without_heads" s_without_heads
  d_with_head : DefF K mg "with_head" s_with_head
  d_values_in : DefF K mg "values_in" s_values_in
  d_values_of : DefF K mg "values_of" s_values_of
  d_first_value : DefF K mg "first_value" s_first_value
  d_value_of : DefF K mg "value_of" s_value_of
  d_law : DefF K mg "law" s_law
def fa : List He.Fa := [.free "repr", .free "int", .free "abs", .free "len", .free "tuple", .free "range", .free "list", .free "all", .free "ord", .free "isinstance", .free "str", .free "sum", .int "MAX_SIGNS" 200, .int "MAX_LINES" 200, .str "LETTERS" "abcdefghijklmnopqrstuvwxyz", .int "MAX_NAME" 20, .str "GREAT" "ABCDEFGHIJKLMNOPQRSTUVWXYZ", .int "MAX_HEADS" 40, .int "MAX_TEXT" 20000, .glo "_law_start", .glo "_law_same", .glo "_law_draw", .glo "_law_pick", .glo "_law_letter", .glo "_law_text", .glo "_law_short", .glo "_law_great", .glo "_law_loose", .glo "is_line", .glo "body_of", .glo "is_name", .glo "head_of", .glo "is_value", .glo "read", .glo "check_letter", .glo "text_of", .glo "write", .glo "size_in", .glo "size_of", .glo "check_name", .glo "without_heads", .glo "with_head", .glo "values_in", .glo "values_of", .glo "first_value", .glo "value_of", .glo "law", .keep "_law_start", .keep "_law_same", .keep "_law_draw", .keep "_law_pick", .keep "_law_letter", .keep "_law_text", .keep "_law_short", .keep "_law_great", .keep "_law_loose", .keep "is_line", .keep "body_of", .keep "is_name", .keep "head_of", .keep "is_value", .keep "read", .keep "check_letter", .keep "text_of", .keep "write", .keep "size_in", .keep "size_of", .keep "check_name", .keep "without_heads", .keep "with_head", .keep "values_in", .keep "values_of", .keep "first_value", .keep "value_of", .keep "law"]
def fn : List He.FnD := [fnD "_law_start" s__law_start, fnD "_law_same" s__law_same, fnD "_law_draw" s__law_draw, fnD "_law_pick" s__law_pick, fnD "_law_letter" s__law_letter, fnD "_law_text" s__law_text, fnD "_law_short" s__law_short, fnD "_law_great" s__law_great, fnD "_law_loose" s__law_loose, fnD "is_line" s_is_line, fnD "body_of" s_body_of, fnD "is_name" s_is_name, fnD "head_of" s_head_of, fnD "is_value" s_is_value, fnD "read" s_read, fnD "check_letter" s_check_letter, fnD "text_of" s_text_of, fnD "write" s_write, fnD "size_in" s_size_in, fnD "size_of" s_size_of, fnD "check_name" s_check_name, fnD "without_heads" s_without_heads, fnD "with_head" s_with_head, fnD "values_in" s_values_in, fnD "values_of" s_values_of, fnD "first_value" s_first_value, fnD "value_of" s_value_of, fnD "law" s_law]
def mo : Fg → Bool := fun K => true
theorem tx_of {K : Fg} {h : Heap} {mg : Str → Option Value} (X : K.In h) (G : h.Ns mainGlobals mg) (c : SaysM fa mo fn K) : Tx K mg where
  f_repr := freeM X G c 0 rfl
  f_int := freeM X G c 1 rfl
  f_abs := freeM X G c 2 rfl
  f_len := freeM X G c 3 rfl
  f_tuple := freeM X G c 4 rfl
  f_range := freeM X G c 5 rfl
  f_list := freeM X G c 6 rfl
  f_all := freeM X G c 7 rfl
  f_ord := freeM X G c 8 rfl
  f_isinstance := freeM X G c 9 rfl
  f_str := freeM X G c 10 rfl
  f_sum := freeM X G c 11 rfl
  g_MAX_SIGNS := gvI X G c 12 rfl
  g_MAX_LINES := gvI X G c 13 rfl
  g_LETTERS := gvS X G c 14 rfl
  g_MAX_NAME := gvI X G c 15 rfl
  g_GREAT := gvS X G c 16 rfl
  g_MAX_HEADS := gvI X G c 17 rfl
  g_MAX_TEXT := gvI X G c 18 rfl
  d__law_start := defF_of X G c 0 19 47 rfl rfl rfl
  d__law_same := defF_of X G c 1 20 48 rfl rfl rfl
  d__law_draw := defF_of X G c 2 21 49 rfl rfl rfl
  d__law_pick := defF_of X G c 3 22 50 rfl rfl rfl
  d__law_letter := defF_of X G c 4 23 51 rfl rfl rfl
  d__law_text := defF_of X G c 5 24 52 rfl rfl rfl
  d__law_short := defF_of X G c 6 25 53 rfl rfl rfl
  d__law_great := defF_of X G c 7 26 54 rfl rfl rfl
  d__law_loose := defF_of X G c 8 27 55 rfl rfl rfl
  d_is_line := defF_of X G c 9 28 56 rfl rfl rfl
  d_body_of := defF_of X G c 10 29 57 rfl rfl rfl
  d_is_name := defF_of X G c 11 30 58 rfl rfl rfl
  d_head_of := defF_of X G c 12 31 59 rfl rfl rfl
  d_is_value := defF_of X G c 13 32 60 rfl rfl rfl
  d_read := defF_of X G c 14 33 61 rfl rfl rfl
  d_check_letter := defF_of X G c 15 34 62 rfl rfl rfl
  d_text_of := defF_of X G c 16 35 63 rfl rfl rfl
  d_write := defF_of X G c 17 36 64 rfl rfl rfl
  d_size_in := defF_of X G c 18 37 65 rfl rfl rfl
  d_size_of := defF_of X G c 19 38 66 rfl rfl rfl
  d_check_name := defF_of X G c 20 39 67 rfl rfl rfl
  d_without_heads := defF_of X G c 21 40 68 rfl rfl rfl
  d_with_head := defF_of X G c 22 41 69 rfl rfl rfl
  d_values_in := defF_of X G c 23 42 70 rfl rfl rfl
  d_values_of := defF_of X G c 24 43 71 rfl rfl rfl
  d_first_value := defF_of X G c 25 44 72 rfl rfl rfl
  d_value_of := defF_of X G c 26 45 73 rfl rfl rfl
  d_law := defF_of X G c 27 46 74 rfl rfl rfl
section
variable {P : Program} {w : World} {K : Fg} {mg : Str → Option Value} {base : Heap}
-- MANUAL _law_start
abbrev N__law_same : List Str := ["actual", "due"]
theorem sc__law_same : FnScope N__law_same ["actual", "due"] (defScope s__law_same) := fnScope_k (by decide +kernel)
theorem c__law_same (T : Tx K mg) : Cal false P w K cl0 mg base 1 "_law_same" ["actual", "due"] m__law_same :=
  calN T.d__law_same (fun _ _ _ _ _ _ us hl => match us, hl with | [_, _], _ => rfl) sc__law_same rfl (by decide) fun f cdv A outer s H E hgd hr => by
  have nd := sc__law_same.nd
  exact (bss_one (bs_ret (be_and rfl (be_cmp (op_eqAll (hu64 hr)) (dopb_of do_eq) (be_var 0 (pv 0)) (bp_own 1 (pv 1)) rfl) (pe_one (be_cmp (op_eqAll (hu64 hr)) (dopb_of do_eq) (be_cb (pe_callB (call_reprD hgd (hu66 hr)) rfl T.f_repr bt_repr (ba_one (bp_own 0 (pv 0)))) dc_repr) (bp_d (be_cb (pe_callB (call_reprD hgd (hu66 hr)) rfl T.f_repr bt_repr (ba_one (bp_own 1 (pv 1)))) dc_repr)) rfl)))))
abbrev N__law_draw : List Str := ["state", "many", "value"]
theorem sc__law_draw : FnScope N__law_draw ["state", "many"] (defScope s__law_draw) := fnScope_k (by decide +kernel)
theorem c__law_draw (T : Tx K mg) : Cal false P w K cl0 mg base 1 "_law_draw" ["state", "many"] m__law_draw :=
  calN T.d__law_draw (fun _ _ _ _ _ _ us hl => match us, hl with | [_, _], _ => rfl) sc__law_draw rfl (by decide) fun f cdv A outer s H E hgd hr => by
  have nd := sc__law_draw.nd
  exact (bss_cons (bs_if (bt_w (bw_and (bt_cmp (op_eqAll (hu64 hr)) (dopb_of do_eq) (be_ixO ix_seq do_ix (pv 0) be_int (fun _ _ => rfl)) (bp_d be_int) rfl) (bw_and1 (bt_cmp op_geO (dopb_of do_ord) (be_ixO ix_seq do_ix (pv 0) be_int (fun _ _ => rfl)) (bp_d (be_cb (pe_callB call_len rfl T.f_len bt_len (ba_one (bp_d (be_ixO ix_seq do_ix (pv 0) be_int (fun _ _ => rfl))))) dc_len)) rfl)))) (bss_cons (bs_setIx (ps_asg (be_bin op_mod (dop_of do_mod) (be_cb (pe_callTy call_intOf rfl T.f_int bt_int (ba_one (bp_d (be_bin op_addAll (dop_of do_add) (be_bin op_mulAll (dop_of do_mul) (be_ixO ix_seq do_ix (pv 0) be_int (fun _ _ => rfl)) (bp_d be_int)) (bp_d be_int))))) dc_int) (bp_d be_int)) (pg_sub (pv 0) be_int set_list)))
 (bss_one (bs_ret (be_bin op_mod (dop_of do_mod) (be_cb (pe_callTy call_intOf rfl T.f_int bt_int (ba_one (bp_d (be_bin op_fdiv (dop_of do_div) (be_ixO ix_seq do_ix (pv 0) be_int (fun _ _ => rfl)) (bp_d be_int))))) dc_int) (bp_own 1 (pv 1)))))) bss_nil)
 (bss_cons (bs_if (bt_cmp (op_eqAll (hu64 hr)) (dopb_of do_eq) (be_ixO ix_seq do_ix (pv 0) be_int (fun _ _ => rfl)) (bp_d be_int) rfl) (bss_cons (bs_setIx (ps_asg (be_cb (pe_callB call_abs rfl T.f_abs bt_abs (ba_one (bp_d (be_ix ix_seq (dop_of do_ix) (be_ixO ix_seq do_ix (pv 0) be_int (fun _ _ => rfl)) (bp_d (be_ixO ix_seq do_ix (pv 0) be_int (fun _ _ => rfl))) (fun _ _ => rfl))))) dc_abs) (pg_sub (pv 0) be_int set_list)))
 (bss_one (bs_setIx (ps_asg (be_bin op_addAll (dop_of do_add) (be_ixO ix_seq do_ix (pv 0) be_int (fun _ _ => rfl)) (bp_d be_int)) (pg_sub (pv 0) be_int set_list))))) bss_nil)
 (bss_cons (bs_asg (ps_set (i := 2) nd rfl (by first | exact Or.inl rfl | exact Or.inr rfl) (be_bin op_mod (dop_of do_mod) (be_cb (pe_callTy call_intOf rfl T.f_int bt_int (ba_one (bp_d (be_ixO ix_seq do_ix (pv 0) be_int (fun _ _ => rfl))))) dc_int) (bp_own 1 (pv 1)))))
 (bss_cons (bs_setIx (ps_asg (be_bin op_fdiv (dop_of do_div) (be_ixO ix_seq do_ix (pv 0) be_int (fun _ _ => rfl)) (bp_own 1 (pv 1))) (pg_sub (pv 0) be_int set_list)))
 (bss_one (bs_ret (be_var 2 (pv 2))))))))
abbrev N__law_pick : List Str := ["state", "some"]
theorem sc__law_pick : FnScope N__law_pick ["state", "some"] (defScope s__law_pick) := fnScope_k (by decide +kernel)
theorem c__law_pick (T : Tx K mg) : Cal false P w K cl0 mg base 2 "_law_pick" ["state", "some"] m__law_pick :=
  calN T.d__law_pick (fun _ _ _ _ _ _ us hl => match us, hl with | [_, _], _ => rfl) sc__law_pick rfl (by decide) fun f cdv A outer s H E hgd hr => by
  have nd := sc__law_pick.nd
  exact (bss_one (bs_ret (be_ix ix_seq (dop_of do_ix) (be_var 1 (pv 1)) (bp_d (bd_n (bn_callC (c__law_draw T) rfl hgd hr (by decide) rfl (bv_slot (pv 0) (bv_cons (be_cb (pe_callB call_len rfl T.f_len bt_len (ba_one (bp_own 1 (pv 1)))) dc_len) bv_nil))))) (fun _ _ => rfl))))
abbrev N__law_letter : List Str := ["state", "most", "names", "values", "heads", "k", "lines"]
theorem sc__law_letter : FnScope N__law_letter ["state", "most"] (defScope s__law_letter) := fnScope_k (by decide +kernel)
theorem c__law_letter (T : Tx K mg) : Cal false P w K cl0 mg base 3 "_law_letter" ["state", "most"] m__law_letter :=
  calN T.d__law_letter (fun _ _ _ _ _ _ us hl => match us, hl with | [_, _], _ => rfl) sc__law_letter rfl (by decide) fun f cdv A outer s H E hgd hr => by
  have nd := sc__law_letter.nd
  exact (bss_cons (bs_tup (tg_tup (tgs_cons (tg_name 2) (tgs_cons (tg_name 3) tgs_nil)) rfl) (ps_asg (be_tup (ba_cons (bd_n (bn_lst (ba_cons be_str (ba_cons be_str (ba_cons be_str (ba_cons be_str (ba_cons be_str (ba_cons be_str ba_nil)))))))) (ba_cons (bd_n (bn_lst (ba_cons be_str (ba_cons be_str (ba_cons be_str (ba_cons be_str (ba_cons be_str (ba_cons be_str (ba_cons be_str (ba_cons (be_bin op_mulAll (dop_of do_mul) be_str (bp_d be_int)) ba_nil)))))))))) ba_nil))) (pg_tup rfl (pgs_cons (pg_name (i := 2) nd rfl (by first | exact Or.inl rfl | exact Or.inr rfl)) (pgs_cons (pg_name (i := 3) nd rfl (by first | exact Or.inl rfl | exact Or.inr rfl)) pgs_nil)))))
 (bss_cons (bs_asg (ps_set (i := 4) nd rfl (by first | exact Or.inl rfl | exact Or.inr rfl) (be_cb (pe_callTy call_tuple_of rfl T.f_tuple bt_tuple (ba_one (bp_d (bd_n (bn_comp (tg_name 5) (by decide) (pe_lc (own := [("k", 5)]) rfl nd (bi_range1 (pi_range1 rfl T.f_range (ba_cons (bd_n (bn_callC (c__law_draw T) rfl hgd hr (by decide) rfl (bv_slot (pv 0) (bv_cons (be_bin op_addAll (dop_of do_add) (be_var 1 (pv 1)) (bp_d be_int)) bv_nil)))) ba_nil))) (blkOk_by (own := [("k", 5)]) (N := N__law_letter) (sc := defScope s__law_letter) (by decide +kernel)) (fun _ _ _ _ _ => (pg_name (i := 5) nd rfl (by first | exact Or.inl rfl | exact Or.inr rfl))) (fun _ _ _ _ _ => bts_nil) (fun _ _ _ _ _ => (be_tup (ba_cons (bd_n (bn_callC (c__law_pick T) rfl hgd hr (by decide) rfl (bv_slot (pv 0) (bv_cons (be_var 2 (pv 2)) bv_nil)))) (ba_cons (bd_n (bn_callC (c__law_pick T) rfl hgd hr (by decide) rfl (bv_slot (pv 0) (bv_cons (be_var 3 (pv 3)) bv_nil)))) ba_nil)))))))))) dc_tuple)))
 (bss_cons (bs_asg (ps_set (i := 6) nd rfl (by first | exact Or.inl rfl | exact Or.inr rfl) (bd_n (bn_lst (ba_cons be_str (ba_cons be_str (ba_cons be_str (ba_cons be_str (ba_cons be_str (ba_cons be_str (ba_cons (be_bin op_mulAll (dop_of do_mul) be_str (bp_d be_int)) (ba_cons be_str ba_nil))))))))))))
 (bss_one (bs_ret (be_tup (ba_cons (be_var 4 (pv 4)) (ba_cons (be_cb (pe_callTy call_tuple_of rfl T.f_tuple bt_tuple (ba_one (bp_d (bd_n (bn_comp (tg_name 5) (by decide) (pe_lc (own := [("k", 5)]) rfl nd (bi_range1 (pi_range1 rfl T.f_range (ba_cons (bd_n (bn_callC (c__law_draw T) rfl hgd hr (by decide) rfl (bv_slot (pv 0) (bv_cons (be_bin op_addAll (dop_of do_add) (be_var 1 (pv 1)) (bp_d be_int)) bv_nil)))) ba_nil))) (blkOk_by (own := [("k", 5)]) (N := N__law_letter) (sc := defScope s__law_letter) (by decide +kernel)) (fun _ _ _ _ _ => (pg_name (i := 5) nd rfl (by first | exact Or.inl rfl | exact Or.inr rfl))) (fun _ _ _ _ _ => bts_nil) (fun _ _ _ _ _ => (bd_n (bn_callC (c__law_pick T) rfl hgd hr (by decide) rfl (bv_slot (pv 0) (bv_cons (be_var 6 (pv 6)) bv_nil))))))))))) dc_tuple) ba_nil))))))))
abbrev N__law_text : List Str := ["letter", "rows", "name", "value"]
theorem sc__law_text : FnScope N__law_text ["letter"] (defScope s__law_text) := fnScope_k (by decide +kernel)
theorem c__law_text (T : Tx K mg) : Cal false P w K cl0 mg base 1 "_law_text" ["letter"] m__law_text :=
  calN T.d__law_text (fun _ _ _ _ _ _ us hl => match us, hl with | [_], _ => rfl) sc__law_text rfl (by decide) fun f cdv A outer s H E hgd hr => by
  have nd := sc__law_text.nd
  exact (bss_cons (bs_asg (ps_set (i := 1) nd rfl (by first | exact Or.inl rfl | exact Or.inr rfl) (be_bin op_addAll (dop_of do_add) (be_bin op_addAll (dop_of do_add) (bd_n (bn_comp (tg_tup (tgs_cons (tg_name 2) (tgs_cons (tg_name 3) tgs_nil)) rfl) (by decide) (pe_lc (own := [("name", 2), ("value", 3)]) rfl nd (bi_any rfl (be_ix ix_seq (dop_of do_ix) (be_var 0 (pv 0)) (bp_d be_int) (fun _ _ => rfl))) (blkOk_by (own := [("name", 2), ("value", 3)]) (N := N__law_text) (sc := defScope s__law_text) (by decide +kernel)) (fun _ _ _ _ _ => (pg_tup rfl (pgs_cons (pg_name (i := 2) nd rfl (by first | exact Or.inl rfl | exact Or.inr rfl)) (pgs_cons (pg_name (i := 3) nd rfl (by first | exact Or.inl rfl | exact Or.inr rfl)) pgs_nil)))) (fun _ _ _ _ _ => bts_nil) (fun _ _ _ _ _ => (be_bin op_addAll (dop_of do_add) (be_bin op_addAll (dop_of do_add) (be_var 2 (pv 2)) (bp_d be_str)) (bp_own 3 (pv 3))))))) (bp_d (bd_n (bn_lst (ba_cons be_str ba_nil))))) (bp_d (bd_n (bn_cb (pe_callTy call_list_of rfl T.f_list bt_list (ba_one (bp_d (be_ix ix_seq (dop_of do_ix) (be_var 0 (pv 0)) (bp_d be_int) (fun _ _ => rfl))))) nc_list))))))
 (bss_one (bs_ret (be_bin op_addAll (dop_of do_add) (be_bm rfl (pe_bm PySem.F.plainAttrs_str PySem.F.slot_str_join PySem.F.type_str_join mt_join be_str (ba_one (bp_own 1 (pv 1)))) dm_join) (bp_d be_str)))))
abbrev N__law_short : List Str := ["letter", "name", "value"]
theorem sc__law_short : FnScope N__law_short ["letter"] (defScope s__law_short) := fnScope_k (by decide +kernel)
theorem c__law_short (T : Tx K mg) : Cal false P w K cl0 mg base 1 "_law_short" ["letter"] m__law_short :=
  calN T.d__law_short (fun _ _ _ _ _ _ us hl => match us, hl with | [_], _ => rfl) sc__law_short rfl (by decide) fun f cdv A outer s H E hgd hr => by
  have nd := sc__law_short.nd
  exact (bss_one (bs_ret (be_tup (ba_cons (be_cb (pe_callTy call_tuple_of rfl T.f_tuple bt_tuple (ba_one (bp_d (bd_n (bn_comp (tg_tup (tgs_cons (tg_name 1) (tgs_cons (tg_name 2) tgs_nil)) rfl) (by decide) (pe_lc (own := [("name", 1), ("value", 2)]) rfl nd (bi_any rfl (be_ix ix_seq (dop_of do_ix) (be_var 0 (pv 0)) (bp_d be_int) (fun _ _ => rfl))) (blkOk_by (own := [("name", 1), ("value", 2)]) (N := N__law_short) (sc := defScope s__law_short) (by decide +kernel)) (fun _ _ _ _ _ => (pg_tup rfl (pgs_cons (pg_name (i := 1) nd rfl (by first | exact Or.inl rfl | exact Or.inr rfl)) (pgs_cons (pg_name (i := 2) nd rfl (by first | exact Or.inl rfl | exact Or.inr rfl)) pgs_nil)))) (fun _ _ _ _ _ => (pts_one (bt_cmp op_ltO (dopb_of do_ord) (be_bin op_addAll (dop_of do_add) (be_cb (pe_callB call_len rfl T.f_len bt_len (ba_one (bp_own 1 (pv 1)))) dc_len) (bp_d (be_cb (pe_callB call_len rfl T.f_len bt_len (ba_one (bp_own 2 (pv 2)))) dc_len))) (bp_d be_int) rfl))) (fun _ _ _ _ _ => (be_tup (ba_cons (be_var 1 (pv 1)) (ba_cons (be_var 2 (pv 2)) ba_nil)))))))))) dc_tuple) (ba_cons (be_ix ix_seq (dop_of do_ix) (be_var 0 (pv 0)) (bp_d be_int) (fun _ _ => rfl)) ba_nil)))))
abbrev N__law_great : List Str := ["state", "name", "found", "sign"]
theorem sc__law_great : FnScope N__law_great ["state", "name"] (defScope s__law_great) := fnScope_k (by decide +kernel)
theorem c__law_great (T : Tx K mg) : Cal false P w K cl0 mg base 2 "_law_great" ["state", "name"] m__law_great :=
  calN T.d__law_great (fun _ _ _ _ _ _ us hl => match us, hl with | [_, _], _ => rfl) sc__law_great rfl (by decide) fun f cdv A outer s H E hgd hr => by
  have nd := sc__law_great.nd
  exact (bss_cons (bs_asg (ps_set (i := 2) nd rfl (by first | exact Or.inl rfl | exact Or.inr rfl) be_str))
 (bss_cons (bs_for (tg_name 3) (ps_for PassesOwn.never rfl (bi_any rfl (be_var 1 (pv 1))) (pg_name (i := 3) nd rfl (by first | exact Or.inl rfl | exact Or.inr rfl)) (bss_one (bs_asg (ps_set (i := 2) nd rfl (by first | exact Or.inl rfl | exact Or.inr rfl) (be_bin op_addAll (dop_of do_add) (be_var 2 (pv 2)) (bp_d (be_if (bt_cmp (op_eqAll (hu64 hr)) (dopb_of do_eq) (bd_n (bn_callC (c__law_draw T) rfl hgd hr (by decide) rfl (bv_slot (pv 0) (bv_cons be_int bv_nil)))) (bp_d be_int) rfl) (be_bm0 rfl (pe_bm0 PySem.F.plainAttrs_str PySem.F.slot_str_upper PySem.F.type_str_upper mt_upper (be_var 3 (pv 3))) dm_upper) (be_var 3 (pv 3))))))))))
 (bss_one (bs_ret (be_var 2 (pv 2))))))
abbrev N__law_loose : List Str := ["state", "letter", "rows", "name", "value", "head", "at"]
theorem sc__law_loose : FnScope N__law_loose ["state", "letter"] (defScope s__law_loose) := fnScope_k (by decide +kernel)
theorem c__law_loose (T : Tx K mg) : Cal false P w K cl0 mg base 3 "_law_loose" ["state", "letter"] m__law_loose :=
  calN T.d__law_loose (fun _ _ _ _ _ _ us hl => match us, hl with | [_, _], _ => rfl) sc__law_loose rfl (by decide) fun f cdv A outer s H E hgd hr => by
  have nd := sc__law_loose.nd
  exact (bss_cons (bs_asgN (ps_set (i := 2) nd rfl (by first | exact Or.inl rfl | exact Or.inr rfl) (bn_lst ba_nil)))
 (bss_cons (bs_for (tg_tup (tgs_cons (tg_name 3) (tgs_cons (tg_name 4) tgs_nil)) rfl) (ps_for PassesOwn.never rfl (bi_any rfl (be_ix ix_seq (dop_of do_ix) (be_var 1 (pv 1)) (bp_d be_int) (fun _ _ => rfl))) (pg_tup rfl (pgs_cons (pg_name (i := 3) nd rfl (by first | exact Or.inl rfl | exact Or.inr rfl)) (pgs_cons (pg_name (i := 4) nd rfl (by first | exact Or.inl rfl | exact Or.inr rfl)) pgs_nil))) (bss_cons (bs_asg (ps_set (i := 5) nd rfl (by first | exact Or.inl rfl | exact Or.inr rfl) (be_bin op_addAll (dop_of do_add) (bd_n (bn_callC (c__law_great T) rfl hgd hr (by decide) rfl (bv_slot (pv 0) (bv_cons (be_var 3 (pv 3)) bv_nil)))) (bp_d be_str))))
 (bss_cons (bs_asg (ps_set (i := 6) nd rfl (by first | exact Or.inl rfl | exact Or.inr rfl) (be_bm rfl (pe_bm PySem.F.plainAttrs_str PySem.F.slot_str_find PySem.F.type_str_find mt_find (be_var 4 (pv 4)) (ba_one (bp_d be_str))) dm_find)))
 (bss_one (bs_if (bt_w (bw_and (bt_cmp op_gtO (dopb_of do_ord) (be_var 6 (pv 6)) (bp_d be_int) rfl) (bw_and (bt_cmp (op_neAll (hu64 hr)) (dopb_of do_ne) (be_ix ix_seq (dop_of do_ix) (be_var 4 (pv 4)) (bp_d (be_bin op_addAll (dop_of do_add) (be_var 6 (pv 6)) (bp_d be_int))) (fun _ _ => rfl)) (bp_d be_str) rfl) (bw_and1 (bt_cmp (op_eqAll (hu64 hr)) (dopb_of do_eq) (bd_n (bn_callC (c__law_draw T) rfl hgd hr (by decide) rfl (bv_slot (pv 0) (bv_cons be_int bv_nil)))) (bp_d be_int) rfl))))) (bss_cons (bs_app (ps_expr (pe_bm PySem.F.plainAttrs_list PySem.F.slot_list_append PySem.F.type_list_append mt_append (pv 2) (pa_cons (be_bin op_addAll (dop_of do_add) (be_bin op_addAll (dop_of do_add) (be_bin op_addAll (dop_of do_add) (be_var 5 (pv 5)) (bp_d (be_bin op_mulAll (dop_of do_mul) be_str (bp_d (bd_n (bn_callC (c__law_draw T) rfl hgd hr (by decide) rfl (bv_slot (pv 0) (bv_cons be_int bv_nil)))))))) (bp_d (be_sl rfl (be_var 4 (pv 4)) bo_none (bo_some (be_var 6 (pv 6)))))) (bp_d (be_bin op_mulAll (dop_of do_mul) be_str (bp_d (bd_n (bn_callC (c__law_draw T) rfl hgd hr (by decide) rfl (bv_slot (pv 0) (bv_cons be_int bv_nil)))))))) pa_nil))))
 (bss_one (bs_app (ps_expr (pe_bm PySem.F.plainAttrs_list PySem.F.slot_list_append PySem.F.type_list_append mt_append (pv 2) (pa_cons (be_bin op_addAll (dop_of do_add) (be_bin op_addAll (dop_of do_add) (be_bin op_mulAll (dop_of do_mul) be_str (bp_d (be_bin op_addAll (dop_of do_add) be_int (bp_d (bd_n (bn_callC (c__law_draw T) rfl hgd hr (by decide) rfl (bv_slot (pv 0) (bv_cons be_int bv_nil)))))))) (bp_d (be_sl rfl (be_var 4 (pv 4)) (bo_some (be_bin op_addAll (dop_of do_add) (be_var 6 (pv 6)) (bp_d be_int))) bo_none))) (bp_d (be_bin op_mulAll (dop_of do_mul) be_str (bp_d (bd_n (bn_callC (c__law_draw T) rfl hgd hr (by decide) rfl (bv_slot (pv 0) (bv_cons be_int bv_nil)))))))) pa_nil)))))) (bss_one (bs_app (ps_expr (pe_bm PySem.F.plainAttrs_list PySem.F.slot_list_append PySem.F.type_list_append mt_append (pv 2) (pa_cons (be_bin op_addAll (dop_of do_add) (be_bin op_addAll (dop_of do_add) (be_bin op_addAll (dop_of do_add) (be_var 5 (pv 5)) (bp_d (be_bin op_mulAll (dop_of do_mul) be_str (bp_d (bd_n (bn_callC (c__law_draw T) rfl hgd hr (by decide) rfl (bv_slot (pv 0) (bv_cons be_int bv_nil)))))))) (bp_own 4 (pv 4))) (bp_d (be_bin op_mulAll (dop_of do_mul) be_str (bp_d (bd_n (bn_callC (c__law_draw T) rfl hgd hr (by decide) rfl (bv_slot (pv 0) (bv_cons be_int bv_nil)))))))) pa_nil)))))))))))
 (bss_one (bs_ret (be_bin op_addAll (dop_of do_add) (be_bm rfl (pe_bm PySem.F.plainAttrs_str PySem.F.slot_str_join PySem.F.type_str_join mt_join be_str (ba_one (bp_d (be_bin op_addAll (dop_of do_add) (be_binO op_addAll do_add (pv 2) (bd_n (bn_lst (ba_cons be_str ba_nil)))) (bp_d (bd_n (bn_cb (pe_callTy call_list_of rfl T.f_list bt_list (ba_one (bp_d (be_ix ix_seq (dop_of do_ix) (be_var 1 (pv 1)) (bp_d be_int) (fun _ _ => rfl))))) nc_list))))))) dm_join) (bp_d be_str))))))
abbrev N_is_line : List Str := ["value", "sign"]
theorem sc_is_line : FnScope N_is_line ["value"] (defScope s_is_line) := fnScope_k (by decide +kernel)
theorem c_is_line (T : Tx K mg) : Cal false P w K cl0 mg base 1 "is_line" ["value"] m_is_line :=
  calN T.d_is_line (fun _ _ _ _ _ _ us hl => match us, hl with | [_], _ => rfl) sc_is_line rfl (by decide) fun f cdv A outer s H E hgd hr => by
  have nd := sc_is_line.nd
  exact (bss_cons (bs_if (bt_w (bw_or (bt_not (bt_tru rfl (bp_d (be_isi rfl (pe_callB call_isi rfl T.f_isinstance bt_isinstance (pa_cons (bp_own 0 (pv 0)) (pa_cons (pe_bltn rfl T.f_str bt_str rfl) pa_nil))))))) (bw_or1 (bt_cmp op_gtO (dopb_of do_ord) (be_cb (pe_callB call_len rfl T.f_len bt_len (ba_one (bp_own 0 (pv 0)))) dc_len) (bp_d (be_g T.g_MAX_SIGNS rfl)) rfl)))) (bss_one (bs_ret be_bl)) bss_nil)
 (bss_one (bs_ret (be_cb (pe_callB (cr_all rfl) rfl T.f_all bt_all (ba_one (bp_d (bd_n (bn_comp (tg_name 1) (by decide) (pe_lc (own := [("sign", 1)]) rfl nd (bi_any rfl (be_var 0 (pv 0))) (blkOk_by (own := [("sign", 1)]) (N := N_is_line) (sc := defScope s_is_line) (by decide +kernel)) (fun _ _ _ _ _ => (pg_name (i := 1) nd rfl (by first | exact Or.inl rfl | exact Or.inr rfl))) (fun _ _ _ _ _ => bts_nil) (fun _ _ _ _ _ => (be_and rfl (be_chain (dopb_of do_ord) (dopb_of do_ord) (pe_chain op_leO op_leO be_str (be_var 1 (pv 1)) be_str)) (pe_one (be_cmp (op_neAll (hu64 hr)) (dopb_of do_ne) (be_cb (pe_callB call_ord rfl T.f_ord bt_ord (ba_one (bp_own 1 (pv 1)))) dc_ord) (bp_d be_int) rfl)))))))))) dc_all))))
abbrev N_body_of : List Str := ["text", "at", "rows", "end"]
theorem sc_body_of : FnScope N_body_of ["text", "at"] (defScope s_body_of) := fnScope_k (by decide +kernel)
theorem c_body_of (T : Tx K mg) : Cal false P w K cl0 mg base 2 "body_of" ["text", "at"] m_body_of :=
  calN T.d_body_of (fun _ _ _ _ _ _ us hl => match us, hl with | [_, _], _ => rfl) sc_body_of rfl (by decide) fun f cdv A outer s H E hgd hr => by
  have nd := sc_body_of.nd
  exact (bss_cons (bs_asgN (ps_set (i := 2) nd rfl (by first | exact Or.inl rfl | exact Or.inr rfl) (bn_lst ba_nil)))
 (bss_cons (bs_while 100000 (ps_while PassesOwn.never (bt_cmp op_ltO (dopb_of do_ord) (be_var 1 (pv 1)) (bp_d (be_cb (pe_callB call_len rfl T.f_len bt_len (ba_one (bp_own 0 (pv 0)))) dc_len)) rfl) (bss_cons (bs_asg (ps_set (i := 3) nd rfl (by first | exact Or.inl rfl | exact Or.inr rfl) (be_bm rfl (pe_bm PySem.F.plainAttrs_str PySem.F.slot_str_find PySem.F.type_str_find mt_find3 (be_var 0 (pv 0)) (ba_p (ba_cons be_str (ba_cons (be_var 1 (pv 1)) ba_nil)))) dm_find3)))
 (bss_cons (bs_if (bt_cmp op_ltO (dopb_of do_ord) (be_var 3 (pv 3)) (bp_d be_int) rfl) (bss_one bs_no) bss_nil)
 (bss_cons (bs_if (bt_w (bw_or (bt_not (bt_tru rfl (bp_d (bd_n (bn_callC (c_is_line T) rfl hgd hr (by decide) rfl (bv_cons (be_sl rfl (be_var 0 (pv 0)) (bo_some (be_var 1 (pv 1))) (bo_some (be_var 3 (pv 3)))) bv_nil)))))) (bw_or1 (bt_cmp (op_eqAll (hu64 hr)) (dopb_of do_eq) (be_cb (pe_callB call_len rfl T.f_len bt_len (ba_one (bp_own 2 (pv 2)))) dc_len) (bp_d (be_g T.g_MAX_LINES rfl)) rfl)))) (bss_one bs_no) bss_nil)
 (bss_cons (bs_app (ps_expr (pe_bm PySem.F.plainAttrs_list PySem.F.slot_list_append PySem.F.type_list_append mt_append (pv 2) (pa_cons (be_sl rfl (be_var 0 (pv 0)) (bo_some (be_var 1 (pv 1))) (bo_some (be_var 3 (pv 3)))) pa_nil))))
 (bss_one (bs_asg (ps_set (i := 1) nd rfl (by first | exact Or.inl rfl | exact Or.inr rfl) (be_bin op_addAll (dop_of do_add) (be_var 3 (pv 3)) (bp_d be_int)))))))))))
 (bss_one (bs_ret (be_cb (pe_callTy call_tuple_of rfl T.f_tuple bt_tuple (ba_one (bp_own 2 (pv 2)))) dc_tuple)))))
abbrev N_is_name : List Str := ["value", "sign"]
theorem sc_is_name : FnScope N_is_name ["value"] (defScope s_is_name) := fnScope_k (by decide +kernel)
theorem c_is_name (T : Tx K mg) : Cal false P w K cl0 mg base 1 "is_name" ["value"] m_is_name :=
  calN T.d_is_name (fun _ _ _ _ _ _ us hl => match us, hl with | [_], _ => rfl) sc_is_name rfl (by decide) fun f cdv A outer s H E hgd hr => by
  have nd := sc_is_name.nd
  exact (bss_cons (bs_if (bt_w (bw_or (bt_not (bt_tru rfl (bp_d (be_isi rfl (pe_callB call_isi rfl T.f_isinstance bt_isinstance (pa_cons (bp_own 0 (pv 0)) (pa_cons (pe_bltn rfl T.f_str bt_str rfl) pa_nil))))))) (bw_or (bt_not (bt_chain (dopb_of do_ord) (dopb_of do_ord) (pt_chain op_leO op_leO be_int (be_cb (pe_callB call_len rfl T.f_len bt_len (ba_one (bp_own 0 (pv 0)))) dc_len) (be_g T.g_MAX_NAME rfl)))) (bw_or1 (bt_cmp (op_ninAll (hu65 hr)) (dopb_of do_nin) (be_ix ix_seq (dop_of do_ix) (be_var 0 (pv 0)) (bp_d be_int) (fun _ _ => rfl)) (bp_d (be_g T.g_LETTERS rfl)) rfl))))) (bss_one (bs_ret be_bl)) bss_nil)
 (bss_one (bs_ret (be_cb (pe_callB (cr_all rfl) rfl T.f_all bt_all (ba_one (bp_d (bd_n (bn_comp (tg_name 1) (by decide) (pe_lc (own := [("sign", 1)]) rfl nd (bi_any rfl (be_var 0 (pv 0))) (blkOk_by (own := [("sign", 1)]) (N := N_is_name) (sc := defScope s_is_name) (by decide +kernel)) (fun _ _ _ _ _ => (pg_name (i := 1) nd rfl (by first | exact Or.inl rfl | exact Or.inr rfl))) (fun _ _ _ _ _ => bts_nil) (fun _ _ _ _ _ => (be_or rfl (be_cmp (op_inAll (hu65 hr)) (dopb_of do_in) (be_var 1 (pv 1)) (bp_d (be_g T.g_LETTERS rfl)) rfl) (pe_one (be_cmp (op_eqAll (hu64 hr)) (dopb_of do_eq) (be_var 1 (pv 1)) (bp_d be_str) rfl)))))))))) dc_all))))
abbrev N_head_of : List Str := ["line", "at", "name", "colon", "value", "sign"]
theorem sc_head_of : FnScope N_head_of ["line", "at"] (defScope s_head_of) := fnScope_k (by decide +kernel)
theorem c_head_of (T : Tx K mg) : Cal false P w K cl0 mg base 2 "head_of" ["line", "at"] m_head_of :=
  calN T.d_head_of (fun _ _ _ _ _ _ us hl => match us, hl with | [_, _], _ => rfl) sc_head_of rfl (by decide) fun f cdv A outer s H E hgd hr => by
  have nd := sc_head_of.nd
  exact (bss_cons (bs_tup (tg_tup (tgs_cons (tg_name 2) (tgs_cons (tg_name 3) (tgs_cons (tg_name 4) tgs_nil))) rfl) (ps_asg (be_bm rfl (pe_bm PySem.F.plainAttrs_str PySem.F.slot_str_partition PySem.F.type_str_partition mt_partition (be_var 0 (pv 0)) (ba_one (bp_d be_str))) dm_partition) (pg_tup rfl (pgs_cons (pg_name (i := 2) nd rfl (by first | exact Or.inl rfl | exact Or.inr rfl)) (pgs_cons (pg_name (i := 3) nd rfl (by first | exact Or.inl rfl | exact Or.inr rfl)) (pgs_cons (pg_name (i := 4) nd rfl (by first | exact Or.inl rfl | exact Or.inr rfl)) pgs_nil))))))
 (bss_cons (bs_asg (ps_set (i := 2) nd rfl (by first | exact Or.inl rfl | exact Or.inr rfl) (be_bm rfl (pe_bm PySem.F.plainAttrs_str PySem.F.slot_str_join PySem.F.type_str_join mt_join be_str (ba_one (bp_d (bd_n (bn_comp (tg_name 5) (by decide) (pe_lc (own := [("sign", 5)]) rfl nd (bi_any rfl (be_var 2 (pv 2))) (blkOk_by (own := [("sign", 5)]) (N := N_head_of) (sc := defScope s_head_of) (by decide +kernel)) (fun _ _ _ _ _ => (pg_name (i := 5) nd rfl (by first | exact Or.inl rfl | exact Or.inr rfl))) (fun _ _ _ _ _ => bts_nil) (fun _ _ _ _ _ => (be_if (bt_cmp (op_inAll (hu65 hr)) (dopb_of do_in) (be_var 5 (pv 5)) (bp_d (be_g T.g_GREAT rfl)) rfl) (be_ix ix_seq (dop_of do_ix) (be_g T.g_LETTERS rfl) (bp_d (be_bm rfl (pe_bm PySem.F.plainAttrs_str PySem.F.slot_str_index PySem.F.type_str_index mt_sindex (be_g T.g_GREAT rfl) (ba_one (bp_own 5 (pv 5)))) dm_sindex)) (fun _ _ => rfl)) (be_var 5 (pv 5)))))))))) dm_join)))
 (bss_cons (bs_if (bt_w (bw_or (bt_cmp (op_eqAll (hu64 hr)) (dopb_of do_eq) (be_var 3 (pv 3)) (bp_d be_str) rfl) (bw_or1 (bt_not (bt_tru rfl (bp_d (bd_n (bn_callC (c_is_name T) rfl hgd hr (by decide) rfl (bv_cons (be_var 2 (pv 2)) bv_nil))))))))) (bss_one bs_no) bss_nil)
 (bss_one (bs_ret (be_tup (ba_cons (be_var 2 (pv 2)) (ba_cons (be_bm rfl (pe_bm PySem.F.plainAttrs_str PySem.F.slot_str_strip PySem.F.type_str_strip mt_stripChars (be_var 4 (pv 4)) (ba_one (bp_d be_str))) dm_stripC) ba_nil))))))))
abbrev N_is_value : List Str := ["value"]
theorem sc_is_value : FnScope N_is_value ["value"] (defScope s_is_value) := fnScope_k (by decide +kernel)
theorem c_is_value (T : Tx K mg) : Cal false P w K cl0 mg base 2 "is_value" ["value"] m_is_value :=
  calN T.d_is_value (fun _ _ _ _ _ _ us hl => match us, hl with | [_], _ => rfl) sc_is_value rfl (by decide) fun f cdv A outer s H E hgd hr => by
  have nd := sc_is_value.nd
  exact (bss_one (bs_ret (be_and rfl (bd_n (bn_callC (c_is_line T) rfl hgd hr (by decide) rfl (bv_cons (be_var 0 (pv 0)) bv_nil))) (pe_one (be_cmp (op_eqAll (hu64 hr)) (dopb_of do_eq) (be_var 0 (pv 0)) (bp_d (be_bm rfl (pe_bm PySem.F.plainAttrs_str PySem.F.slot_str_strip PySem.F.type_str_strip mt_stripChars (be_var 0 (pv 0)) (ba_one (bp_d be_str))) dm_stripC)) rfl)))))
abbrev N_read : List Str := ["text", "heads", "at", "end", "line"]
theorem sc_read : FnScope N_read ["text"] (defScope s_read) := fnScope_k (by decide +kernel)
theorem c_read (T : Tx K mg) : Cal false P w K cl0 mg base 3 "read" ["text"] m_read :=
  calN T.d_read (fun _ _ _ _ _ _ us hl => match us, hl with | [_], _ => rfl) sc_read rfl (by decide) fun f cdv A outer s H E hgd hr => by
  have nd := sc_read.nd
  exact (bss_cons (bs_if (bt_w (bw_or (bt_not (bt_tru rfl (bp_d (be_isi rfl (pe_callB call_isi rfl T.f_isinstance bt_isinstance (pa_cons (bp_own 0 (pv 0)) (pa_cons (pe_bltn rfl T.f_str bt_str rfl) pa_nil))))))) (bw_or1 (bt_cmp op_gtO (dopb_of do_ord) (be_cb (pe_callB call_len rfl T.f_len bt_len (ba_one (bp_own 0 (pv 0)))) dc_len) (bp_d (be_g T.g_MAX_TEXT rfl)) rfl)))) (bss_one bs_no) bss_nil)
 (bss_cons (bs_asgN (ps_set (i := 1) nd rfl (by first | exact Or.inl rfl | exact Or.inr rfl) (bn_lst ba_nil)))
 (bss_cons (bs_asg (ps_set (i := 2) nd rfl (by first | exact Or.inl rfl | exact Or.inr rfl) be_int))
 (bss_cons (bs_while 100000 (ps_while PassesOwn.never (bt_tru rfl (bp_d be_bl)) (bss_cons (bs_asg (ps_set (i := 3) nd rfl (by first | exact Or.inl rfl | exact Or.inr rfl) (be_bm rfl (pe_bm PySem.F.plainAttrs_str PySem.F.slot_str_find PySem.F.type_str_find mt_find3 (be_var 0 (pv 0)) (ba_p (ba_cons be_str (ba_cons (be_var 2 (pv 2)) ba_nil)))) dm_find3)))
 (bss_cons (bs_if (bt_cmp op_ltO (dopb_of do_ord) (be_var 3 (pv 3)) (bp_d be_int) rfl) (bss_one bs_no) bss_nil)
 (bss_cons (bs_asg (ps_set (i := 4) nd rfl (by first | exact Or.inl rfl | exact Or.inr rfl) (be_sl rfl (be_var 0 (pv 0)) (bo_some (be_var 2 (pv 2))) (bo_some (be_var 3 (pv 3))))))
 (bss_cons (bs_if (bt_cmp (op_eqAll (hu64 hr)) (dopb_of do_eq) (be_var 4 (pv 4)) (bp_d be_str) rfl) (bss_one bs_break) bss_nil)
 (bss_cons (bs_if (bt_not (bt_tru rfl (bp_d (bd_n (bn_callC (c_is_line T) rfl hgd hr (by decide) rfl (bv_cons (be_var 4 (pv 4)) bv_nil)))))) (bss_one bs_no) bss_nil)
 (bss_cons (bs_if (bt_cmp (op_eqAll (hu64 hr)) (dopb_of do_eq) (be_ix ix_seq (dop_of do_ix) (be_var 4 (pv 4)) (bp_d be_int) (fun _ _ => rfl)) (bp_d be_str) rfl) (bss_cons (bs_if (bt_w (bw_or (bt_not (bt_tru rfl (bp_own 1 (pv 1)))) (bw_or1 (bt_cmp (op_eqAll (hu64 hr)) (dopb_of do_eq) (be_bm rfl (pe_bm PySem.F.plainAttrs_str PySem.F.slot_str_strip PySem.F.type_str_strip mt_stripChars (be_var 4 (pv 4)) (ba_one (bp_d be_str))) dm_stripC) (bp_d be_str) rfl)))) (bss_one bs_no) bss_nil)
 (bss_one (bs_setIx (ps_asg (be_tup (ba_cons (be_ix ix_seq (dop_of do_ix) (be_ixO ix_seq do_ix (pv 1) (be_neg be_int) (fun _ _ => rfl)) (bp_d be_int) (fun _ _ => rfl)) (ba_cons (be_bm rfl (pe_bm PySem.F.plainAttrs_str PySem.F.slot_str_strip PySem.F.type_str_strip mt_stripChars (be_bin op_addAll (dop_of do_add) (be_bin op_addAll (dop_of do_add) (be_ix ix_seq (dop_of do_ix) (be_ixO ix_seq do_ix (pv 1) (be_neg be_int) (fun _ _ => rfl)) (bp_d be_int) (fun _ _ => rfl)) (bp_d be_str)) (bp_d (be_bm rfl (pe_bm PySem.F.plainAttrs_str PySem.F.slot_str_strip PySem.F.type_str_strip mt_stripChars (be_var 4 (pv 4)) (ba_one (bp_d be_str))) dm_stripC))) (ba_one (bp_d be_str))) dm_stripC) ba_nil))) (pg_sub (pv 1) (be_neg be_int) set_list))))) (bss_one (bs_app (ps_expr (pe_bm PySem.F.plainAttrs_list PySem.F.slot_list_append PySem.F.type_list_append mt_append (pv 1) (pa_cons (bd_n (bn_callC (c_head_of T) rfl hgd hr (by decide) rfl (bv_cons (be_var 4 (pv 4)) (bv_cons (be_var 2 (pv 2)) bv_nil)))) pa_nil))))))
 (bss_cons (bs_if (bt_w (bw_or (bt_not (bt_tru rfl (bp_d (bd_n (bn_callC (c_is_value T) rfl hgd hr (by decide) rfl (bv_cons (be_ix ix_seq (dop_of do_ix) (be_ixO ix_seq do_ix (pv 1) (be_neg be_int) (fun _ _ => rfl)) (bp_d be_int) (fun _ _ => rfl)) bv_nil)))))) (bw_or1 (bt_cmp op_gtO (dopb_of do_ord) (be_cb (pe_callB call_len rfl T.f_len bt_len (ba_one (bp_own 1 (pv 1)))) dc_len) (bp_d (be_g T.g_MAX_HEADS rfl)) rfl)))) (bss_one bs_no) bss_nil)
 (bss_one (bs_asg (ps_set (i := 2) nd rfl (by first | exact Or.inl rfl | exact Or.inr rfl) (be_bin op_addAll (dop_of do_add) (be_var 3 (pv 3)) (bp_d be_int))))))))))))))
 (bss_one (bs_ret (be_tup (ba_cons (be_cb (pe_callTy call_tuple_of rfl T.f_tuple bt_tuple (ba_one (bp_own 1 (pv 1)))) dc_tuple) (ba_cons (bd_n (bn_callC (c_body_of T) rfl hgd hr (by decide) rfl (bv_cons (be_var 0 (pv 0)) (bv_cons (be_bin op_addAll (dop_of do_add) (be_var 3 (pv 3)) (bp_d be_int)) bv_nil)))) ba_nil)))))))))
abbrev N_check_letter : List Str := ["letter", "part", "heads", "body", "head", "line"]
theorem sc_check_letter : FnScope N_check_letter ["letter"] (defScope s_check_letter) := fnScope_k (by decide +kernel)
theorem c_check_letter (T : Tx K mg) : Cal false P w K cl0 mg base 3 "check_letter" ["letter"] m_check_letter :=
  calN T.d_check_letter (fun _ _ _ _ _ _ us hl => match us, hl with | [_], _ => rfl) sc_check_letter rfl (by decide) fun f cdv A outer s H E hgd hr => by
  have nd := sc_check_letter.nd
  exact (bss_cons (bs_if (bt_w (bw_or (bt_not (bt_tru rfl (bp_d (be_isi rfl (pe_callB call_isi rfl T.f_isinstance bt_isinstance (pa_cons (bp_own 0 (pv 0)) (pa_cons (pe_bltn rfl T.f_tuple bt_tuple rfl) pa_nil))))))) (bw_or (bt_cmp (op_neAll (hu64 hr)) (dopb_of do_ne) (be_cb (pe_callB call_len rfl T.f_len bt_len (ba_one (bp_own 0 (pv 0)))) dc_len) (bp_d be_int) rfl) (bw_or1 (bt_not (bt_tru rfl (bp_d (be_cb (pe_callB (cr_all rfl) rfl T.f_all bt_all (ba_one (bp_d (bd_n (bn_comp (tg_name 1) (by decide) (pe_lc (own := [("part", 1)]) rfl nd (bi_any rfl (be_var 0 (pv 0))) (blkOk_by (own := [("part", 1)]) (N := N_check_letter) (sc := defScope s_check_letter) (by decide +kernel)) (fun _ _ _ _ _ => (pg_name (i := 1) nd rfl (by first | exact Or.inl rfl | exact Or.inr rfl))) (fun _ _ _ _ _ => bts_nil) (fun _ _ _ _ _ => (be_isi rfl (pe_callB call_isi rfl T.f_isinstance bt_isinstance (pa_cons (bp_own 1 (pv 1)) (pa_cons (pe_bltn rfl T.f_tuple bt_tuple rfl) pa_nil))))))))))) dc_all)))))))) (bss_one bs_no) bss_nil)
 (bss_cons (bs_tup (tg_tup (tgs_cons (tg_name 2) (tgs_cons (tg_name 3) tgs_nil)) rfl) (ps_asg (be_var 0 (pv 0)) (pg_tup rfl (pgs_cons (pg_name (i := 2) nd rfl (by first | exact Or.inl rfl | exact Or.inr rfl)) (pgs_cons (pg_name (i := 3) nd rfl (by first | exact Or.inl rfl | exact Or.inr rfl)) pgs_nil)))))
 (bss_cons (bs_if (bt_cmp op_gtO (dopb_of do_ord) (be_cb (pe_callB call_len rfl T.f_len bt_len (ba_one (bp_own 2 (pv 2)))) dc_len) (bp_d (be_g T.g_MAX_HEADS rfl)) rfl) (bss_one bs_no) bss_nil)
 (bss_cons (bs_for (tg_name 4) (ps_for PassesOwn.never rfl (bi_any rfl (be_var 2 (pv 2))) (pg_name (i := 4) nd rfl (by first | exact Or.inl rfl | exact Or.inr rfl)) (bss_one (bs_if (bt_w (bw_or (bt_not (bt_tru rfl (bp_d (be_isi rfl (pe_callB call_isi rfl T.f_isinstance bt_isinstance (pa_cons (bp_own 4 (pv 4)) (pa_cons (pe_bltn rfl T.f_tuple bt_tuple rfl) pa_nil))))))) (bw_or (bt_cmp (op_neAll (hu64 hr)) (dopb_of do_ne) (be_cb (pe_callB call_len rfl T.f_len bt_len (ba_one (bp_own 4 (pv 4)))) dc_len) (bp_d be_int) rfl) (bw_or (bt_not (bt_tru rfl (bp_d (bd_n (bn_callC (c_is_name T) rfl hgd hr (by decide) rfl (bv_cons (be_ix ix_seq (dop_of do_ix) (be_var 4 (pv 4)) (bp_d be_int) (fun _ _ => rfl)) bv_nil)))))) (bw_or1 (bt_not (bt_tru rfl (bp_d (bd_n (bn_callC (c_is_value T) rfl hgd hr (by decide) rfl (bv_cons (be_ix ix_seq (dop_of do_ix) (be_var 4 (pv 4)) (bp_d be_int) (fun _ _ => rfl)) bv_nil))))))))))) (bss_one bs_no) bss_nil))))
 (bss_cons (bs_if (bt_cmp op_gtO (dopb_of do_ord) (be_cb (pe_callB call_len rfl T.f_len bt_len (ba_one (bp_own 3 (pv 3)))) dc_len) (bp_d (be_g T.g_MAX_LINES rfl)) rfl) (bss_one bs_no) bss_nil)
 (bss_one (bs_if (bt_not (bt_tru rfl (bp_d (be_cb (pe_callB (cr_all rfl) rfl T.f_all bt_all (ba_one (bp_d (bd_n (bn_comp (tg_name 5) (by decide) (pe_lc (own := [("line", 5)]) rfl nd (bi_any rfl (be_var 3 (pv 3))) (blkOk_by (own := [("line", 5)]) (N := N_check_letter) (sc := defScope s_check_letter) (by decide +kernel)) (fun _ _ _ _ _ => (pg_name (i := 5) nd rfl (by first | exact Or.inl rfl | exact Or.inr rfl))) (fun _ _ _ _ _ => bts_nil) (fun _ _ _ _ _ => (bd_n (bn_callC (c_is_line T) rfl hgd hr (by decide) rfl (bv_cons (be_var 5 (pv 5)) bv_nil)))))))))) dc_all)))) (bss_one bs_no) bss_nil)))))))
abbrev N_text_of : List Str := ["letter", "rows", "name", "value"]
theorem sc_text_of : FnScope N_text_of ["letter"] (defScope s_text_of) := fnScope_k (by decide +kernel)
theorem c_text_of (T : Tx K mg) : Cal false P w K cl0 mg base 1 "text_of" ["letter"] m_text_of :=
  calN T.d_text_of (fun _ _ _ _ _ _ us hl => match us, hl with | [_], _ => rfl) sc_text_of rfl (by decide) fun f cdv A outer s H E hgd hr => by
  have nd := sc_text_of.nd
  exact (bss_cons (bs_asg (ps_set (i := 1) nd rfl (by first | exact Or.inl rfl | exact Or.inr rfl) (be_bin op_addAll (dop_of do_add) (be_bin op_addAll (dop_of do_add) (bd_n (bn_comp (tg_tup (tgs_cons (tg_name 2) (tgs_cons (tg_name 3) tgs_nil)) rfl) (by decide) (pe_lc (own := [("name", 2), ("value", 3)]) rfl nd (bi_any rfl (be_ix ix_seq (dop_of do_ix) (be_var 0 (pv 0)) (bp_d be_int) (fun _ _ => rfl))) (blkOk_by (own := [("name", 2), ("value", 3)]) (N := N_text_of) (sc := defScope s_text_of) (by decide +kernel)) (fun _ _ _ _ _ => (pg_tup rfl (pgs_cons (pg_name (i := 2) nd rfl (by first | exact Or.inl rfl | exact Or.inr rfl)) (pgs_cons (pg_name (i := 3) nd rfl (by first | exact Or.inl rfl | exact Or.inr rfl)) pgs_nil)))) (fun _ _ _ _ _ => bts_nil) (fun _ _ _ _ _ => (be_bin op_addAll (dop_of do_add) (be_bin op_addAll (dop_of do_add) (be_var 2 (pv 2)) (bp_d be_str)) (bp_own 3 (pv 3))))))) (bp_d (bd_n (bn_lst (ba_cons be_str ba_nil))))) (bp_d (bd_n (bn_cb (pe_callTy call_list_of rfl T.f_list bt_list (ba_one (bp_d (be_ix ix_seq (dop_of do_ix) (be_var 0 (pv 0)) (bp_d be_int) (fun _ _ => rfl))))) nc_list))))))
 (bss_one (bs_ret (be_bin op_addAll (dop_of do_add) (be_bm rfl (pe_bm PySem.F.plainAttrs_str PySem.F.slot_str_join PySem.F.type_str_join mt_join be_str (ba_one (bp_own 1 (pv 1)))) dm_join) (bp_d be_str)))))
abbrev N_write : List Str := ["letter"]
theorem sc_write : FnScope N_write ["letter"] (defScope s_write) := fnScope_k (by decide +kernel)
theorem c_write (T : Tx K mg) : Cal false P w K cl0 mg base 4 "write" ["letter"] m_write :=
  calN T.d_write (fun _ _ _ _ _ _ us hl => match us, hl with | [_], _ => rfl) sc_write rfl (by decide) fun f cdv A outer s H E hgd hr => by
  have nd := sc_write.nd
  exact (bss_cons (bs_exprN (bn_callC (c_check_letter T) rfl hgd hr (by decide) rfl (bv_cons (be_var 0 (pv 0)) bv_nil)))
 (bss_one (bs_retNew (bn_callC (c_text_of T) rfl hgd hr (by decide) rfl (bv_cons (be_var 0 (pv 0)) bv_nil)))))
abbrev N_size_in : List Str := ["letter", "total", "name", "value", "line"]
theorem sc_size_in : FnScope N_size_in ["letter"] (defScope s_size_in) := fnScope_k (by decide +kernel)
theorem c_size_in (T : Tx K mg) : Cal false P w K cl0 mg base 1 "size_in" ["letter"] m_size_in :=
  calN T.d_size_in (fun _ _ _ _ _ _ us hl => match us, hl with | [_], _ => rfl) sc_size_in rfl (by decide) fun f cdv A outer s H E hgd hr => by
  have nd := sc_size_in.nd
  exact (bss_cons (bs_asg (ps_set (i := 1) nd rfl (by first | exact Or.inl rfl | exact Or.inr rfl) (be_cb (pe_callB (cr_sum rfl) rfl T.f_sum bt_sum (ba_one (bp_d (bd_n (bn_comp (tg_tup (tgs_cons (tg_name 2) (tgs_cons (tg_name 3) tgs_nil)) rfl) (by decide) (pe_lc (own := [("name", 2), ("value", 3)]) rfl nd (bi_any rfl (be_ix ix_seq (dop_of do_ix) (be_var 0 (pv 0)) (bp_d be_int) (fun _ _ => rfl))) (blkOk_by (own := [("name", 2), ("value", 3)]) (N := N_size_in) (sc := defScope s_size_in) (by decide +kernel)) (fun _ _ _ _ _ => (pg_tup rfl (pgs_cons (pg_name (i := 2) nd rfl (by first | exact Or.inl rfl | exact Or.inr rfl)) (pgs_cons (pg_name (i := 3) nd rfl (by first | exact Or.inl rfl | exact Or.inr rfl)) pgs_nil)))) (fun _ _ _ _ _ => bts_nil) (fun _ _ _ _ _ => (be_bin op_addAll (dop_of do_add) (be_bin op_addAll (dop_of do_add) (be_cb (pe_callB call_len rfl T.f_len bt_len (ba_one (bp_own 2 (pv 2)))) dc_len) (bp_d (be_cb (pe_callB call_len rfl T.f_len bt_len (ba_one (bp_own 3 (pv 3)))) dc_len))) (bp_d be_int))))))))) dc_sum)))
 (bss_one (bs_ret (be_bin op_addAll (dop_of do_add) (be_bin op_addAll (dop_of do_add) (be_var 1 (pv 1)) (bp_d (be_cb (pe_callB (cr_sum rfl) rfl T.f_sum bt_sum (ba_one (bp_d (bd_n (bn_comp (tg_name 4) (by decide) (pe_lc (own := [("line", 4)]) rfl nd (bi_any rfl (be_ix ix_seq (dop_of do_ix) (be_var 0 (pv 0)) (bp_d be_int) (fun _ _ => rfl))) (blkOk_by (own := [("line", 4)]) (N := N_size_in) (sc := defScope s_size_in) (by decide +kernel)) (fun _ _ _ _ _ => (pg_name (i := 4) nd rfl (by first | exact Or.inl rfl | exact Or.inr rfl))) (fun _ _ _ _ _ => bts_nil) (fun _ _ _ _ _ => (be_bin op_addAll (dop_of do_add) (be_cb (pe_callB call_len rfl T.f_len bt_len (ba_one (bp_own 4 (pv 4)))) dc_len) (bp_d be_int))))))))) dc_sum))) (bp_d be_int)))))
abbrev N_size_of : List Str := ["letter"]
theorem sc_size_of : FnScope N_size_of ["letter"] (defScope s_size_of) := fnScope_k (by decide +kernel)
theorem c_size_of (T : Tx K mg) : Cal false P w K cl0 mg base 4 "size_of" ["letter"] m_size_of :=
  calN T.d_size_of (fun _ _ _ _ _ _ us hl => match us, hl with | [_], _ => rfl) sc_size_of rfl (by decide) fun f cdv A outer s H E hgd hr => by
  have nd := sc_size_of.nd
  exact (bss_cons (bs_exprN (bn_callC (c_check_letter T) rfl hgd hr (by decide) rfl (bv_cons (be_var 0 (pv 0)) bv_nil)))
 (bss_one (bs_retNew (bn_callC (c_size_in T) rfl hgd hr (by decide) rfl (bv_cons (be_var 0 (pv 0)) bv_nil)))))
abbrev N_check_name : List Str := ["name"]
theorem sc_check_name : FnScope N_check_name ["name"] (defScope s_check_name) := fnScope_k (by decide +kernel)
theorem c_check_name (T : Tx K mg) : Cal false P w K cl0 mg base 2 "check_name" ["name"] m_check_name :=
  calN T.d_check_name (fun _ _ _ _ _ _ us hl => match us, hl with | [_], _ => rfl) sc_check_name rfl (by decide) fun f cdv A outer s H E hgd hr => by
  have nd := sc_check_name.nd
  exact (bss_one (bs_if (bt_not (bt_tru rfl (bp_d (bd_n (bn_callC (c_is_name T) rfl hgd hr (by decide) rfl (bv_cons (be_var 0 (pv 0)) bv_nil)))))) (bss_one bs_no) bss_nil))
abbrev N_without_heads : List Str := ["letter", "name", "head"]
theorem sc_without_heads : FnScope N_without_heads ["letter", "name"] (defScope s_without_heads) := fnScope_k (by decide +kernel)
theorem c_without_heads (T : Tx K mg) : Cal false P w K cl0 mg base 4 "without_heads" ["letter", "name"] m_without_heads :=
  calN T.d_without_heads (fun _ _ _ _ _ _ us hl => match us, hl with | [_, _], _ => rfl) sc_without_heads rfl (by decide) fun f cdv A outer s H E hgd hr => by
  have nd := sc_without_heads.nd
  exact (bss_cons (bs_exprN (bn_callC (c_check_letter T) rfl hgd hr (by decide) rfl (bv_cons (be_var 0 (pv 0)) bv_nil)))
 (bss_cons (bs_exprN (bn_callC (c_check_name T) rfl hgd hr (by decide) rfl (bv_cons (be_var 1 (pv 1)) bv_nil)))
 (bss_one (bs_ret (be_tup (ba_cons (be_cb (pe_callTy call_tuple_of rfl T.f_tuple bt_tuple (ba_one (bp_d (bd_n (bn_comp (tg_name 2) (by decide) (pe_lc (own := [("head", 2)]) rfl nd (bi_any rfl (be_ix ix_seq (dop_of do_ix) (be_var 0 (pv 0)) (bp_d be_int) (fun _ _ => rfl))) (blkOk_by (own := [("head", 2)]) (N := N_without_heads) (sc := defScope s_without_heads) (by decide +kernel)) (fun _ _ _ _ _ => (pg_name (i := 2) nd rfl (by first | exact Or.inl rfl | exact Or.inr rfl))) (fun _ _ _ _ _ => (pts_one (bt_cmp (op_neAll (hu64 hr)) (dopb_of do_ne) (be_ix ix_seq (dop_of do_ix) (be_var 2 (pv 2)) (bp_d be_int) (fun _ _ => rfl)) (bp_own 1 (pv 1)) rfl))) (fun _ _ _ _ _ => (be_var 2 (pv 2))))))))) dc_tuple) (ba_cons (be_ix ix_seq (dop_of do_ix) (be_var 0 (pv 0)) (bp_d be_int) (fun _ _ => rfl)) ba_nil)))))))
abbrev N_with_head : List Str := ["letter", "name", "value"]
theorem sc_with_head : FnScope N_with_head ["letter", "name", "value"] (defScope s_with_head) := fnScope_k (by decide +kernel)
theorem c_with_head (T : Tx K mg) : Cal false P w K cl0 mg base 4 "with_head" ["letter", "name", "value"] m_with_head :=
  calN T.d_with_head (fun _ _ _ _ _ _ us hl => match us, hl with | [_, _, _], _ => rfl) sc_with_head rfl (by decide) fun f cdv A outer s H E hgd hr => by
  have nd := sc_with_head.nd
  exact (bss_cons (bs_exprN (bn_callC (c_check_letter T) rfl hgd hr (by decide) rfl (bv_cons (be_var 0 (pv 0)) bv_nil)))
 (bss_cons (bs_exprN (bn_callC (c_check_name T) rfl hgd hr (by decide) rfl (bv_cons (be_var 1 (pv 1)) bv_nil)))
 (bss_cons (bs_if (bt_not (bt_tru rfl (bp_d (bd_n (bn_callC (c_is_value T) rfl hgd hr (by decide) rfl (bv_cons (be_var 2 (pv 2)) bv_nil)))))) (bss_one bs_no) bss_nil)
 (bss_cons (bs_if (bt_cmp (op_eqAll (hu64 hr)) (dopb_of do_eq) (be_cb (pe_callB call_len rfl T.f_len bt_len (ba_one (bp_d (be_ix ix_seq (dop_of do_ix) (be_var 0 (pv 0)) (bp_d be_int) (fun _ _ => rfl))))) dc_len) (bp_d (be_g T.g_MAX_HEADS rfl)) rfl) (bss_one bs_no) bss_nil)
 (bss_one (bs_ret (be_tup (ba_cons (be_bin op_addAll (dop_of do_add) (be_tup (ba_cons (be_tup (ba_cons (be_var 1 (pv 1)) (ba_cons (be_var 2 (pv 2)) ba_nil))) ba_nil)) (bp_d (be_ix ix_seq (dop_of do_ix) (be_var 0 (pv 0)) (bp_d be_int) (fun _ _ => rfl)))) (ba_cons (be_ix ix_seq (dop_of do_ix) (be_var 0 (pv 0)) (bp_d be_int) (fun _ _ => rfl)) ba_nil)))))))))
abbrev N_values_in : List Str := ["letter", "name", "own", "value"]
theorem sc_values_in : FnScope N_values_in ["letter", "name"] (defScope s_values_in) := fnScope_k (by decide +kernel)
theorem c_values_in (T : Tx K mg) : Cal false P w K cl0 mg base 1 "values_in" ["letter", "name"] m_values_in :=
  calN T.d_values_in (fun _ _ _ _ _ _ us hl => match us, hl with | [_, _], _ => rfl) sc_values_in rfl (by decide) fun f cdv A outer s H E hgd hr => by
  have nd := sc_values_in.nd
  exact (bss_one (bs_retNew (bn_comp (tg_tup (tgs_cons (tg_name 2) (tgs_cons (tg_name 3) tgs_nil)) rfl) (by decide) (pe_lc (own := [("own", 2), ("value", 3)]) rfl nd (bi_any rfl (be_ix ix_seq (dop_of do_ix) (be_var 0 (pv 0)) (bp_d be_int) (fun _ _ => rfl))) (blkOk_by (own := [("own", 2), ("value", 3)]) (N := N_values_in) (sc := defScope s_values_in) (by decide +kernel)) (fun _ _ _ _ _ => (pg_tup rfl (pgs_cons (pg_name (i := 2) nd rfl (by first | exact Or.inl rfl | exact Or.inr rfl)) (pgs_cons (pg_name (i := 3) nd rfl (by first | exact Or.inl rfl | exact Or.inr rfl)) pgs_nil)))) (fun _ _ _ _ _ => (pts_one (bt_cmp (op_eqAll (hu64 hr)) (dopb_of do_eq) (be_var 2 (pv 2)) (bp_own 1 (pv 1)) rfl))) (fun _ _ _ _ _ => (be_var 3 (pv 3)))))))
abbrev N_values_of : List Str := ["letter", "name"]
theorem sc_values_of : FnScope N_values_of ["letter", "name"] (defScope s_values_of) := fnScope_k (by decide +kernel)
theorem c_values_of (T : Tx K mg) : Cal false P w K cl0 mg base 4 "values_of" ["letter", "name"] m_values_of :=
  calN T.d_values_of (fun _ _ _ _ _ _ us hl => match us, hl with | [_, _], _ => rfl) sc_values_of rfl (by decide) fun f cdv A outer s H E hgd hr => by
  have nd := sc_values_of.nd
  exact (bss_cons (bs_exprN (bn_callC (c_check_letter T) rfl hgd hr (by decide) rfl (bv_cons (be_var 0 (pv 0)) bv_nil)))
 (bss_cons (bs_exprN (bn_callC (c_check_name T) rfl hgd hr (by decide) rfl (bv_cons (be_var 1 (pv 1)) bv_nil)))
 (bss_one (bs_ret (be_cb (pe_callTy call_tuple_of rfl T.f_tuple bt_tuple (ba_one (bp_d (bd_n (bn_callC (c_values_in T) rfl hgd hr (by decide) rfl (bv_cons (be_var 0 (pv 0)) (bv_cons (be_var 1 (pv 1)) bv_nil))))))) dc_tuple)))))
abbrev N_first_value : List Str := ["letter", "name", "found"]
theorem sc_first_value : FnScope N_first_value ["letter", "name"] (defScope s_first_value) := fnScope_k (by decide +kernel)
theorem c_first_value (T : Tx K mg) : Cal false P w K cl0 mg base 2 "first_value" ["letter", "name"] m_first_value :=
  calN T.d_first_value (fun _ _ _ _ _ _ us hl => match us, hl with | [_, _], _ => rfl) sc_first_value rfl (by decide) fun f cdv A outer s H E hgd hr => by
  have nd := sc_first_value.nd
  exact (bss_cons (bs_asg (ps_set (i := 2) nd rfl (by first | exact Or.inl rfl | exact Or.inr rfl) (bd_n (bn_callC (c_values_in T) rfl hgd hr (by decide) rfl (bv_cons (be_var 0 (pv 0)) (bv_cons (be_var 1 (pv 1)) bv_nil))))))
 (bss_one (bs_ret (be_if (bt_tru rfl (bp_own 2 (pv 2))) (be_ix ix_seq (dop_of do_ix) (be_var 2 (pv 2)) (bp_d be_int) (fun _ _ => rfl)) be_non))))
abbrev N_value_of : List Str := ["letter", "name"]
theorem sc_value_of : FnScope N_value_of ["letter", "name"] (defScope s_value_of) := fnScope_k (by decide +kernel)
theorem c_value_of (T : Tx K mg) : Cal false P w K cl0 mg base 4 "value_of" ["letter", "name"] m_value_of :=
  calN T.d_value_of (fun _ _ _ _ _ _ us hl => match us, hl with | [_, _], _ => rfl) sc_value_of rfl (by decide) fun f cdv A outer s H E hgd hr => by
  have nd := sc_value_of.nd
  exact (bss_cons (bs_exprN (bn_callC (c_check_letter T) rfl hgd hr (by decide) rfl (bv_cons (be_var 0 (pv 0)) bv_nil)))
 (bss_cons (bs_exprN (bn_callC (c_check_name T) rfl hgd hr (by decide) rfl (bv_cons (be_var 1 (pv 1)) bv_nil)))
 (bss_one (bs_retNew (bn_callC (c_first_value T) rfl hgd hr (by decide) rfl (bv_cons (be_var 0 (pv 0)) (bv_cons (be_var 1 (pv 1)) bv_nil)))))))
abbrev N_law : List Str := ["script", "state", "turn", "letter", "text", "name", "own", "other", "value", "rest", "head", "some", "loose"]
theorem sc_law : FnScope N_law ["script"] (defScope s_law) := fnScope_k (by decide +kernel)
-- the law behind its first statement, in the law's own context
theorem w_law (T : Tx K mg) {f : Addr} {cdv : Value} {A : Around} {outer : List PySem.Env} {s : Shared} {H : Hp} {E : XK} (hgd : A.guards = some []) (hr : Room 4 (A.deeper (envOfC "law" (defScope s_law) s.heap.objs.size f cdv))) :
    PSs (cxOf CX0 P w K mg base N_law "law" (defScope s_law) f cdv A outer s H E).nox (defBody s_law).tail (tsS ⟨K, cl0, [], none⟩ b_law) := by
  have nd := sc_law.nd
  exact (bss_cons (bs_for (tg_name 2) (ps_for PassesOwn.never rfl (bi_range1 (pi_range1 rfl T.f_range (ba_cons be_int ba_nil))) (pg_name (i := 2) nd rfl (by first | exact Or.inl rfl | exact Or.inr rfl)) (bss_cons (bs_asg (ps_set (i := 3) nd rfl (by first | exact Or.inl rfl | exact Or.inr rfl) (bd_n (bn_callC (c__law_letter T) rfl hgd hr (by decide) rfl (bv_slot (pv 1) (bv_cons (bd_n (bn_callC (c__law_pick T) rfl hgd hr (by decide) rfl (bv_slot (pv 1) (bv_cons (bd_n (bn_lst (ba_cons be_int (ba_cons be_int (ba_cons be_int (ba_cons (be_if (bt_cmp (op_eqAll (hu64 hr)) (dopb_of do_eq) (be_var 2 (pv 2)) (bp_d be_int) rfl) be_int be_int) ba_nil)))))) bv_nil)))) bv_nil))))))
 (bss_cons (bs_asg (ps_set (i := 4) nd rfl (by first | exact Or.inl rfl | exact Or.inr rfl) (bd_n (bn_callC (c__law_text T) rfl hgd hr (by decide) rfl (bv_cons (be_var 3 (pv 3)) bv_nil)))))
 (bss_cons (bs_if (bt_not (bt_tru rfl (bp_d (bd_n (bn_callC (c__law_same T) rfl hgd hr (by decide) rfl (bv_cons (bd_n (bn_lst (ba_cons (bd_n (bn_callC (c_check_letter T) rfl hgd hr (by decide) rfl (bv_cons (be_var 3 (pv 3)) bv_nil))) (ba_cons (bd_n (bn_callC (c_write T) rfl hgd hr (by decide) rfl (bv_cons (be_var 3 (pv 3)) bv_nil))) (ba_cons (bd_n (bn_callC (c_size_of T) rfl hgd hr (by decide) rfl (bv_cons (be_var 3 (pv 3)) bv_nil))) ba_nil))))) (bv_cons (bd_n (bn_lst (ba_cons be_non (ba_cons (be_var 4 (pv 4)) (ba_cons (be_cb (pe_callB call_len rfl T.f_len bt_len (ba_one (bp_own 4 (pv 4)))) dc_len) ba_nil))))) bv_nil))))))) (bss_one (bs_ret be_bl)) bss_nil)
 (bss_cons (bs_for (tg_name 5) (ps_for PassesOwn.never rfl (bi_any rfl (bd_n (bn_lst (ba_cons be_str (ba_cons be_str (ba_cons be_str (ba_cons be_str ba_nil))))))) (pg_name (i := 5) nd rfl (by first | exact Or.inl rfl | exact Or.inr rfl)) (bss_cons (bs_asg (setLc_d (tg_tup (tgs_cons (tg_name 7) (tgs_cons (tg_name 8) tgs_nil)) rfl) (by decide) (ps_setLc (i := 6) (own := [("other", 7), ("value", 8)]) rfl nd rfl rfl (sw_true rfl rfl rfl (by decide +kernel)) (bi_any rfl (be_ix ix_seq (dop_of do_ix) (be_var 3 (pv 3)) (bp_d be_int) (fun _ _ => rfl))) (blkOk_by (own := [("other", 7), ("value", 8)]) (N := N_law) (sc := defScope s_law) (by decide +kernel)) (fun _ _ _ _ _ => (pg_tup rfl (pgs_cons (pg_name (i := 7) nd rfl (by first | exact Or.inl rfl | exact Or.inr rfl)) (pgs_cons (pg_name (i := 8) nd rfl (by first | exact Or.inl rfl | exact Or.inr rfl)) pgs_nil)))) (fun _ _ _ _ _ => (pts_one (bt_cmp (op_eqAll (hu64 hr)) (dopb_of do_eq) (be_var 7 (pv 7)) (bp_own 5 (pv 5)) rfl))) (fun _ _ _ _ _ => (be_var 8 (pv 8))))))
 (bss_cons (bs_if (bt_not (bt_tru rfl (bp_d (bd_n (bn_callC (c__law_same T) rfl hgd hr (by decide) rfl (bv_cons (bd_n (bn_lst (ba_cons (bd_n (bn_callC (c_values_of T) rfl hgd hr (by decide) rfl (bv_cons (be_var 3 (pv 3)) (bv_cons (be_var 5 (pv 5)) bv_nil)))) (ba_cons (bd_n (bn_callC (c_value_of T) rfl hgd hr (by decide) rfl (bv_cons (be_var 3 (pv 3)) (bv_cons (be_var 5 (pv 5)) bv_nil)))) ba_nil)))) (bv_cons (bd_n (bn_lst (ba_cons (be_cb (pe_callTy call_tuple_of rfl T.f_tuple bt_tuple (ba_one (bp_own 6 (pv 6)))) dc_tuple) (ba_cons (be_if (bt_tru rfl (bp_own 6 (pv 6))) (be_ix ix_seq (dop_of do_ix) (be_var 6 (pv 6)) (bp_d be_int) (fun _ _ => rfl)) be_non) ba_nil)))) bv_nil))))))) (bss_one (bs_ret be_bl)) bss_nil)
 (bss_cons (bs_asg (ps_set (i := 9) nd rfl (by first | exact Or.inl rfl | exact Or.inr rfl) (be_tup (ba_cons (be_cb (pe_callTy call_tuple_of rfl T.f_tuple bt_tuple (ba_one (bp_d (bd_n (bn_comp (tg_name 10) (by decide) (pe_lc (own := [("head", 10)]) rfl nd (bi_any rfl (be_ix ix_seq (dop_of do_ix) (be_var 3 (pv 3)) (bp_d be_int) (fun _ _ => rfl))) (blkOk_by (own := [("head", 10)]) (N := N_law) (sc := defScope s_law) (by decide +kernel)) (fun _ _ _ _ _ => (pg_name (i := 10) nd rfl (by first | exact Or.inl rfl | exact Or.inr rfl))) (fun _ _ _ _ _ => (pts_one (bt_cmp (op_neAll (hu64 hr)) (dopb_of do_ne) (be_ix ix_seq (dop_of do_ix) (be_var 10 (pv 10)) (bp_d be_int) (fun _ _ => rfl)) (bp_own 5 (pv 5)) rfl))) (fun _ _ _ _ _ => (be_var 10 (pv 10))))))))) dc_tuple) (ba_cons (be_ix ix_seq (dop_of do_ix) (be_var 3 (pv 3)) (bp_d be_int) (fun _ _ => rfl)) ba_nil)))))
 (bss_one (bs_if (bt_not (bt_tru rfl (bp_d (bd_n (bn_callC (c__law_same T) rfl hgd hr (by decide) rfl (bv_cons (bd_n (bn_callC (c_without_heads T) rfl hgd hr (by decide) rfl (bv_cons (be_var 3 (pv 3)) (bv_cons (be_var 5 (pv 5)) bv_nil)))) (bv_cons (be_var 9 (pv 9)) bv_nil))))))) (bss_one (bs_ret be_bl)) bss_nil)))))))
 (bss_cons (bs_if (bt_w (bw_and (bt_cmp op_ltO (dopb_of do_ord) (be_cb (pe_callB call_len rfl T.f_len bt_len (ba_one (bp_d (be_ix ix_seq (dop_of do_ix) (be_var 3 (pv 3)) (bp_d be_int) (fun _ _ => rfl))))) dc_len) (bp_d be_int) rfl) (bw_and1 (bt_not (bt_tru rfl (bp_d (bd_n (bn_callC (c__law_same T) rfl hgd hr (by decide) rfl (bv_cons (bd_n (bn_callC (c_with_head T) rfl hgd hr (by decide) rfl (bv_cons (be_var 3 (pv 3)) (bv_cons be_str (bv_cons be_str bv_nil))))) (bv_cons (be_tup (ba_cons (be_bin op_addAll (dop_of do_add) (be_tup (ba_cons (be_tup (ba_cons be_str (ba_cons be_str ba_nil))) ba_nil)) (bp_d (be_ix ix_seq (dop_of do_ix) (be_var 3 (pv 3)) (bp_d be_int) (fun _ _ => rfl)))) (ba_cons (be_ix ix_seq (dop_of do_ix) (be_var 3 (pv 3)) (bp_d be_int) (fun _ _ => rfl)) ba_nil))) bv_nil)))))))))) (bss_one (bs_ret be_bl)) bss_nil)
 (bss_cons (bs_asg (ps_set (i := 11) nd rfl (by first | exact Or.inl rfl | exact Or.inr rfl) (bd_n (bn_callC (c__law_short T) rfl hgd hr (by decide) rfl (bv_cons (be_var 3 (pv 3)) bv_nil)))))
 (bss_cons (bs_asg (ps_set (i := 12) nd rfl (by first | exact Or.inl rfl | exact Or.inr rfl) (bd_n (bn_callC (c__law_loose T) rfl hgd hr (by decide) rfl (bv_slot (pv 1) (bv_cons (be_var 11 (pv 11)) bv_nil))))))
 (bss_one (bs_if (bt_not (bt_tru rfl (bp_d (bd_n (bn_callC (c__law_same T) rfl hgd hr (by decide) rfl (bv_cons (bd_n (bn_lst (ba_cons (bd_n (bn_callC (c_read T) rfl hgd hr (by decide) rfl (bv_cons (bd_n (bn_callC (c__law_text T) rfl hgd hr (by decide) rfl (bv_cons (be_var 11 (pv 11)) bv_nil))) bv_nil))) (ba_cons (bd_n (bn_callC (c_read T) rfl hgd hr (by decide) rfl (bv_cons (be_var 12 (pv 12)) bv_nil))) ba_nil)))) (bv_cons (bd_n (bn_lst (ba_cons (be_var 11 (pv 11)) (ba_cons (be_var 11 (pv 11)) ba_nil)))) bv_nil))))))) (bss_one (bs_ret be_bl)) bss_nil)))))))))))
 (bss_one (bs_retNew (bn_callC (c__law_same T) rfl hgd hr (by decide) rfl (bv_cons (bd_n (bn_callC (c_read T) rfl hgd hr (by decide) rfl (bv_cons be_str bv_nil))) (bv_cons (be_tup (ba_cons (be_tup (ba_cons (be_tup (ba_cons be_str (ba_cons be_str ba_nil))) (ba_cons (be_tup (ba_cons be_str (ba_cons be_str ba_nil))) ba_nil))) (ba_cons (be_tup (ba_cons be_str (ba_cons be_str ba_nil))) ba_nil))) bv_nil))))))
theorem sc__law_start : FnScope N_start ["script"] (defScope s__law_start) := fnScope_k (by decide +kernel)
theorem c__law_start (T : Tx K mg) : CalS P w K mg base := calS T.d__law_start (fun _ _ _ _ _ _ us hl => match us, hl with | [_], _ => rfl) sc__law_start fun f cdv A outer s H E => by
  have nd := sc__law_start.nd
  exact pss_cons (ps_set (i := 1) nd rfl (Or.inl rfl) pe_int) (pss_cons (ps_for PassesOwn.never rfl (pi_list (pv 0)) (pg_name (i := 2) nd rfl (Or.inl rfl))
    (pss_one (ps_set (i := 1) nd rfl (Or.inl rfl) (pe_op op_add (pe_op op_mod (pe_callTy call_int1 rfl T.f_int bt_int (pa_cons (pe_op op_add (pe_op op_mul (pv 1) pe_int) (pv 2)) pa_nil)) pe_int) pe_int))))
    (pss_one (ps_ret (pe_lst (pa_cons (pe_callTy call_list_of rfl T.f_list bt_list (pa_cons (pv 0) pa_nil)) (pa_cons pe_int (pa_cons pe_int (pa_cons (pv 1) pa_nil))))))))
/-- THE PLAIN LAW -/
abbrev Plain : Prop := ∀ (ns : List Int) (s : Int), ns.length ≤ 63 → 1 ≤ s → s ≤ 2147483629 → ∃ e, b_law (.un :: .l (stD ns 0 0 s) :: List.replicate 11 .un) = .rt (.d (.bool true)) e
theorem law_g (T : Tx K mg) (main : Plain) : ∃ (f : Addr) (fd : FuncData), mg "law" = some (.ref f) ∧ Fun K "law" "law" s_law f fd ∧ FnG P w K mg base CX0 5 f fd ["script"] (spLaw K) :=
  lawG (M := 11) (cls := cl0) T.d_law sc_law rfl (fun f cdv A outer s H E hgd hr => by
    have nd := sc_law.nd
    exact pss_cons (ps_set (i := 1) nd rfl (by first | exact Or.inl rfl | exact Or.inr rfl) (pe_start (c__law_start T) rfl hgd hr (by decide) rfl (pa_cons (pv 0) pa_nil))) (w_law T hgd hr)) main
end
abbrev R : PySem.W.OpenRow := PySem.W.OpenLaw.row PySem.Challenge.rw_oncehome_k01_letters
abbrev hk : PySem.W.Hook := hookM 5 fa mo fn
def ob (s : PySem.W.SharedT) : Al := obsM 5 fa mo fn (HandSHeadRun.getT s)
theorem ob_eq (s : PySem.W.SharedT) : ob s = hk.obs s.abs := obsM_eq (HandSHeadRun.getT_eq s)
def loose : List Str := (["__name__", "MailError", "TextError", "LetterError", "ArgumentError", "MAX_HEADS", "MAX_LINES", "MAX_SIGNS", "MAX_NAME", "MAX_TEXT", "LETTERS", "GREAT", "is_name", "is_line", "is_value", "check_letter", "check_name", "values_in", "values_of", "value_of"] : List Str) ++ (["first_value", "with_head", "without_heads", "size_in", "size_of", "text_of", "write", "read", "head_of", "body_of", "_law_start", "_law_draw", "_law_pick", "_law_same", "_law_letter", "_law_text", "_law_great", "_law_loose", "_law_short"] : List Str)
theorem run (w : World) : HandSHeadRun.RunEq R (PySem.W.view R.prog [41]) hk ob 4000 loose w := by
  intro os
  kernel_rfl
theorem facts (main : Plain) {P : Program} {w : World} {K : Fg} {h : Heap} {mg : Str → Option Value} {f : Addr} (X : K.In h) (G : h.Ns mainGlobals mg) (hfa : mg ("law" : Str) = some (.ref f)) (c : SaysM fa mo fn K) :
    ∃ fd : FuncData, (∀ (s : Shared) (v : Value), BindsTo s fd ⟨[v], []⟩ [("script", v)]) ∧ ∀ base : Heap, K.In base → base.Ns mainGlobals mg → FnG P w K mg base CX0 5 f fd ["script"] (spLaw K) := by
  have T := tx_of X G c
  obtain ⟨f', fd, h1, h2⟩ := T.d_law.ex
  have e := hfa.symm.trans h1
  cases e
  refine ⟨fd, fun s v => ?_, fun base _ _ => ?_⟩
  · obtain ⟨oc, od, kV, doc, pm, an, cdv, ct, osl, rfl, lk, hcd⟩ := h2.ex
    exact .of_eq rfl
  · obtain ⟨f2, fd2, g1, g2, g3⟩ := law_g (P := P) (w := w) (base := base) T main
    have e := h1.symm.trans g1
    cases e
    obtain ⟨_, _, _, _, _, _, _, _, _, rfl, lk, _⟩ := h2.ex
    obtain ⟨_, _, _, _, _, _, _, _, _, rfl, lk2, _⟩ := g2.ex
    rw [lk] at lk2
    cases lk2
    exact g3
end K01
open PySem PySem.W PySem.Calls PyProof.Rows in
theorem K01.holds_of (main : K01.Plain) : PySem.Challenge.rw_oncehome_k01_letters.Holds := by
  w_on; o_law
  refine HandSHeadRun.head_any (r := OpenLaw.row PySem.Challenge.rw_oncehome_k01_letters) (q := view (OpenLaw.row PySem.Challenge.rw_oncehome_k01_letters).prog [41]) (H := K01.hk) (ob := K01.ob) (M := 4000) (loose := K01.loose) (d := HandSHeadRun.topDef (OpenLaw.row PySem.Challenge.rw_oncehome_k01_letters).prog 41) (kwd := []) K01.ob_eq
    (by kernel_rfl) (fun s => by kernel_rfl) K01.run (by kernel_rfl) (by kernel_rfl) (by kernel_rfl) (by rfl) (by first | assumption | decide +kernel) (by decide +kernel) ⟨rfl, rfl, rfl, rfl, rfl, by decide +kernel⟩ ?hw ?hc
  case hw => w_witness2
  case hc =>
    refine BV.walkGE (l := PySem.Challenge.rw_oncehome_k01_letters) (k := 5) (x := "script") rfl (by kernel_rfl) ⟨rfl, by decide, by decide⟩ ?F
    intro w mg fa h Y G hmg0
    obtain ⟨K, KX, c⟩ := Y
    have hmg : mg ("law" : PySem.Str) = some (.ref fa) := by
      have e : (HandSHeadRun.topDef (OpenLaw.row PySem.Challenge.rw_oncehome_k01_letters).prog 41).name = ("law" : PySem.Str) := by kernel_rfl
      rw [← e]
      exact hmg0
    obtain ⟨fd, hb, hF⟩ := K01.facts main (P := (PySem.Challenge.rw_oncehome_k01_letters).prog) (w := w) KX G hmg c
    exact ⟨K, fd, KX, hb, hF⟩
namespace K01
end K01

/-! law_k01_letters: the plain law. -/
namespace K01
open PySem PySem.Spec PyProof.Rows L2 BV
abbrev T := List Nat
def okLine (l : T) : Bool := decide (l.length ≤ 200) && l.all fun c => decide (32 ≤ c ∧ c ≤ 126 ∧ c ≠ 37)
theorem isline {l : T} (h : okLine l = true) : m_is_line [.d (.str (S l))] = .ok (.d (.bool true)) [.un] := by
  unfold okLine at h
  rw [Bool.and_eq_true, decide_eq_true_eq, List.all_eq_true] at h
  obtain ⟨h1, h2⟩ := h
  refine eqF (wF_run rfl ?_)
  simp only [b_is_line, r_lft, r_var, r_own, r_c, r_bin, r_binO, r_cmp, r_tcmp, r_tcmpO, r_tru, r_tand, r_tor, r_tnot, r_eif, r_nif, r_and, r_or, r_not, r_neg, r_cb, r_ncb, r_bm, r_bm0, r_tup, r_lst, r_anil, r_acons, r_aone, r_vnil, r_vcons, r_vslot, r_sl, r_onone, r_osome, r_chain, r_tchain, r_isi, r_iany, r_rg1, r_rg2, r_yes, r_frz, r_call, r_F, r_sif, r_snil, r_pass, r_break, r_cont, r_no, r_ret, r_retN, r_retNone, r_drop, r_dropN, r_asg, r_asgN, r_aug, r_stup, r_app, r_ext, r_setix, r_for, r_retOwn, wE_nComp, wE_ok, wS_nx, wS_rt, wS_bk, wS_ct, wS_seq, wV_d, wV_l, wO_d, wO_l, wL_some, wL_ite, wL_map, cB_true, cB_false, cB_not, wZ_d, wZ_l, wTk_some, wT_some, tk_nil, tk_v, tk_s, putA, mask, d1, d2, tyD, okS_d, okS_l, lOf, asI, Option.isSome_some, Option.getD_some, Option.map_some, List.getElem?_cons_zero, List.getElem?_cons_succ, List.set_cons_zero, List.set_cons_succ, List.replicate_succ, List.replicate_zero, List.cons_append, List.nil_append, List.not_mem_nil, List.mem_cons, or_false, not_false_eq_true, true_and, decide_true, if_true, if_false, reduceIte, Nat.reduceEqDiff, Nat.reduceAdd, Nat.reduceSub, Nat.reduceLeDiff, Nat.reduceLT, Int.reduceLT, Int.reduceLE, Int.reduceAdd, Int.reduceSub, Int.reduceEq, Int.reduceNeg, Nat.reduceMul, decide_false, Bool.not_true, Bool.not_false, and_true, true_or, or_true, Int.reduceMul, Int.reduceToNat, Nat.reducePow, Int.reducePow, Nat.not_lt_zero, l_addI, l_addS, l_addL, l_addT, l_sub, l_div, l_mod, l_mulI, l_mulS, l_mulL, l_eqI, l_eqS, l_neI, l_neS, l_ltI, l_leI, l_gtI, l_geI, l_ltS, l_leS, l_gtS, l_geS, l_truI, l_truB, l_truL, l_truT, l_truN, l_truS, l_lenS, l_lenL, l_lenT, l_intI, l_absI, l_tupL, l_tupT, l_itL, l_itT, l_itS, l_rg1, l_rg2, l_ixL, l_ixT, l_ixS, at_0, at_1, at_2, at_3, set_0, set_1, set_2, set_3, List.length_cons, List.length_nil, Int.cast_ofNat_Int, Int.natCast_one, tgD_n, tgD_t, tgA_nil, tgA_cons, Option.bind_some, l_isSS, l_isST, l_isSL, l_isSI, l_isTT, l_isTS, l_isTL, l_isTI, l_isII, l_isBI, l_isLL, l_ord, S_len]
  refine ⟨by omega, cB_dec (fun z => by omega) fun _ => ?_⟩
  simp only [r_lft, r_var, r_own, r_c, r_bin, r_binO, r_cmp, r_tcmp, r_tcmpO, r_tru, r_tand, r_tor, r_tnot, r_eif, r_nif, r_and, r_or, r_not, r_neg, r_cb, r_ncb, r_bm, r_bm0, r_tup, r_lst, r_anil, r_acons, r_aone, r_vnil, r_vcons, r_vslot, r_sl, r_onone, r_osome, r_chain, r_tchain, r_isi, r_iany, r_rg1, r_rg2, r_yes, r_frz, r_call, r_F, r_sif, r_snil, r_pass, r_break, r_cont, r_no, r_ret, r_retN, r_retNone, r_drop, r_dropN, r_asg, r_asgN, r_aug, r_stup, r_app, r_ext, r_setix, r_for, r_retOwn, wE_nComp, wE_ok, wS_nx, wS_rt, wS_bk, wS_ct, wS_seq, wV_d, wV_l, wO_d, wO_l, wL_some, wL_ite, wL_map, cB_true, cB_false, cB_not, wZ_d, wZ_l, wTk_some, wT_some, tk_nil, tk_v, tk_s, putA, mask, d1, d2, tyD, okS_d, okS_l, lOf, asI, Option.isSome_some, Option.getD_some, Option.map_some, List.getElem?_cons_zero, List.getElem?_cons_succ, List.set_cons_zero, List.set_cons_succ, List.replicate_succ, List.replicate_zero, List.cons_append, List.nil_append, List.not_mem_nil, List.mem_cons, or_false, not_false_eq_true, true_and, decide_true, if_true, if_false, reduceIte, Nat.reduceEqDiff, Nat.reduceAdd, Nat.reduceSub, Nat.reduceLeDiff, Nat.reduceLT, Int.reduceLT, Int.reduceLE, Int.reduceAdd, Int.reduceSub, Int.reduceEq, Int.reduceNeg, Nat.reduceMul, decide_false, Bool.not_true, Bool.not_false, and_true, true_or, or_true, Int.reduceMul, Int.reduceToNat, Nat.reducePow, Int.reducePow, Nat.not_lt_zero, l_addI, l_addS, l_addL, l_addT, l_sub, l_div, l_mod, l_mulI, l_mulS, l_mulL, l_eqI, l_eqS, l_neI, l_neS, l_ltI, l_leI, l_gtI, l_geI, l_ltS, l_leS, l_gtS, l_geS, l_truI, l_truB, l_truL, l_truT, l_truN, l_truS, l_lenS, l_lenL, l_lenT, l_intI, l_absI, l_tupL, l_tupT, l_itL, l_itT, l_itS, l_rg1, l_rg2, l_ixL, l_ixT, l_ixS, at_0, at_1, at_2, at_3, set_0, set_1, set_2, set_3, List.length_cons, List.length_nil, Int.cast_ofNat_Int, Int.natCast_one, tgD_n, tgD_t, tgA_nil, tgA_cons, Option.bind_some, l_isSS, l_isST, l_isSL, l_isSI, l_isTT, l_isTS, l_isTL, l_isTI, l_isII, l_isBI, l_isLL, l_ord, S_len]
  refine wE_comp ([.d (.str (S l)), .un]) (fun _ => some (.bool true)) rfl ?_ (fun x hx => ?_) ?_
  · simp only [List.length_map, Array.length_toList, List.size_toArray]; omega
  · obtain ⟨c, hc, rfl⟩ := List.mem_map.mp hx
    have h3 := of_decide_eq_true (h2 c (by simpa using hc))
    have e1 : sLt ⟨#[c]⟩ ⟨#[32]⟩ = false := by rw [sLt_one]; exact decide_eq_false (by omega)
    have e2 : sLt ⟨#[126]⟩ ⟨#[c]⟩ = false := by rw [sLt_one]; exact decide_eq_false (by omega)
    have e3 : decide ((c : Int) = 37) = false := decide_eq_false (by omega)
    refine ⟨_, rfl, ?_⟩
    simp only [r_lft, r_var, r_own, r_c, r_bin, r_binO, r_cmp, r_tcmp, r_tcmpO, r_tru, r_tand, r_tor, r_tnot, r_eif, r_nif, r_and, r_or, r_not, r_neg, r_cb, r_ncb, r_bm, r_bm0, r_tup, r_lst, r_anil, r_acons, r_aone, r_vnil, r_vcons, r_vslot, r_sl, r_onone, r_osome, r_chain, r_tchain, r_isi, r_iany, r_rg1, r_rg2, r_yes, r_frz, r_call, r_F, r_sif, r_snil, r_pass, r_break, r_cont, r_no, r_ret, r_retN, r_retNone, r_drop, r_dropN, r_asg, r_asgN, r_aug, r_stup, r_app, r_ext, r_setix, r_for, r_retOwn, wE_nComp, wE_ok, wS_nx, wS_rt, wS_bk, wS_ct, wS_seq, wV_d, wV_l, wO_d, wO_l, wL_some, wL_ite, wL_map, cB_true, cB_false, cB_not, wZ_d, wZ_l, wTk_some, wT_some, tk_nil, tk_v, tk_s, putA, mask, d1, d2, tyD, okS_d, okS_l, lOf, asI, Option.isSome_some, Option.getD_some, Option.map_some, List.getElem?_cons_zero, List.getElem?_cons_succ, List.set_cons_zero, List.set_cons_succ, List.replicate_succ, List.replicate_zero, List.cons_append, List.nil_append, List.not_mem_nil, List.mem_cons, or_false, not_false_eq_true, true_and, decide_true, if_true, if_false, reduceIte, Nat.reduceEqDiff, Nat.reduceAdd, Nat.reduceSub, Nat.reduceLeDiff, Nat.reduceLT, Int.reduceLT, Int.reduceLE, Int.reduceAdd, Int.reduceSub, Int.reduceEq, Int.reduceNeg, Nat.reduceMul, decide_false, Bool.not_true, Bool.not_false, and_true, true_or, or_true, Int.reduceMul, Int.reduceToNat, Nat.reducePow, Int.reducePow, Nat.not_lt_zero, l_addI, l_addS, l_addL, l_addT, l_sub, l_div, l_mod, l_mulI, l_mulS, l_mulL, l_eqI, l_eqS, l_neI, l_neS, l_ltI, l_leI, l_gtI, l_geI, l_ltS, l_leS, l_gtS, l_geS, l_truI, l_truB, l_truL, l_truT, l_truN, l_truS, l_lenS, l_lenL, l_lenT, l_intI, l_absI, l_tupL, l_tupT, l_itL, l_itT, l_itS, l_rg1, l_rg2, l_ixL, l_ixT, l_ixS, at_0, at_1, at_2, at_3, set_0, set_1, set_2, set_3, List.length_cons, List.length_nil, Int.cast_ofNat_Int, Int.natCast_one, tgD_n, tgD_t, tgA_nil, tgA_cons, Option.bind_some, l_isSS, l_isST, l_isSL, l_isSI, l_isTT, l_isTS, l_isTL, l_isTI, l_isII, l_isBI, l_isLL, l_ord, ch_sp, ch_ti, e1, e2, e3]
    rfl
  · (try simp only [r_lft, r_var, r_own, r_c, r_bin, r_binO, r_cmp, r_tcmp, r_tcmpO, r_tru, r_tand, r_tor, r_tnot, r_eif, r_nif, r_and, r_or, r_not, r_neg, r_cb, r_ncb, r_bm, r_bm0, r_tup, r_lst, r_anil, r_acons, r_aone, r_vnil, r_vcons, r_vslot, r_sl, r_onone, r_osome, r_chain, r_tchain, r_isi, r_iany, r_rg1, r_rg2, r_yes, r_frz, r_call, r_F, r_sif, r_snil, r_pass, r_break, r_cont, r_no, r_ret, r_retN, r_retNone, r_drop, r_dropN, r_asg, r_asgN, r_aug, r_stup, r_app, r_ext, r_setix, r_for, r_retOwn, wE_nComp, wE_ok, wS_nx, wS_rt, wS_bk, wS_ct, wS_seq, wV_d, wV_l, wO_d, wO_l, wL_some, wL_ite, wL_map, cB_true, cB_false, cB_not, wZ_d, wZ_l, wTk_some, wT_some, tk_nil, tk_v, tk_s, putA, mask, d1, d2, tyD, okS_d, okS_l, lOf, asI, Option.isSome_some, Option.getD_some, Option.map_some, List.getElem?_cons_zero, List.getElem?_cons_succ, List.set_cons_zero, List.set_cons_succ, List.replicate_succ, List.replicate_zero, List.cons_append, List.nil_append, List.not_mem_nil, List.mem_cons, or_false, not_false_eq_true, true_and, decide_true, if_true, if_false, reduceIte, Nat.reduceEqDiff, Nat.reduceAdd, Nat.reduceSub, Nat.reduceLeDiff, Nat.reduceLT, Int.reduceLT, Int.reduceLE, Int.reduceAdd, Int.reduceSub, Int.reduceEq, Int.reduceNeg, Nat.reduceMul, decide_false, Bool.not_true, Bool.not_false, and_true, true_or, or_true, Int.reduceMul, Int.reduceToNat, Nat.reducePow, Int.reducePow, Nat.not_lt_zero, l_addI, l_addS, l_addL, l_addT, l_sub, l_div, l_mod, l_mulI, l_mulS, l_mulL, l_eqI, l_eqS, l_neI, l_neS, l_ltI, l_leI, l_gtI, l_geI, l_ltS, l_leS, l_gtS, l_geS, l_truI, l_truB, l_truL, l_truT, l_truN, l_truS, l_lenS, l_lenL, l_lenT, l_intI, l_absI, l_tupL, l_tupT, l_itL, l_itT, l_itS, l_rg1, l_rg2, l_ixL, l_ixT, l_ixS, at_0, at_1, at_2, at_3, set_0, set_1, set_2, set_3, List.length_cons, List.length_nil, Int.cast_ofNat_Int, Int.natCast_one, tgD_n, tgD_t, tgA_nil, tgA_cons, Option.bind_some, l_isSS, l_isST, l_isSL, l_isSI, l_isTT, l_isTS, l_isTL, l_isTI, l_isII, l_isBI, l_isLL, l_ord])
    rw [all_true (by intro x hx; obtain ⟨y, _, h⟩ := List.mem_filterMap.mp hx; exact (Option.some.inj h).symm)]
    simp only [r_lft, r_var, r_own, r_c, r_bin, r_binO, r_cmp, r_tcmp, r_tcmpO, r_tru, r_tand, r_tor, r_tnot, r_eif, r_nif, r_and, r_or, r_not, r_neg, r_cb, r_ncb, r_bm, r_bm0, r_tup, r_lst, r_anil, r_acons, r_aone, r_vnil, r_vcons, r_vslot, r_sl, r_onone, r_osome, r_chain, r_tchain, r_isi, r_iany, r_rg1, r_rg2, r_yes, r_frz, r_call, r_F, r_sif, r_snil, r_pass, r_break, r_cont, r_no, r_ret, r_retN, r_retNone, r_drop, r_dropN, r_asg, r_asgN, r_aug, r_stup, r_app, r_ext, r_setix, r_for, r_retOwn, wE_nComp, wE_ok, wS_nx, wS_rt, wS_bk, wS_ct, wS_seq, wV_d, wV_l, wO_d, wO_l, wL_some, wL_ite, wL_map, cB_true, cB_false, cB_not, wZ_d, wZ_l, wTk_some, wT_some, tk_nil, tk_v, tk_s, putA, mask, d1, d2, tyD, okS_d, okS_l, lOf, asI, Option.isSome_some, Option.getD_some, Option.map_some, List.getElem?_cons_zero, List.getElem?_cons_succ, List.set_cons_zero, List.set_cons_succ, List.replicate_succ, List.replicate_zero, List.cons_append, List.nil_append, List.not_mem_nil, List.mem_cons, or_false, not_false_eq_true, true_and, decide_true, if_true, if_false, reduceIte, Nat.reduceEqDiff, Nat.reduceAdd, Nat.reduceSub, Nat.reduceLeDiff, Nat.reduceLT, Int.reduceLT, Int.reduceLE, Int.reduceAdd, Int.reduceSub, Int.reduceEq, Int.reduceNeg, Nat.reduceMul, decide_false, Bool.not_true, Bool.not_false, and_true, true_or, or_true, Int.reduceMul, Int.reduceToNat, Nat.reducePow, Int.reducePow, Nat.not_lt_zero]
theorem lower_list : (Str.ofString "abcdefghijklmnopqrstuvwxyz").cps.toList = (List.range 26).map (· + 97) := by decide +kernel
def okName (l : T) : Bool := decide (1 ≤ l.length ∧ l.length ≤ 20) && (decide (97 ≤ l.headD 0 ∧ l.headD 0 ≤ 122) && l.all fun c => decide ((97 ≤ c ∧ c ≤ 122) ∨ c = 45))
theorem in_lower {c : Nat} : c ∈ (Str.ofString "abcdefghijklmnopqrstuvwxyz").cps.toList ↔ 97 ≤ c ∧ c ≤ 122 := by
  rw [lower_list]
  simp only [List.mem_map, List.mem_range]
  exact ⟨fun ⟨a, h, e⟩ => by omega, fun h => ⟨c - 97, by omega, by omega⟩⟩
theorem l_in1 {c : Nat} {b : Str} : dInB (.str ⟨#[c]⟩) (.str b) = some (decide (c ∈ b.cps.toList)) := rfl
theorem l_nin1 {c : Nat} {b : Str} : dNinB (.str ⟨#[c]⟩) (.str b) = some (!decide (c ∈ b.cps.toList)) := rfl
theorem isname {l : T} (h : okName l = true) : m_is_name [.d (.str (S l))] = .ok (.d (.bool true)) [.un] := by
  unfold okName at h
  simp only [Bool.and_eq_true, decide_eq_true_eq, List.all_eq_true] at h
  obtain ⟨h1, h2, h3⟩ := h
  cases l with
  | nil => simp at h1
  | cons c r =>
    rw [List.length_cons] at h1
    have e1 : decide ((1 : Int) ≤ ((r.length + 1 : Nat) : Int)) = true := decide_eq_true (by omega)
    have e2 : decide (((r.length + 1 : Nat) : Int) ≤ 20) = true := decide_eq_true (by omega)
    have e3 : decide (c ∈ (Str.ofString "abcdefghijklmnopqrstuvwxyz").cps.toList) = true := decide_eq_true (in_lower.mpr h2)
    refine eqF (wF_run rfl ?_)
    simp only [b_is_name, r_lft, r_var, r_own, r_c, r_bin, r_binO, r_cmp, r_tcmp, r_tcmpO, r_tru, r_tand, r_tor, r_tnot, r_eif, r_nif, r_and, r_or, r_not, r_neg, r_cb, r_ncb, r_bm, r_bm0, r_tup, r_lst, r_anil, r_acons, r_aone, r_vnil, r_vcons, r_vslot, r_sl, r_onone, r_osome, r_chain, r_tchain, r_isi, r_iany, r_rg1, r_rg2, r_yes, r_frz, r_call, r_F, r_sif, r_snil, r_pass, r_break, r_cont, r_no, r_ret, r_retN, r_retNone, r_drop, r_dropN, r_asg, r_asgN, r_aug, r_stup, r_app, r_ext, r_setix, r_for, r_retOwn, wE_nComp, wE_ok, wS_nx, wS_rt, wS_bk, wS_ct, wS_seq, wV_d, wV_l, wO_d, wO_l, wL_some, wL_ite, wL_map, cB_true, cB_false, cB_not, wZ_d, wZ_l, wTk_some, wT_some, tk_nil, tk_v, tk_s, putA, mask, d1, d2, tyD, okS_d, okS_l, lOf, asI, Option.isSome_some, Option.getD_some, Option.map_some, List.getElem?_cons_zero, List.getElem?_cons_succ, List.set_cons_zero, List.set_cons_succ, List.replicate_succ, List.replicate_zero, List.cons_append, List.nil_append, List.not_mem_nil, List.mem_cons, or_false, not_false_eq_true, true_and, decide_true, if_true, if_false, reduceIte, Nat.reduceEqDiff, Nat.reduceAdd, Nat.reduceSub, Nat.reduceLeDiff, Nat.reduceLT, Int.reduceLT, Int.reduceLE, Int.reduceAdd, Int.reduceSub, Int.reduceEq, Int.reduceNeg, Nat.reduceMul, decide_false, Bool.not_true, Bool.not_false, and_true, true_or, or_true, Int.reduceMul, Int.reduceToNat, Nat.reducePow, Int.reducePow, Nat.not_lt_zero, l_addI, l_addS, l_addL, l_addT, l_sub, l_div, l_mod, l_mulI, l_mulS, l_mulL, l_eqI, l_eqS, l_neI, l_neS, l_ltI, l_leI, l_gtI, l_geI, l_ltS, l_leS, l_gtS, l_geS, l_truI, l_truB, l_truL, l_truT, l_truN, l_truS, l_lenS, l_lenL, l_lenT, l_intI, l_absI, l_tupL, l_tupT, l_itL, l_itT, l_itS, l_rg1, l_rg2, l_ixL, l_ixT, l_ixS, at_0, at_1, at_2, at_3, set_0, set_1, set_2, set_3, List.length_cons, List.length_nil, Int.cast_ofNat_Int, Int.natCast_one, tgD_n, tgD_t, tgA_nil, tgA_cons, Option.bind_some, l_isSS, l_isST, l_isSL, l_isSI, l_isTT, l_isTS, l_isTL, l_isTI, l_isII, l_isBI, l_isLL, l_ord, S_len, e1, e2]
    refine ⟨by omega, by omega, ?_⟩
    simp only [r_lft, r_var, r_own, r_c, r_bin, r_binO, r_cmp, r_tcmp, r_tcmpO, r_tru, r_tand, r_tor, r_tnot, r_eif, r_nif, r_and, r_or, r_not, r_neg, r_cb, r_ncb, r_bm, r_bm0, r_tup, r_lst, r_anil, r_acons, r_aone, r_vnil, r_vcons, r_vslot, r_sl, r_onone, r_osome, r_chain, r_tchain, r_isi, r_iany, r_rg1, r_rg2, r_yes, r_frz, r_call, r_F, r_sif, r_snil, r_pass, r_break, r_cont, r_no, r_ret, r_retN, r_retNone, r_drop, r_dropN, r_asg, r_asgN, r_aug, r_stup, r_app, r_ext, r_setix, r_for, r_retOwn, wE_nComp, wE_ok, wS_nx, wS_rt, wS_bk, wS_ct, wS_seq, wV_d, wV_l, wO_d, wO_l, wL_some, wL_ite, wL_map, cB_true, cB_false, cB_not, wZ_d, wZ_l, wTk_some, wT_some, tk_nil, tk_v, tk_s, putA, mask, d1, d2, tyD, okS_d, okS_l, lOf, asI, Option.isSome_some, Option.getD_some, Option.map_some, List.getElem?_cons_zero, List.getElem?_cons_succ, List.set_cons_zero, List.set_cons_succ, List.replicate_succ, List.replicate_zero, List.cons_append, List.nil_append, List.not_mem_nil, List.mem_cons, or_false, not_false_eq_true, true_and, decide_true, if_true, if_false, reduceIte, Nat.reduceEqDiff, Nat.reduceAdd, Nat.reduceSub, Nat.reduceLeDiff, Nat.reduceLT, Int.reduceLT, Int.reduceLE, Int.reduceAdd, Int.reduceSub, Int.reduceEq, Int.reduceNeg, Nat.reduceMul, decide_false, Bool.not_true, Bool.not_false, and_true, true_or, or_true, Int.reduceMul, Int.reduceToNat, Nat.reducePow, Int.reducePow, Nat.not_lt_zero, l_addI, l_addS, l_addL, l_addT, l_sub, l_div, l_mod, l_mulI, l_mulS, l_mulL, l_eqI, l_eqS, l_neI, l_neS, l_ltI, l_leI, l_gtI, l_geI, l_ltS, l_leS, l_gtS, l_geS, l_truI, l_truB, l_truL, l_truT, l_truN, l_truS, l_lenS, l_lenL, l_lenT, l_intI, l_absI, l_tupL, l_tupT, l_itL, l_itT, l_itS, l_rg1, l_rg2, l_ixL, l_ixT, l_ixS, at_0, at_1, at_2, at_3, set_0, set_1, set_2, set_3, List.length_cons, List.length_nil, Int.cast_ofNat_Int, Int.natCast_one, tgD_n, tgD_t, tgA_nil, tgA_cons, Option.bind_some, l_isSS, l_isST, l_isSL, l_isSI, l_isTT, l_isTS, l_isTL, l_isTI, l_isII, l_isBI, l_isLL, l_ord, l_nin1, e3]
    refine wE_comp ([.d (.str (S (c :: r))), .un]) (fun _ => some (.bool true)) rfl ?_ (fun x hx => ?_) ?_
    · simp only [List.length_map, Array.length_toList, List.size_toArray, List.length_cons]; omega
    · obtain ⟨d, hd, rfl⟩ := List.mem_map.mp hx
      have h4 := h3 d (by simpa using hd)
      refine ⟨_, rfl, ?_⟩
      simp only [r_lft, r_var, r_own, r_c, r_bin, r_binO, r_cmp, r_tcmp, r_tcmpO, r_tru, r_tand, r_tor, r_tnot, r_eif, r_nif, r_and, r_or, r_not, r_neg, r_cb, r_ncb, r_bm, r_bm0, r_tup, r_lst, r_anil, r_acons, r_aone, r_vnil, r_vcons, r_vslot, r_sl, r_onone, r_osome, r_chain, r_tchain, r_isi, r_iany, r_rg1, r_rg2, r_yes, r_frz, r_call, r_F, r_sif, r_snil, r_pass, r_break, r_cont, r_no, r_ret, r_retN, r_retNone, r_drop, r_dropN, r_asg, r_asgN, r_aug, r_stup, r_app, r_ext, r_setix, r_for, r_retOwn, wE_nComp, wE_ok, wS_nx, wS_rt, wS_bk, wS_ct, wS_seq, wV_d, wV_l, wO_d, wO_l, wL_some, wL_ite, wL_map, cB_true, cB_false, cB_not, wZ_d, wZ_l, wTk_some, wT_some, tk_nil, tk_v, tk_s, putA, mask, d1, d2, tyD, okS_d, okS_l, lOf, asI, Option.isSome_some, Option.getD_some, Option.map_some, List.getElem?_cons_zero, List.getElem?_cons_succ, List.set_cons_zero, List.set_cons_succ, List.replicate_succ, List.replicate_zero, List.cons_append, List.nil_append, List.not_mem_nil, List.mem_cons, or_false, not_false_eq_true, true_and, decide_true, if_true, if_false, reduceIte, Nat.reduceEqDiff, Nat.reduceAdd, Nat.reduceSub, Nat.reduceLeDiff, Nat.reduceLT, Int.reduceLT, Int.reduceLE, Int.reduceAdd, Int.reduceSub, Int.reduceEq, Int.reduceNeg, Nat.reduceMul, decide_false, Bool.not_true, Bool.not_false, and_true, true_or, or_true, Int.reduceMul, Int.reduceToNat, Nat.reducePow, Int.reducePow, Nat.not_lt_zero, l_addI, l_addS, l_addL, l_addT, l_sub, l_div, l_mod, l_mulI, l_mulS, l_mulL, l_eqI, l_eqS, l_neI, l_neS, l_ltI, l_leI, l_gtI, l_geI, l_ltS, l_leS, l_gtS, l_geS, l_truI, l_truB, l_truL, l_truT, l_truN, l_truS, l_lenS, l_lenL, l_lenT, l_intI, l_absI, l_tupL, l_tupT, l_itL, l_itT, l_itS, l_rg1, l_rg2, l_ixL, l_ixT, l_ixS, at_0, at_1, at_2, at_3, set_0, set_1, set_2, set_3, List.length_cons, List.length_nil, Int.cast_ofNat_Int, Int.natCast_one, tgD_n, tgD_t, tgA_nil, tgA_cons, Option.bind_some, l_isSS, l_isST, l_isSL, l_isSI, l_isTT, l_isTS, l_isTL, l_isTI, l_isII, l_isBI, l_isLL, l_ord, l_in1]
      refine cB_dec (fun z => ?_) fun z => ?_
      · rw [decide_eq_true z]; exact ⟨rfl, rfl⟩
      · have h5 : d = 45 := h4.resolve_left fun w => z (in_lower.mpr w)
        subst h5
        simp only [r_lft, r_var, r_own, r_c, r_bin, r_binO, r_cmp, r_tcmp, r_tcmpO, r_tru, r_tand, r_tor, r_tnot, r_eif, r_nif, r_and, r_or, r_not, r_neg, r_cb, r_ncb, r_bm, r_bm0, r_tup, r_lst, r_anil, r_acons, r_aone, r_vnil, r_vcons, r_vslot, r_sl, r_onone, r_osome, r_chain, r_tchain, r_isi, r_iany, r_rg1, r_rg2, r_yes, r_frz, r_call, r_F, r_sif, r_snil, r_pass, r_break, r_cont, r_no, r_ret, r_retN, r_retNone, r_drop, r_dropN, r_asg, r_asgN, r_aug, r_stup, r_app, r_ext, r_setix, r_for, r_retOwn, wE_nComp, wE_ok, wS_nx, wS_rt, wS_bk, wS_ct, wS_seq, wV_d, wV_l, wO_d, wO_l, wL_some, wL_ite, wL_map, cB_true, cB_false, cB_not, wZ_d, wZ_l, wTk_some, wT_some, tk_nil, tk_v, tk_s, putA, mask, d1, d2, tyD, okS_d, okS_l, lOf, asI, Option.isSome_some, Option.getD_some, Option.map_some, List.getElem?_cons_zero, List.getElem?_cons_succ, List.set_cons_zero, List.set_cons_succ, List.replicate_succ, List.replicate_zero, List.cons_append, List.nil_append, List.not_mem_nil, List.mem_cons, or_false, not_false_eq_true, true_and, decide_true, if_true, if_false, reduceIte, Nat.reduceEqDiff, Nat.reduceAdd, Nat.reduceSub, Nat.reduceLeDiff, Nat.reduceLT, Int.reduceLT, Int.reduceLE, Int.reduceAdd, Int.reduceSub, Int.reduceEq, Int.reduceNeg, Nat.reduceMul, decide_false, Bool.not_true, Bool.not_false, and_true, true_or, or_true, Int.reduceMul, Int.reduceToNat, Nat.reducePow, Int.reducePow, Nat.not_lt_zero, l_addI, l_addS, l_addL, l_addT, l_sub, l_div, l_mod, l_mulI, l_mulS, l_mulL, l_eqI, l_eqS, l_neI, l_neS, l_ltI, l_leI, l_gtI, l_geI, l_ltS, l_leS, l_gtS, l_geS, l_truI, l_truB, l_truL, l_truT, l_truN, l_truS, l_lenS, l_lenL, l_lenT, l_intI, l_absI, l_tupL, l_tupT, l_itL, l_itT, l_itS, l_rg1, l_rg2, l_ixL, l_ixT, l_ixS, at_0, at_1, at_2, at_3, set_0, set_1, set_2, set_3, List.length_cons, List.length_nil, Int.cast_ofNat_Int, Int.natCast_one, tgD_n, tgD_t, tgA_nil, tgA_cons, Option.bind_some, l_isSS, l_isST, l_isSL, l_isSI, l_isTT, l_isTS, l_isTL, l_isTI, l_isII, l_isBI, l_isLL, l_ord]
        exact ⟨rfl, rfl⟩
    · (try simp only [r_lft, r_var, r_own, r_c, r_bin, r_binO, r_cmp, r_tcmp, r_tcmpO, r_tru, r_tand, r_tor, r_tnot, r_eif, r_nif, r_and, r_or, r_not, r_neg, r_cb, r_ncb, r_bm, r_bm0, r_tup, r_lst, r_anil, r_acons, r_aone, r_vnil, r_vcons, r_vslot, r_sl, r_onone, r_osome, r_chain, r_tchain, r_isi, r_iany, r_rg1, r_rg2, r_yes, r_frz, r_call, r_F, r_sif, r_snil, r_pass, r_break, r_cont, r_no, r_ret, r_retN, r_retNone, r_drop, r_dropN, r_asg, r_asgN, r_aug, r_stup, r_app, r_ext, r_setix, r_for, r_retOwn, wE_nComp, wE_ok, wS_nx, wS_rt, wS_bk, wS_ct, wS_seq, wV_d, wV_l, wO_d, wO_l, wL_some, wL_ite, wL_map, cB_true, cB_false, cB_not, wZ_d, wZ_l, wTk_some, wT_some, tk_nil, tk_v, tk_s, putA, mask, d1, d2, tyD, okS_d, okS_l, lOf, asI, Option.isSome_some, Option.getD_some, Option.map_some, List.getElem?_cons_zero, List.getElem?_cons_succ, List.set_cons_zero, List.set_cons_succ, List.replicate_succ, List.replicate_zero, List.cons_append, List.nil_append, List.not_mem_nil, List.mem_cons, or_false, not_false_eq_true, true_and, decide_true, if_true, if_false, reduceIte, Nat.reduceEqDiff, Nat.reduceAdd, Nat.reduceSub, Nat.reduceLeDiff, Nat.reduceLT, Int.reduceLT, Int.reduceLE, Int.reduceAdd, Int.reduceSub, Int.reduceEq, Int.reduceNeg, Nat.reduceMul, decide_false, Bool.not_true, Bool.not_false, and_true, true_or, or_true, Int.reduceMul, Int.reduceToNat, Nat.reducePow, Int.reducePow, Nat.not_lt_zero, l_addI, l_addS, l_addL, l_addT, l_sub, l_div, l_mod, l_mulI, l_mulS, l_mulL, l_eqI, l_eqS, l_neI, l_neS, l_ltI, l_leI, l_gtI, l_geI, l_ltS, l_leS, l_gtS, l_geS, l_truI, l_truB, l_truL, l_truT, l_truN, l_truS, l_lenS, l_lenL, l_lenT, l_intI, l_absI, l_tupL, l_tupT, l_itL, l_itT, l_itS, l_rg1, l_rg2, l_ixL, l_ixT, l_ixS, at_0, at_1, at_2, at_3, set_0, set_1, set_2, set_3, List.length_cons, List.length_nil, Int.cast_ofNat_Int, Int.natCast_one, tgD_n, tgD_t, tgA_nil, tgA_cons, Option.bind_some, l_isSS, l_isST, l_isSL, l_isSI, l_isTT, l_isTS, l_isTL, l_isTI, l_isII, l_isBI, l_isLL, l_ord])
      rw [all_true (by intro x hx; obtain ⟨y, _, h⟩ := List.mem_filterMap.mp hx; exact (Option.some.inj h).symm)]
      simp only [r_lft, r_var, r_own, r_c, r_bin, r_binO, r_cmp, r_tcmp, r_tcmpO, r_tru, r_tand, r_tor, r_tnot, r_eif, r_nif, r_and, r_or, r_not, r_neg, r_cb, r_ncb, r_bm, r_bm0, r_tup, r_lst, r_anil, r_acons, r_aone, r_vnil, r_vcons, r_vslot, r_sl, r_onone, r_osome, r_chain, r_tchain, r_isi, r_iany, r_rg1, r_rg2, r_yes, r_frz, r_call, r_F, r_sif, r_snil, r_pass, r_break, r_cont, r_no, r_ret, r_retN, r_retNone, r_drop, r_dropN, r_asg, r_asgN, r_aug, r_stup, r_app, r_ext, r_setix, r_for, r_retOwn, wE_nComp, wE_ok, wS_nx, wS_rt, wS_bk, wS_ct, wS_seq, wV_d, wV_l, wO_d, wO_l, wL_some, wL_ite, wL_map, cB_true, cB_false, cB_not, wZ_d, wZ_l, wTk_some, wT_some, tk_nil, tk_v, tk_s, putA, mask, d1, d2, tyD, okS_d, okS_l, lOf, asI, Option.isSome_some, Option.getD_some, Option.map_some, List.getElem?_cons_zero, List.getElem?_cons_succ, List.set_cons_zero, List.set_cons_succ, List.replicate_succ, List.replicate_zero, List.cons_append, List.nil_append, List.not_mem_nil, List.mem_cons, or_false, not_false_eq_true, true_and, decide_true, if_true, if_false, reduceIte, Nat.reduceEqDiff, Nat.reduceAdd, Nat.reduceSub, Nat.reduceLeDiff, Nat.reduceLT, Int.reduceLT, Int.reduceLE, Int.reduceAdd, Int.reduceSub, Int.reduceEq, Int.reduceNeg, Nat.reduceMul, decide_false, Bool.not_true, Bool.not_false, and_true, true_or, or_true, Int.reduceMul, Int.reduceToNat, Nat.reducePow, Int.reducePow, Nat.not_lt_zero]
def okVal (v : T) : Bool := okLine v && decide (Txt.stripChars (S v) (Str.ofString " ") = S v)
theorem okLine_len {l : T} (h : okLine l = true) : l.length ≤ 200 := by
  unfold okLine at h
  rw [Bool.and_eq_true, decide_eq_true_eq] at h
  exact h.1
theorem l_stripC {a b : Str} : dStripC (.str a) [.str b] = if a.length ≤ 16777216 then some (.str (Txt.stripChars a b)) else none := rfl
theorem isvalue {v : T} (h : okVal v = true) : m_is_value [.d (.str (S v))] = .ok (.d (.bool true)) [.un] := by
  unfold okVal at h
  rw [Bool.and_eq_true, decide_eq_true_eq] at h
  have hl := okLine_len h.1
  refine eqF (wF_run rfl ?_)
  simp only [b_is_value, r_lft, r_var, r_own, r_c, r_bin, r_binO, r_cmp, r_tcmp, r_tcmpO, r_tru, r_tand, r_tor, r_tnot, r_eif, r_nif, r_and, r_or, r_not, r_neg, r_cb, r_ncb, r_bm, r_bm0, r_tup, r_lst, r_anil, r_acons, r_aone, r_vnil, r_vcons, r_vslot, r_sl, r_onone, r_osome, r_chain, r_tchain, r_isi, r_iany, r_rg1, r_rg2, r_yes, r_frz, r_call, r_F, r_sif, r_snil, r_pass, r_break, r_cont, r_no, r_ret, r_retN, r_retNone, r_drop, r_dropN, r_asg, r_asgN, r_aug, r_stup, r_app, r_ext, r_setix, r_for, r_retOwn, wE_nComp, wE_ok, wS_nx, wS_rt, wS_bk, wS_ct, wS_seq, wV_d, wV_l, wO_d, wO_l, wL_some, wL_ite, wL_map, cB_true, cB_false, cB_not, wZ_d, wZ_l, wTk_some, wT_some, tk_nil, tk_v, tk_s, putA, mask, d1, d2, tyD, okS_d, okS_l, lOf, asI, Option.isSome_some, Option.getD_some, Option.map_some, List.getElem?_cons_zero, List.getElem?_cons_succ, List.set_cons_zero, List.set_cons_succ, List.replicate_succ, List.replicate_zero, List.cons_append, List.nil_append, List.not_mem_nil, List.mem_cons, or_false, not_false_eq_true, true_and, decide_true, if_true, if_false, reduceIte, Nat.reduceEqDiff, Nat.reduceAdd, Nat.reduceSub, Nat.reduceLeDiff, Nat.reduceLT, Int.reduceLT, Int.reduceLE, Int.reduceAdd, Int.reduceSub, Int.reduceEq, Int.reduceNeg, Nat.reduceMul, decide_false, Bool.not_true, Bool.not_false, and_true, true_or, or_true, Int.reduceMul, Int.reduceToNat, Nat.reducePow, Int.reducePow, Nat.not_lt_zero, l_addI, l_addS, l_addL, l_addT, l_sub, l_div, l_mod, l_mulI, l_mulS, l_mulL, l_eqI, l_eqS, l_neI, l_neS, l_ltI, l_leI, l_gtI, l_geI, l_ltS, l_leS, l_gtS, l_geS, l_truI, l_truB, l_truL, l_truT, l_truN, l_truS, l_lenS, l_lenL, l_lenT, l_intI, l_absI, l_tupL, l_tupT, l_itL, l_itT, l_itS, l_rg1, l_rg2, l_ixL, l_ixT, l_ixS, at_0, at_1, at_2, at_3, set_0, set_1, set_2, set_3, List.length_cons, List.length_nil, Int.cast_ofNat_Int, Int.natCast_one, tgD_n, tgD_t, tgA_nil, tgA_cons, Option.bind_some, l_isSS, l_isST, l_isSL, l_isSI, l_isTT, l_isTS, l_isTL, l_isTI, l_isII, l_isBI, l_isLL, l_ord, isline h.1, l_stripC, S_len, h.2]
  omega
/-! ### letters -/
def hd (p : T × T) : D := .tuple [.str (S p.1), .str (S p.2)]
def ln (l : T) : D := .str (S l)
def LD (hs : List (T × T)) (ls : List T) : D := .tuple [.tuple (hs.map hd), .tuple (ls.map ln)]
structure Good (hs : List (T × T)) (ls : List T) : Prop where
  h1 : hs.length ≤ 40
  h2 : ∀ p ∈ hs, okName p.1 = true ∧ okVal p.2 = true
  h3 : ls.length ≤ 200
  h4 : ∀ l ∈ ls, okLine l = true
theorem check_ok {hs : List (T × T)} {ls : List T} (g : Good hs ls) : m_check_letter [.d (LD hs ls)] = .ok (.d .none) [.un] := by
  have := g.h1
  have := g.h3
  refine eqF (wF_run rfl ?_)
  simp only [b_check_letter, LD, r_lft, r_var, r_own, r_c, r_bin, r_binO, r_cmp, r_tcmp, r_tcmpO, r_tru, r_tand, r_tor, r_tnot, r_eif, r_nif, r_and, r_or, r_not, r_neg, r_cb, r_ncb, r_bm, r_bm0, r_tup, r_lst, r_anil, r_acons, r_aone, r_vnil, r_vcons, r_vslot, r_sl, r_onone, r_osome, r_chain, r_tchain, r_isi, r_iany, r_rg1, r_rg2, r_yes, r_frz, r_call, r_F, r_sif, r_snil, r_pass, r_break, r_cont, r_no, r_ret, r_retN, r_retNone, r_drop, r_dropN, r_asg, r_asgN, r_aug, r_stup, r_app, r_ext, r_setix, r_for, r_retOwn, wE_nComp, wE_ok, wS_nx, wS_rt, wS_bk, wS_ct, wS_seq, wV_d, wV_l, wO_d, wO_l, wL_some, wL_ite, wL_map, cB_true, cB_false, cB_not, wZ_d, wZ_l, wTk_some, wT_some, tk_nil, tk_v, tk_s, putA, mask, d1, d2, tyD, okS_d, okS_l, lOf, asI, Option.isSome_some, Option.getD_some, Option.map_some, List.getElem?_cons_zero, List.getElem?_cons_succ, List.set_cons_zero, List.set_cons_succ, List.replicate_succ, List.replicate_zero, List.cons_append, List.nil_append, List.not_mem_nil, List.mem_cons, or_false, not_false_eq_true, true_and, decide_true, if_true, if_false, reduceIte, Nat.reduceEqDiff, Nat.reduceAdd, Nat.reduceSub, Nat.reduceLeDiff, Nat.reduceLT, Int.reduceLT, Int.reduceLE, Int.reduceAdd, Int.reduceSub, Int.reduceEq, Int.reduceNeg, Nat.reduceMul, decide_false, Bool.not_true, Bool.not_false, and_true, true_or, or_true, Int.reduceMul, Int.reduceToNat, Nat.reducePow, Int.reducePow, Nat.not_lt_zero, l_addI, l_addS, l_addL, l_addT, l_sub, l_div, l_mod, l_mulI, l_mulS, l_mulL, l_eqI, l_eqS, l_neI, l_neS, l_ltI, l_leI, l_gtI, l_geI, l_ltS, l_leS, l_gtS, l_geS, l_truI, l_truB, l_truL, l_truT, l_truN, l_truS, l_lenS, l_lenL, l_lenT, l_intI, l_absI, l_tupL, l_tupT, l_itL, l_itT, l_itS, l_rg1, l_rg2, l_ixL, l_ixT, l_ixS, at_0, at_1, at_2, at_3, set_0, set_1, set_2, set_3, List.length_cons, List.length_nil, Int.cast_ofNat_Int, Int.natCast_one, tgD_n, tgD_t, tgA_nil, tgA_cons, Option.bind_some, l_isSS, l_isST, l_isSL, l_isSI, l_isTT, l_isTS, l_isTL, l_isTI, l_isII, l_isBI, l_isLL, l_ord]
  refine wE_comp ([.d (LD hs ls), .un, .un, .un, .un, .un]) (fun _ => some (.bool true)) rfl ?_ (fun x hx => ?_) ?_
  · show 2 ≤ 16777216; omega
  · have : ∃ xs, x = .tuple xs := by
      simp only [List.mem_cons, List.not_mem_nil, or_false] at hx
      rcases hx with rfl | rfl <;> exact ⟨_, rfl⟩
    obtain ⟨xs, rfl⟩ := this
    refine ⟨_, rfl, ?_⟩
    simp only [r_lft, r_var, r_own, r_c, r_bin, r_binO, r_cmp, r_tcmp, r_tcmpO, r_tru, r_tand, r_tor, r_tnot, r_eif, r_nif, r_and, r_or, r_not, r_neg, r_cb, r_ncb, r_bm, r_bm0, r_tup, r_lst, r_anil, r_acons, r_aone, r_vnil, r_vcons, r_vslot, r_sl, r_onone, r_osome, r_chain, r_tchain, r_isi, r_iany, r_rg1, r_rg2, r_yes, r_frz, r_call, r_F, r_sif, r_snil, r_pass, r_break, r_cont, r_no, r_ret, r_retN, r_retNone, r_drop, r_dropN, r_asg, r_asgN, r_aug, r_stup, r_app, r_ext, r_setix, r_for, r_retOwn, wE_nComp, wE_ok, wS_nx, wS_rt, wS_bk, wS_ct, wS_seq, wV_d, wV_l, wO_d, wO_l, wL_some, wL_ite, wL_map, cB_true, cB_false, cB_not, wZ_d, wZ_l, wTk_some, wT_some, tk_nil, tk_v, tk_s, putA, mask, d1, d2, tyD, okS_d, okS_l, lOf, asI, Option.isSome_some, Option.getD_some, Option.map_some, List.getElem?_cons_zero, List.getElem?_cons_succ, List.set_cons_zero, List.set_cons_succ, List.replicate_succ, List.replicate_zero, List.cons_append, List.nil_append, List.not_mem_nil, List.mem_cons, or_false, not_false_eq_true, true_and, decide_true, if_true, if_false, reduceIte, Nat.reduceEqDiff, Nat.reduceAdd, Nat.reduceSub, Nat.reduceLeDiff, Nat.reduceLT, Int.reduceLT, Int.reduceLE, Int.reduceAdd, Int.reduceSub, Int.reduceEq, Int.reduceNeg, Nat.reduceMul, decide_false, Bool.not_true, Bool.not_false, and_true, true_or, or_true, Int.reduceMul, Int.reduceToNat, Nat.reducePow, Int.reducePow, Nat.not_lt_zero, l_addI, l_addS, l_addL, l_addT, l_sub, l_div, l_mod, l_mulI, l_mulS, l_mulL, l_eqI, l_eqS, l_neI, l_neS, l_ltI, l_leI, l_gtI, l_geI, l_ltS, l_leS, l_gtS, l_geS, l_truI, l_truB, l_truL, l_truT, l_truN, l_truS, l_lenS, l_lenL, l_lenT, l_intI, l_absI, l_tupL, l_tupT, l_itL, l_itT, l_itS, l_rg1, l_rg2, l_ixL, l_ixT, l_ixS, at_0, at_1, at_2, at_3, set_0, set_1, set_2, set_3, List.length_cons, List.length_nil, Int.cast_ofNat_Int, Int.natCast_one, tgD_n, tgD_t, tgA_nil, tgA_cons, Option.bind_some, l_isSS, l_isST, l_isSL, l_isSI, l_isTT, l_isTS, l_isTL, l_isTI, l_isII, l_isBI, l_isLL, l_ord]
    rfl
  · (try simp only [r_lft, r_var, r_own, r_c, r_bin, r_binO, r_cmp, r_tcmp, r_tcmpO, r_tru, r_tand, r_tor, r_tnot, r_eif, r_nif, r_and, r_or, r_not, r_neg, r_cb, r_ncb, r_bm, r_bm0, r_tup, r_lst, r_anil, r_acons, r_aone, r_vnil, r_vcons, r_vslot, r_sl, r_onone, r_osome, r_chain, r_tchain, r_isi, r_iany, r_rg1, r_rg2, r_yes, r_frz, r_call, r_F, r_sif, r_snil, r_pass, r_break, r_cont, r_no, r_ret, r_retN, r_retNone, r_drop, r_dropN, r_asg, r_asgN, r_aug, r_stup, r_app, r_ext, r_setix, r_for, r_retOwn, wE_nComp, wE_ok, wS_nx, wS_rt, wS_bk, wS_ct, wS_seq, wV_d, wV_l, wO_d, wO_l, wL_some, wL_ite, wL_map, cB_true, cB_false, cB_not, wZ_d, wZ_l, wTk_some, wT_some, tk_nil, tk_v, tk_s, putA, mask, d1, d2, tyD, okS_d, okS_l, lOf, asI, Option.isSome_some, Option.getD_some, Option.map_some, List.getElem?_cons_zero, List.getElem?_cons_succ, List.set_cons_zero, List.set_cons_succ, List.replicate_succ, List.replicate_zero, List.cons_append, List.nil_append, List.not_mem_nil, List.mem_cons, or_false, not_false_eq_true, true_and, decide_true, if_true, if_false, reduceIte, Nat.reduceEqDiff, Nat.reduceAdd, Nat.reduceSub, Nat.reduceLeDiff, Nat.reduceLT, Int.reduceLT, Int.reduceLE, Int.reduceAdd, Int.reduceSub, Int.reduceEq, Int.reduceNeg, Nat.reduceMul, decide_false, Bool.not_true, Bool.not_false, and_true, true_or, or_true, Int.reduceMul, Int.reduceToNat, Nat.reducePow, Int.reducePow, Nat.not_lt_zero, l_addI, l_addS, l_addL, l_addT, l_sub, l_div, l_mod, l_mulI, l_mulS, l_mulL, l_eqI, l_eqS, l_neI, l_neS, l_ltI, l_leI, l_gtI, l_geI, l_ltS, l_leS, l_gtS, l_geS, l_truI, l_truB, l_truL, l_truT, l_truN, l_truS, l_lenS, l_lenL, l_lenT, l_intI, l_absI, l_tupL, l_tupT, l_itL, l_itT, l_itS, l_rg1, l_rg2, l_ixL, l_ixT, l_ixS, at_0, at_1, at_2, at_3, set_0, set_1, set_2, set_3, List.length_cons, List.length_nil, Int.cast_ofNat_Int, Int.natCast_one, tgD_n, tgD_t, tgA_nil, tgA_cons, Option.bind_some, l_isSS, l_isST, l_isSL, l_isSI, l_isTT, l_isTS, l_isTL, l_isTI, l_isII, l_isBI, l_isLL, l_ord])
    rw [all_true (by intro x hx; obtain ⟨y, _, h⟩ := List.mem_filterMap.mp hx; exact (Option.some.inj h).symm)]
    simp only [LD, r_lft, r_var, r_own, r_c, r_bin, r_binO, r_cmp, r_tcmp, r_tcmpO, r_tru, r_tand, r_tor, r_tnot, r_eif, r_nif, r_and, r_or, r_not, r_neg, r_cb, r_ncb, r_bm, r_bm0, r_tup, r_lst, r_anil, r_acons, r_aone, r_vnil, r_vcons, r_vslot, r_sl, r_onone, r_osome, r_chain, r_tchain, r_isi, r_iany, r_rg1, r_rg2, r_yes, r_frz, r_call, r_F, r_sif, r_snil, r_pass, r_break, r_cont, r_no, r_ret, r_retN, r_retNone, r_drop, r_dropN, r_asg, r_asgN, r_aug, r_stup, r_app, r_ext, r_setix, r_for, r_retOwn, wE_nComp, wE_ok, wS_nx, wS_rt, wS_bk, wS_ct, wS_seq, wV_d, wV_l, wO_d, wO_l, wL_some, wL_ite, wL_map, cB_true, cB_false, cB_not, wZ_d, wZ_l, wTk_some, wT_some, tk_nil, tk_v, tk_s, putA, mask, d1, d2, tyD, okS_d, okS_l, lOf, asI, Option.isSome_some, Option.getD_some, Option.map_some, List.getElem?_cons_zero, List.getElem?_cons_succ, List.set_cons_zero, List.set_cons_succ, List.replicate_succ, List.replicate_zero, List.cons_append, List.nil_append, List.not_mem_nil, List.mem_cons, or_false, not_false_eq_true, true_and, decide_true, if_true, if_false, reduceIte, Nat.reduceEqDiff, Nat.reduceAdd, Nat.reduceSub, Nat.reduceLeDiff, Nat.reduceLT, Int.reduceLT, Int.reduceLE, Int.reduceAdd, Int.reduceSub, Int.reduceEq, Int.reduceNeg, Nat.reduceMul, decide_false, Bool.not_true, Bool.not_false, and_true, true_or, or_true, Int.reduceMul, Int.reduceToNat, Nat.reducePow, Int.reducePow, Nat.not_lt_zero, l_addI, l_addS, l_addL, l_addT, l_sub, l_div, l_mod, l_mulI, l_mulS, l_mulL, l_eqI, l_eqS, l_neI, l_neS, l_ltI, l_leI, l_gtI, l_geI, l_ltS, l_leS, l_gtS, l_geS, l_truI, l_truB, l_truL, l_truT, l_truN, l_truS, l_lenS, l_lenL, l_lenT, l_intI, l_absI, l_tupL, l_tupT, l_itL, l_itT, l_itS, l_rg1, l_rg2, l_ixL, l_ixT, l_ixS, at_0, at_1, at_2, at_3, set_0, set_1, set_2, set_3, List.length_cons, List.length_nil, Int.cast_ofNat_Int, Int.natCast_one, tgD_n, tgD_t, tgA_nil, tgA_cons, Option.bind_some, l_isSS, l_isST, l_isSL, l_isSI, l_isTT, l_isTS, l_isTL, l_isTI, l_isII, l_isBI, l_isLL, l_ord, List.length_map]
    refine cB_dec (fun z => by omega) fun _ => ?_
    simp only [r_lft, r_var, r_own, r_c, r_bin, r_binO, r_cmp, r_tcmp, r_tcmpO, r_tru, r_tand, r_tor, r_tnot, r_eif, r_nif, r_and, r_or, r_not, r_neg, r_cb, r_ncb, r_bm, r_bm0, r_tup, r_lst, r_anil, r_acons, r_aone, r_vnil, r_vcons, r_vslot, r_sl, r_onone, r_osome, r_chain, r_tchain, r_isi, r_iany, r_rg1, r_rg2, r_yes, r_frz, r_call, r_F, r_sif, r_snil, r_pass, r_break, r_cont, r_no, r_ret, r_retN, r_retNone, r_drop, r_dropN, r_asg, r_asgN, r_aug, r_stup, r_app, r_ext, r_setix, r_for, r_retOwn, wE_nComp, wE_ok, wS_nx, wS_rt, wS_bk, wS_ct, wS_seq, wV_d, wV_l, wO_d, wO_l, wL_some, wL_ite, wL_map, cB_true, cB_false, cB_not, wZ_d, wZ_l, wTk_some, wT_some, tk_nil, tk_v, tk_s, putA, mask, d1, d2, tyD, okS_d, okS_l, lOf, asI, Option.isSome_some, Option.getD_some, Option.map_some, List.getElem?_cons_zero, List.getElem?_cons_succ, List.set_cons_zero, List.set_cons_succ, List.replicate_succ, List.replicate_zero, List.cons_append, List.nil_append, List.not_mem_nil, List.mem_cons, or_false, not_false_eq_true, true_and, decide_true, if_true, if_false, reduceIte, Nat.reduceEqDiff, Nat.reduceAdd, Nat.reduceSub, Nat.reduceLeDiff, Nat.reduceLT, Int.reduceLT, Int.reduceLE, Int.reduceAdd, Int.reduceSub, Int.reduceEq, Int.reduceNeg, Nat.reduceMul, decide_false, Bool.not_true, Bool.not_false, and_true, true_or, or_true, Int.reduceMul, Int.reduceToNat, Nat.reducePow, Int.reducePow, Nat.not_lt_zero, l_addI, l_addS, l_addL, l_addT, l_sub, l_div, l_mod, l_mulI, l_mulS, l_mulL, l_eqI, l_eqS, l_neI, l_neS, l_ltI, l_leI, l_gtI, l_geI, l_ltS, l_leS, l_gtS, l_geS, l_truI, l_truB, l_truL, l_truT, l_truN, l_truS, l_lenS, l_lenL, l_lenT, l_intI, l_absI, l_tupL, l_tupT, l_itL, l_itT, l_itS, l_rg1, l_rg2, l_ixL, l_ixT, l_ixS, at_0, at_1, at_2, at_3, set_0, set_1, set_2, set_3, List.length_cons, List.length_nil, Int.cast_ofNat_Int, Int.natCast_one, tgD_n, tgD_t, tgA_nil, tgA_cons, Option.bind_some, l_isSS, l_isST, l_isSL, l_isSI, l_isTT, l_isTS, l_isTL, l_isTI, l_isII, l_isBI, l_isLL, l_ord]
    refine wS_for (fun rest e => (∀ x ∈ rest, ∃ p ∈ hs, x = hd p) ∧ ∃ s4, e = [.d (LD hs ls), .un, .d (.tuple (hs.map hd)), .d (.tuple (ls.map ln)), s4, .un]) ?_ ?_ _ _ ⟨fun x hx => by obtain ⟨p, h1, h2⟩ := List.mem_map.mp hx; exact ⟨p, h1, h2.symm⟩, _, rfl⟩
    · rintro x r e ⟨h1, s4, rfl⟩
      obtain ⟨p, hp, rfl⟩ := h1 x List.mem_cons_self
      obtain ⟨g1, g2⟩ := g.h2 p hp
      refine ⟨_, rfl, ?_⟩
      simp only [hd, r_lft, r_var, r_own, r_c, r_bin, r_binO, r_cmp, r_tcmp, r_tcmpO, r_tru, r_tand, r_tor, r_tnot, r_eif, r_nif, r_and, r_or, r_not, r_neg, r_cb, r_ncb, r_bm, r_bm0, r_tup, r_lst, r_anil, r_acons, r_aone, r_vnil, r_vcons, r_vslot, r_sl, r_onone, r_osome, r_chain, r_tchain, r_isi, r_iany, r_rg1, r_rg2, r_yes, r_frz, r_call, r_F, r_sif, r_snil, r_pass, r_break, r_cont, r_no, r_ret, r_retN, r_retNone, r_drop, r_dropN, r_asg, r_asgN, r_aug, r_stup, r_app, r_ext, r_setix, r_for, r_retOwn, wE_nComp, wE_ok, wS_nx, wS_rt, wS_bk, wS_ct, wS_seq, wV_d, wV_l, wO_d, wO_l, wL_some, wL_ite, wL_map, cB_true, cB_false, cB_not, wZ_d, wZ_l, wTk_some, wT_some, tk_nil, tk_v, tk_s, putA, mask, d1, d2, tyD, okS_d, okS_l, lOf, asI, Option.isSome_some, Option.getD_some, Option.map_some, List.getElem?_cons_zero, List.getElem?_cons_succ, List.set_cons_zero, List.set_cons_succ, List.replicate_succ, List.replicate_zero, List.cons_append, List.nil_append, List.not_mem_nil, List.mem_cons, or_false, not_false_eq_true, true_and, decide_true, if_true, if_false, reduceIte, Nat.reduceEqDiff, Nat.reduceAdd, Nat.reduceSub, Nat.reduceLeDiff, Nat.reduceLT, Int.reduceLT, Int.reduceLE, Int.reduceAdd, Int.reduceSub, Int.reduceEq, Int.reduceNeg, Nat.reduceMul, decide_false, Bool.not_true, Bool.not_false, and_true, true_or, or_true, Int.reduceMul, Int.reduceToNat, Nat.reducePow, Int.reducePow, Nat.not_lt_zero, l_addI, l_addS, l_addL, l_addT, l_sub, l_div, l_mod, l_mulI, l_mulS, l_mulL, l_eqI, l_eqS, l_neI, l_neS, l_ltI, l_leI, l_gtI, l_geI, l_ltS, l_leS, l_gtS, l_geS, l_truI, l_truB, l_truL, l_truT, l_truN, l_truS, l_lenS, l_lenL, l_lenT, l_intI, l_absI, l_tupL, l_tupT, l_itL, l_itT, l_itS, l_rg1, l_rg2, l_ixL, l_ixT, l_ixS, at_0, at_1, at_2, at_3, set_0, set_1, set_2, set_3, List.length_cons, List.length_nil, Int.cast_ofNat_Int, Int.natCast_one, tgD_n, tgD_t, tgA_nil, tgA_cons, Option.bind_some, l_isSS, l_isST, l_isSL, l_isSI, l_isTT, l_isTS, l_isTL, l_isTI, l_isII, l_isBI, l_isLL, l_ord, isname g1, isvalue g2, List.length_cons, List.length_nil]
      exact ⟨fun x hx => h1 x (List.mem_cons_of_mem _ hx), _, rfl⟩
    · rintro e ⟨_, s4, rfl⟩
      simp only [r_lft, r_var, r_own, r_c, r_bin, r_binO, r_cmp, r_tcmp, r_tcmpO, r_tru, r_tand, r_tor, r_tnot, r_eif, r_nif, r_and, r_or, r_not, r_neg, r_cb, r_ncb, r_bm, r_bm0, r_tup, r_lst, r_anil, r_acons, r_aone, r_vnil, r_vcons, r_vslot, r_sl, r_onone, r_osome, r_chain, r_tchain, r_isi, r_iany, r_rg1, r_rg2, r_yes, r_frz, r_call, r_F, r_sif, r_snil, r_pass, r_break, r_cont, r_no, r_ret, r_retN, r_retNone, r_drop, r_dropN, r_asg, r_asgN, r_aug, r_stup, r_app, r_ext, r_setix, r_for, r_retOwn, wE_nComp, wE_ok, wS_nx, wS_rt, wS_bk, wS_ct, wS_seq, wV_d, wV_l, wO_d, wO_l, wL_some, wL_ite, wL_map, cB_true, cB_false, cB_not, wZ_d, wZ_l, wTk_some, wT_some, tk_nil, tk_v, tk_s, putA, mask, d1, d2, tyD, okS_d, okS_l, lOf, asI, Option.isSome_some, Option.getD_some, Option.map_some, List.getElem?_cons_zero, List.getElem?_cons_succ, List.set_cons_zero, List.set_cons_succ, List.replicate_succ, List.replicate_zero, List.cons_append, List.nil_append, List.not_mem_nil, List.mem_cons, or_false, not_false_eq_true, true_and, decide_true, if_true, if_false, reduceIte, Nat.reduceEqDiff, Nat.reduceAdd, Nat.reduceSub, Nat.reduceLeDiff, Nat.reduceLT, Int.reduceLT, Int.reduceLE, Int.reduceAdd, Int.reduceSub, Int.reduceEq, Int.reduceNeg, Nat.reduceMul, decide_false, Bool.not_true, Bool.not_false, and_true, true_or, or_true, Int.reduceMul, Int.reduceToNat, Nat.reducePow, Int.reducePow, Nat.not_lt_zero, l_addI, l_addS, l_addL, l_addT, l_sub, l_div, l_mod, l_mulI, l_mulS, l_mulL, l_eqI, l_eqS, l_neI, l_neS, l_ltI, l_leI, l_gtI, l_geI, l_ltS, l_leS, l_gtS, l_geS, l_truI, l_truB, l_truL, l_truT, l_truN, l_truS, l_lenS, l_lenL, l_lenT, l_intI, l_absI, l_tupL, l_tupT, l_itL, l_itT, l_itS, l_rg1, l_rg2, l_ixL, l_ixT, l_ixS, at_0, at_1, at_2, at_3, set_0, set_1, set_2, set_3, List.length_cons, List.length_nil, Int.cast_ofNat_Int, Int.natCast_one, tgD_n, tgD_t, tgA_nil, tgA_cons, Option.bind_some, l_isSS, l_isST, l_isSL, l_isSI, l_isTT, l_isTS, l_isTL, l_isTI, l_isII, l_isBI, l_isLL, l_ord, List.length_map]
      refine cB_dec (fun z => by omega) fun _ => ?_
      simp only [r_lft, r_var, r_own, r_c, r_bin, r_binO, r_cmp, r_tcmp, r_tcmpO, r_tru, r_tand, r_tor, r_tnot, r_eif, r_nif, r_and, r_or, r_not, r_neg, r_cb, r_ncb, r_bm, r_bm0, r_tup, r_lst, r_anil, r_acons, r_aone, r_vnil, r_vcons, r_vslot, r_sl, r_onone, r_osome, r_chain, r_tchain, r_isi, r_iany, r_rg1, r_rg2, r_yes, r_frz, r_call, r_F, r_sif, r_snil, r_pass, r_break, r_cont, r_no, r_ret, r_retN, r_retNone, r_drop, r_dropN, r_asg, r_asgN, r_aug, r_stup, r_app, r_ext, r_setix, r_for, r_retOwn, wE_nComp, wE_ok, wS_nx, wS_rt, wS_bk, wS_ct, wS_seq, wV_d, wV_l, wO_d, wO_l, wL_some, wL_ite, wL_map, cB_true, cB_false, cB_not, wZ_d, wZ_l, wTk_some, wT_some, tk_nil, tk_v, tk_s, putA, mask, d1, d2, tyD, okS_d, okS_l, lOf, asI, Option.isSome_some, Option.getD_some, Option.map_some, List.getElem?_cons_zero, List.getElem?_cons_succ, List.set_cons_zero, List.set_cons_succ, List.replicate_succ, List.replicate_zero, List.cons_append, List.nil_append, List.not_mem_nil, List.mem_cons, or_false, not_false_eq_true, true_and, decide_true, if_true, if_false, reduceIte, Nat.reduceEqDiff, Nat.reduceAdd, Nat.reduceSub, Nat.reduceLeDiff, Nat.reduceLT, Int.reduceLT, Int.reduceLE, Int.reduceAdd, Int.reduceSub, Int.reduceEq, Int.reduceNeg, Nat.reduceMul, decide_false, Bool.not_true, Bool.not_false, and_true, true_or, or_true, Int.reduceMul, Int.reduceToNat, Nat.reducePow, Int.reducePow, Nat.not_lt_zero, l_addI, l_addS, l_addL, l_addT, l_sub, l_div, l_mod, l_mulI, l_mulS, l_mulL, l_eqI, l_eqS, l_neI, l_neS, l_ltI, l_leI, l_gtI, l_geI, l_ltS, l_leS, l_gtS, l_geS, l_truI, l_truB, l_truL, l_truT, l_truN, l_truS, l_lenS, l_lenL, l_lenT, l_intI, l_absI, l_tupL, l_tupT, l_itL, l_itT, l_itS, l_rg1, l_rg2, l_ixL, l_ixT, l_ixS, at_0, at_1, at_2, at_3, set_0, set_1, set_2, set_3, List.length_cons, List.length_nil, Int.cast_ofNat_Int, Int.natCast_one, tgD_n, tgD_t, tgA_nil, tgA_cons, Option.bind_some, l_isSS, l_isST, l_isSL, l_isSI, l_isTT, l_isTS, l_isTL, l_isTI, l_isII, l_isBI, l_isLL, l_ord]
      refine wE_comp [.d (LD hs ls), .un, .d (.tuple (hs.map hd)), .d (.tuple (ls.map ln)), s4, .un] (fun _ => some (.bool true)) rfl ?_ (fun x hx => ?_) ?_
      · rw [List.length_map]; omega
      · obtain ⟨l, hl, rfl⟩ := List.mem_map.mp hx
        refine ⟨_, rfl, ?_⟩
        simp only [ln, r_lft, r_var, r_own, r_c, r_bin, r_binO, r_cmp, r_tcmp, r_tcmpO, r_tru, r_tand, r_tor, r_tnot, r_eif, r_nif, r_and, r_or, r_not, r_neg, r_cb, r_ncb, r_bm, r_bm0, r_tup, r_lst, r_anil, r_acons, r_aone, r_vnil, r_vcons, r_vslot, r_sl, r_onone, r_osome, r_chain, r_tchain, r_isi, r_iany, r_rg1, r_rg2, r_yes, r_frz, r_call, r_F, r_sif, r_snil, r_pass, r_break, r_cont, r_no, r_ret, r_retN, r_retNone, r_drop, r_dropN, r_asg, r_asgN, r_aug, r_stup, r_app, r_ext, r_setix, r_for, r_retOwn, wE_nComp, wE_ok, wS_nx, wS_rt, wS_bk, wS_ct, wS_seq, wV_d, wV_l, wO_d, wO_l, wL_some, wL_ite, wL_map, cB_true, cB_false, cB_not, wZ_d, wZ_l, wTk_some, wT_some, tk_nil, tk_v, tk_s, putA, mask, d1, d2, tyD, okS_d, okS_l, lOf, asI, Option.isSome_some, Option.getD_some, Option.map_some, List.getElem?_cons_zero, List.getElem?_cons_succ, List.set_cons_zero, List.set_cons_succ, List.replicate_succ, List.replicate_zero, List.cons_append, List.nil_append, List.not_mem_nil, List.mem_cons, or_false, not_false_eq_true, true_and, decide_true, if_true, if_false, reduceIte, Nat.reduceEqDiff, Nat.reduceAdd, Nat.reduceSub, Nat.reduceLeDiff, Nat.reduceLT, Int.reduceLT, Int.reduceLE, Int.reduceAdd, Int.reduceSub, Int.reduceEq, Int.reduceNeg, Nat.reduceMul, decide_false, Bool.not_true, Bool.not_false, and_true, true_or, or_true, Int.reduceMul, Int.reduceToNat, Nat.reducePow, Int.reducePow, Nat.not_lt_zero, l_addI, l_addS, l_addL, l_addT, l_sub, l_div, l_mod, l_mulI, l_mulS, l_mulL, l_eqI, l_eqS, l_neI, l_neS, l_ltI, l_leI, l_gtI, l_geI, l_ltS, l_leS, l_gtS, l_geS, l_truI, l_truB, l_truL, l_truT, l_truN, l_truS, l_lenS, l_lenL, l_lenT, l_intI, l_absI, l_tupL, l_tupT, l_itL, l_itT, l_itS, l_rg1, l_rg2, l_ixL, l_ixT, l_ixS, at_0, at_1, at_2, at_3, set_0, set_1, set_2, set_3, List.length_cons, List.length_nil, Int.cast_ofNat_Int, Int.natCast_one, tgD_n, tgD_t, tgA_nil, tgA_cons, Option.bind_some, l_isSS, l_isST, l_isSL, l_isSI, l_isTT, l_isTS, l_isTL, l_isTI, l_isII, l_isBI, l_isLL, l_ord, isline (g.h4 l hl)]
        rfl
      · (try simp only [r_lft, r_var, r_own, r_c, r_bin, r_binO, r_cmp, r_tcmp, r_tcmpO, r_tru, r_tand, r_tor, r_tnot, r_eif, r_nif, r_and, r_or, r_not, r_neg, r_cb, r_ncb, r_bm, r_bm0, r_tup, r_lst, r_anil, r_acons, r_aone, r_vnil, r_vcons, r_vslot, r_sl, r_onone, r_osome, r_chain, r_tchain, r_isi, r_iany, r_rg1, r_rg2, r_yes, r_frz, r_call, r_F, r_sif, r_snil, r_pass, r_break, r_cont, r_no, r_ret, r_retN, r_retNone, r_drop, r_dropN, r_asg, r_asgN, r_aug, r_stup, r_app, r_ext, r_setix, r_for, r_retOwn, wE_nComp, wE_ok, wS_nx, wS_rt, wS_bk, wS_ct, wS_seq, wV_d, wV_l, wO_d, wO_l, wL_some, wL_ite, wL_map, cB_true, cB_false, cB_not, wZ_d, wZ_l, wTk_some, wT_some, tk_nil, tk_v, tk_s, putA, mask, d1, d2, tyD, okS_d, okS_l, lOf, asI, Option.isSome_some, Option.getD_some, Option.map_some, List.getElem?_cons_zero, List.getElem?_cons_succ, List.set_cons_zero, List.set_cons_succ, List.replicate_succ, List.replicate_zero, List.cons_append, List.nil_append, List.not_mem_nil, List.mem_cons, or_false, not_false_eq_true, true_and, decide_true, if_true, if_false, reduceIte, Nat.reduceEqDiff, Nat.reduceAdd, Nat.reduceSub, Nat.reduceLeDiff, Nat.reduceLT, Int.reduceLT, Int.reduceLE, Int.reduceAdd, Int.reduceSub, Int.reduceEq, Int.reduceNeg, Nat.reduceMul, decide_false, Bool.not_true, Bool.not_false, and_true, true_or, or_true, Int.reduceMul, Int.reduceToNat, Nat.reducePow, Int.reducePow, Nat.not_lt_zero, l_addI, l_addS, l_addL, l_addT, l_sub, l_div, l_mod, l_mulI, l_mulS, l_mulL, l_eqI, l_eqS, l_neI, l_neS, l_ltI, l_leI, l_gtI, l_geI, l_ltS, l_leS, l_gtS, l_geS, l_truI, l_truB, l_truL, l_truT, l_truN, l_truS, l_lenS, l_lenL, l_lenT, l_intI, l_absI, l_tupL, l_tupT, l_itL, l_itT, l_itS, l_rg1, l_rg2, l_ixL, l_ixT, l_ixS, at_0, at_1, at_2, at_3, set_0, set_1, set_2, set_3, List.length_cons, List.length_nil, Int.cast_ofNat_Int, Int.natCast_one, tgD_n, tgD_t, tgA_nil, tgA_cons, Option.bind_some, l_isSS, l_isST, l_isSL, l_isSI, l_isTT, l_isTS, l_isTL, l_isTI, l_isII, l_isBI, l_isLL, l_ord])
        rw [all_true (by intro x hx; obtain ⟨y, _, h⟩ := List.mem_filterMap.mp hx; exact (Option.some.inj h).symm)]
        simp only [r_lft, r_var, r_own, r_c, r_bin, r_binO, r_cmp, r_tcmp, r_tcmpO, r_tru, r_tand, r_tor, r_tnot, r_eif, r_nif, r_and, r_or, r_not, r_neg, r_cb, r_ncb, r_bm, r_bm0, r_tup, r_lst, r_anil, r_acons, r_aone, r_vnil, r_vcons, r_vslot, r_sl, r_onone, r_osome, r_chain, r_tchain, r_isi, r_iany, r_rg1, r_rg2, r_yes, r_frz, r_call, r_F, r_sif, r_snil, r_pass, r_break, r_cont, r_no, r_ret, r_retN, r_retNone, r_drop, r_dropN, r_asg, r_asgN, r_aug, r_stup, r_app, r_ext, r_setix, r_for, r_retOwn, wE_nComp, wE_ok, wS_nx, wS_rt, wS_bk, wS_ct, wS_seq, wV_d, wV_l, wO_d, wO_l, wL_some, wL_ite, wL_map, cB_true, cB_false, cB_not, wZ_d, wZ_l, wTk_some, wT_some, tk_nil, tk_v, tk_s, putA, mask, d1, d2, tyD, okS_d, okS_l, lOf, asI, Option.isSome_some, Option.getD_some, Option.map_some, List.getElem?_cons_zero, List.getElem?_cons_succ, List.set_cons_zero, List.set_cons_succ, List.replicate_succ, List.replicate_zero, List.cons_append, List.nil_append, List.not_mem_nil, List.mem_cons, or_false, not_false_eq_true, true_and, decide_true, if_true, if_false, reduceIte, Nat.reduceEqDiff, Nat.reduceAdd, Nat.reduceSub, Nat.reduceLeDiff, Nat.reduceLT, Int.reduceLT, Int.reduceLE, Int.reduceAdd, Int.reduceSub, Int.reduceEq, Int.reduceNeg, Nat.reduceMul, decide_false, Bool.not_true, Bool.not_false, and_true, true_or, or_true, Int.reduceMul, Int.reduceToNat, Nat.reducePow, Int.reducePow, Nat.not_lt_zero, l_addI, l_addS, l_addL, l_addT, l_sub, l_div, l_mod, l_mulI, l_mulS, l_mulL, l_eqI, l_eqS, l_neI, l_neS, l_ltI, l_leI, l_gtI, l_geI, l_ltS, l_leS, l_gtS, l_geS, l_truI, l_truB, l_truL, l_truT, l_truN, l_truS, l_lenS, l_lenL, l_lenT, l_intI, l_absI, l_tupL, l_tupT, l_itL, l_itT, l_itS, l_rg1, l_rg2, l_ixL, l_ixT, l_ixS, at_0, at_1, at_2, at_3, set_0, set_1, set_2, set_3, List.length_cons, List.length_nil, Int.cast_ofNat_Int, Int.natCast_one, tgD_n, tgD_t, tgA_nil, tgA_cons, Option.bind_some, l_isSS, l_isST, l_isSL, l_isSI, l_isTT, l_isTS, l_isTL, l_isTI, l_isII, l_isBI, l_isLL, l_ord]
theorem checkname_ok {n : T} (h : okName n = true) : m_check_name [.d (.str (S n))] = .ok (.d .none) [.un] := by
  refine eqF (wF_run rfl ?_)
  simp only [b_check_name, r_lft, r_var, r_own, r_c, r_bin, r_binO, r_cmp, r_tcmp, r_tcmpO, r_tru, r_tand, r_tor, r_tnot, r_eif, r_nif, r_and, r_or, r_not, r_neg, r_cb, r_ncb, r_bm, r_bm0, r_tup, r_lst, r_anil, r_acons, r_aone, r_vnil, r_vcons, r_vslot, r_sl, r_onone, r_osome, r_chain, r_tchain, r_isi, r_iany, r_rg1, r_rg2, r_yes, r_frz, r_call, r_F, r_sif, r_snil, r_pass, r_break, r_cont, r_no, r_ret, r_retN, r_retNone, r_drop, r_dropN, r_asg, r_asgN, r_aug, r_stup, r_app, r_ext, r_setix, r_for, r_retOwn, wE_nComp, wE_ok, wS_nx, wS_rt, wS_bk, wS_ct, wS_seq, wV_d, wV_l, wO_d, wO_l, wL_some, wL_ite, wL_map, cB_true, cB_false, cB_not, wZ_d, wZ_l, wTk_some, wT_some, tk_nil, tk_v, tk_s, putA, mask, d1, d2, tyD, okS_d, okS_l, lOf, asI, Option.isSome_some, Option.getD_some, Option.map_some, List.getElem?_cons_zero, List.getElem?_cons_succ, List.set_cons_zero, List.set_cons_succ, List.replicate_succ, List.replicate_zero, List.cons_append, List.nil_append, List.not_mem_nil, List.mem_cons, or_false, not_false_eq_true, true_and, decide_true, if_true, if_false, reduceIte, Nat.reduceEqDiff, Nat.reduceAdd, Nat.reduceSub, Nat.reduceLeDiff, Nat.reduceLT, Int.reduceLT, Int.reduceLE, Int.reduceAdd, Int.reduceSub, Int.reduceEq, Int.reduceNeg, Nat.reduceMul, decide_false, Bool.not_true, Bool.not_false, and_true, true_or, or_true, Int.reduceMul, Int.reduceToNat, Nat.reducePow, Int.reducePow, Nat.not_lt_zero, l_addI, l_addS, l_addL, l_addT, l_sub, l_div, l_mod, l_mulI, l_mulS, l_mulL, l_eqI, l_eqS, l_neI, l_neS, l_ltI, l_leI, l_gtI, l_geI, l_ltS, l_leS, l_gtS, l_geS, l_truI, l_truB, l_truL, l_truT, l_truN, l_truS, l_lenS, l_lenL, l_lenT, l_intI, l_absI, l_tupL, l_tupT, l_itL, l_itT, l_itS, l_rg1, l_rg2, l_ixL, l_ixT, l_ixS, at_0, at_1, at_2, at_3, set_0, set_1, set_2, set_3, List.length_cons, List.length_nil, Int.cast_ofNat_Int, Int.natCast_one, tgD_n, tgD_t, tgA_nil, tgA_cons, Option.bind_some, l_isSS, l_isST, l_isSL, l_isSI, l_isTT, l_isTS, l_isTL, l_isTI, l_isII, l_isBI, l_isLL, l_ord, isname h]
/-! ### what is read off a letter -/
def vals (hs : List (T × T)) (n : T) : List D := (hs.filter fun p => decide (p.1 = n)).map fun p => .str (S p.2)
theorem S_dec (a b : T) : decide (S a = S b) = decide (a = b) := by
  by_cases h : a = b
  · rw [h, decide_eq_true rfl, decide_eq_true rfl]
  · rw [decide_eq_false h, decide_eq_false fun z => h (S_inj.mp z)]
theorem fm_vals (n : T) (f : T × T → D) : ∀ hs : List (T × T), (hs.map hd).filterMap (fun x => match x with | .tuple [.str a, .str b] => if a = S n then some (f (a.cps.toList, b.cps.toList)) else none | _ => none) = (hs.filter fun p => decide (p.1 = n)).map f
  | [] => rfl
  | (a, b) :: r => by
    rw [List.map_cons, List.filterMap_cons]
    by_cases h : a = n
    · subst h
      rw [List.filter_cons_of_pos (by simp), List.map_cons, ← fm_vals a f r]
      simp only [hd, if_true]
    · rw [List.filter_cons_of_neg (by simpa using h), ← fm_vals n f r]
      have : ¬ S a = S n := fun z => h (S_inj.mp z)
      simp only [hd, if_neg this]
theorem valuesin {hs : List (T × T)} {ls : List T} (g : Good hs ls) (n : T) : m_values_in [.d (LD hs ls), .d (.str (S n))] = .ok (.l (vals hs n)) [.un, .un] := by
  have := g.h1
  refine eqF (wF_run rfl ?_)
  simp only [b_values_in, LD, r_lft, r_var, r_own, r_c, r_bin, r_binO, r_cmp, r_tcmp, r_tcmpO, r_tru, r_tand, r_tor, r_tnot, r_eif, r_nif, r_and, r_or, r_not, r_neg, r_cb, r_ncb, r_bm, r_bm0, r_tup, r_lst, r_anil, r_acons, r_aone, r_vnil, r_vcons, r_vslot, r_sl, r_onone, r_osome, r_chain, r_tchain, r_isi, r_iany, r_rg1, r_rg2, r_yes, r_frz, r_call, r_F, r_sif, r_snil, r_pass, r_break, r_cont, r_no, r_ret, r_retN, r_retNone, r_drop, r_dropN, r_asg, r_asgN, r_aug, r_stup, r_app, r_ext, r_setix, r_for, r_retOwn, wE_nComp, wE_ok, wS_nx, wS_rt, wS_bk, wS_ct, wS_seq, wV_d, wV_l, wO_d, wO_l, wL_some, wL_ite, wL_map, cB_true, cB_false, cB_not, wZ_d, wZ_l, wTk_some, wT_some, tk_nil, tk_v, tk_s, putA, mask, d1, d2, tyD, okS_d, okS_l, lOf, asI, Option.isSome_some, Option.getD_some, Option.map_some, List.getElem?_cons_zero, List.getElem?_cons_succ, List.set_cons_zero, List.set_cons_succ, List.replicate_succ, List.replicate_zero, List.cons_append, List.nil_append, List.not_mem_nil, List.mem_cons, or_false, not_false_eq_true, true_and, decide_true, if_true, if_false, reduceIte, Nat.reduceEqDiff, Nat.reduceAdd, Nat.reduceSub, Nat.reduceLeDiff, Nat.reduceLT, Int.reduceLT, Int.reduceLE, Int.reduceAdd, Int.reduceSub, Int.reduceEq, Int.reduceNeg, Nat.reduceMul, decide_false, Bool.not_true, Bool.not_false, and_true, true_or, or_true, Int.reduceMul, Int.reduceToNat, Nat.reducePow, Int.reducePow, Nat.not_lt_zero, l_addI, l_addS, l_addL, l_addT, l_sub, l_div, l_mod, l_mulI, l_mulS, l_mulL, l_eqI, l_eqS, l_neI, l_neS, l_ltI, l_leI, l_gtI, l_geI, l_ltS, l_leS, l_gtS, l_geS, l_truI, l_truB, l_truL, l_truT, l_truN, l_truS, l_lenS, l_lenL, l_lenT, l_intI, l_absI, l_tupL, l_tupT, l_itL, l_itT, l_itS, l_rg1, l_rg2, l_ixL, l_ixT, l_ixS, at_0, at_1, at_2, at_3, set_0, set_1, set_2, set_3, List.length_cons, List.length_nil, Int.cast_ofNat_Int, Int.natCast_one, tgD_n, tgD_t, tgA_nil, tgA_cons, Option.bind_some, l_isSS, l_isST, l_isSL, l_isSI, l_isTT, l_isTS, l_isTL, l_isTI, l_isII, l_isBI, l_isLL, l_ord]
  refine wE_comp [.d (LD hs ls), .d (.str (S n)), .un, .un] (fun x => match x with | .tuple [.str a, .str b] => if a = S n then some (.str (S b.cps.toList)) else none | _ => none) rfl ?_ (fun x hx => ?_) ?_
  · rw [List.length_map]; omega
  · obtain ⟨⟨a, b⟩, hp, rfl⟩ := List.mem_map.mp hx
    refine ⟨_, rfl, ?_⟩
    simp only [hd, r_lft, r_var, r_own, r_c, r_bin, r_binO, r_cmp, r_tcmp, r_tcmpO, r_tru, r_tand, r_tor, r_tnot, r_eif, r_nif, r_and, r_or, r_not, r_neg, r_cb, r_ncb, r_bm, r_bm0, r_tup, r_lst, r_anil, r_acons, r_aone, r_vnil, r_vcons, r_vslot, r_sl, r_onone, r_osome, r_chain, r_tchain, r_isi, r_iany, r_rg1, r_rg2, r_yes, r_frz, r_call, r_F, r_sif, r_snil, r_pass, r_break, r_cont, r_no, r_ret, r_retN, r_retNone, r_drop, r_dropN, r_asg, r_asgN, r_aug, r_stup, r_app, r_ext, r_setix, r_for, r_retOwn, wE_nComp, wE_ok, wS_nx, wS_rt, wS_bk, wS_ct, wS_seq, wV_d, wV_l, wO_d, wO_l, wL_some, wL_ite, wL_map, cB_true, cB_false, cB_not, wZ_d, wZ_l, wTk_some, wT_some, tk_nil, tk_v, tk_s, putA, mask, d1, d2, tyD, okS_d, okS_l, lOf, asI, Option.isSome_some, Option.getD_some, Option.map_some, List.getElem?_cons_zero, List.getElem?_cons_succ, List.set_cons_zero, List.set_cons_succ, List.replicate_succ, List.replicate_zero, List.cons_append, List.nil_append, List.not_mem_nil, List.mem_cons, or_false, not_false_eq_true, true_and, decide_true, if_true, if_false, reduceIte, Nat.reduceEqDiff, Nat.reduceAdd, Nat.reduceSub, Nat.reduceLeDiff, Nat.reduceLT, Int.reduceLT, Int.reduceLE, Int.reduceAdd, Int.reduceSub, Int.reduceEq, Int.reduceNeg, Nat.reduceMul, decide_false, Bool.not_true, Bool.not_false, and_true, true_or, or_true, Int.reduceMul, Int.reduceToNat, Nat.reducePow, Int.reducePow, Nat.not_lt_zero, l_addI, l_addS, l_addL, l_addT, l_sub, l_div, l_mod, l_mulI, l_mulS, l_mulL, l_eqI, l_eqS, l_neI, l_neS, l_ltI, l_leI, l_gtI, l_geI, l_ltS, l_leS, l_gtS, l_geS, l_truI, l_truB, l_truL, l_truT, l_truN, l_truS, l_lenS, l_lenL, l_lenT, l_intI, l_absI, l_tupL, l_tupT, l_itL, l_itT, l_itS, l_rg1, l_rg2, l_ixL, l_ixT, l_ixS, at_0, at_1, at_2, at_3, set_0, set_1, set_2, set_3, List.length_cons, List.length_nil, Int.cast_ofNat_Int, Int.natCast_one, tgD_n, tgD_t, tgA_nil, tgA_cons, Option.bind_some, l_isSS, l_isST, l_isSL, l_isSI, l_isTT, l_isTS, l_isTL, l_isTI, l_isII, l_isBI, l_isLL, l_ord, S_dec]
    by_cases h : a = n
    · subst h
      simp only [r_lft, r_var, r_own, r_c, r_bin, r_binO, r_cmp, r_tcmp, r_tcmpO, r_tru, r_tand, r_tor, r_tnot, r_eif, r_nif, r_and, r_or, r_not, r_neg, r_cb, r_ncb, r_bm, r_bm0, r_tup, r_lst, r_anil, r_acons, r_aone, r_vnil, r_vcons, r_vslot, r_sl, r_onone, r_osome, r_chain, r_tchain, r_isi, r_iany, r_rg1, r_rg2, r_yes, r_frz, r_call, r_F, r_sif, r_snil, r_pass, r_break, r_cont, r_no, r_ret, r_retN, r_retNone, r_drop, r_dropN, r_asg, r_asgN, r_aug, r_stup, r_app, r_ext, r_setix, r_for, r_retOwn, wE_nComp, wE_ok, wS_nx, wS_rt, wS_bk, wS_ct, wS_seq, wV_d, wV_l, wO_d, wO_l, wL_some, wL_ite, wL_map, cB_true, cB_false, cB_not, wZ_d, wZ_l, wTk_some, wT_some, tk_nil, tk_v, tk_s, putA, mask, d1, d2, tyD, okS_d, okS_l, lOf, asI, Option.isSome_some, Option.getD_some, Option.map_some, List.getElem?_cons_zero, List.getElem?_cons_succ, List.set_cons_zero, List.set_cons_succ, List.replicate_succ, List.replicate_zero, List.cons_append, List.nil_append, List.not_mem_nil, List.mem_cons, or_false, not_false_eq_true, true_and, decide_true, if_true, if_false, reduceIte, Nat.reduceEqDiff, Nat.reduceAdd, Nat.reduceSub, Nat.reduceLeDiff, Nat.reduceLT, Int.reduceLT, Int.reduceLE, Int.reduceAdd, Int.reduceSub, Int.reduceEq, Int.reduceNeg, Nat.reduceMul, decide_false, Bool.not_true, Bool.not_false, and_true, true_or, or_true, Int.reduceMul, Int.reduceToNat, Nat.reducePow, Int.reducePow, Nat.not_lt_zero, l_addI, l_addS, l_addL, l_addT, l_sub, l_div, l_mod, l_mulI, l_mulS, l_mulL, l_eqI, l_eqS, l_neI, l_neS, l_ltI, l_leI, l_gtI, l_geI, l_ltS, l_leS, l_gtS, l_geS, l_truI, l_truB, l_truL, l_truT, l_truN, l_truS, l_lenS, l_lenL, l_lenT, l_intI, l_absI, l_tupL, l_tupT, l_itL, l_itT, l_itS, l_rg1, l_rg2, l_ixL, l_ixT, l_ixS, at_0, at_1, at_2, at_3, set_0, set_1, set_2, set_3, List.length_cons, List.length_nil, Int.cast_ofNat_Int, Int.natCast_one, tgD_n, tgD_t, tgA_nil, tgA_cons, Option.bind_some, l_isSS, l_isST, l_isSL, l_isSI, l_isTT, l_isTS, l_isTL, l_isTI, l_isII, l_isBI, l_isLL, l_ord]
      rfl
    · have h2 : ¬ S a = S n := fun z => h (S_inj.mp z)
      simp only [r_lft, r_var, r_own, r_c, r_bin, r_binO, r_cmp, r_tcmp, r_tcmpO, r_tru, r_tand, r_tor, r_tnot, r_eif, r_nif, r_and, r_or, r_not, r_neg, r_cb, r_ncb, r_bm, r_bm0, r_tup, r_lst, r_anil, r_acons, r_aone, r_vnil, r_vcons, r_vslot, r_sl, r_onone, r_osome, r_chain, r_tchain, r_isi, r_iany, r_rg1, r_rg2, r_yes, r_frz, r_call, r_F, r_sif, r_snil, r_pass, r_break, r_cont, r_no, r_ret, r_retN, r_retNone, r_drop, r_dropN, r_asg, r_asgN, r_aug, r_stup, r_app, r_ext, r_setix, r_for, r_retOwn, wE_nComp, wE_ok, wS_nx, wS_rt, wS_bk, wS_ct, wS_seq, wV_d, wV_l, wO_d, wO_l, wL_some, wL_ite, wL_map, cB_true, cB_false, cB_not, wZ_d, wZ_l, wTk_some, wT_some, tk_nil, tk_v, tk_s, putA, mask, d1, d2, tyD, okS_d, okS_l, lOf, asI, Option.isSome_some, Option.getD_some, Option.map_some, List.getElem?_cons_zero, List.getElem?_cons_succ, List.set_cons_zero, List.set_cons_succ, List.replicate_succ, List.replicate_zero, List.cons_append, List.nil_append, List.not_mem_nil, List.mem_cons, or_false, not_false_eq_true, true_and, decide_true, if_true, if_false, reduceIte, Nat.reduceEqDiff, Nat.reduceAdd, Nat.reduceSub, Nat.reduceLeDiff, Nat.reduceLT, Int.reduceLT, Int.reduceLE, Int.reduceAdd, Int.reduceSub, Int.reduceEq, Int.reduceNeg, Nat.reduceMul, decide_false, Bool.not_true, Bool.not_false, and_true, true_or, or_true, Int.reduceMul, Int.reduceToNat, Nat.reducePow, Int.reducePow, Nat.not_lt_zero, l_addI, l_addS, l_addL, l_addT, l_sub, l_div, l_mod, l_mulI, l_mulS, l_mulL, l_eqI, l_eqS, l_neI, l_neS, l_ltI, l_leI, l_gtI, l_geI, l_ltS, l_leS, l_gtS, l_geS, l_truI, l_truB, l_truL, l_truT, l_truN, l_truS, l_lenS, l_lenL, l_lenT, l_intI, l_absI, l_tupL, l_tupT, l_itL, l_itT, l_itS, l_rg1, l_rg2, l_ixL, l_ixT, l_ixS, at_0, at_1, at_2, at_3, set_0, set_1, set_2, set_3, List.length_cons, List.length_nil, Int.cast_ofNat_Int, Int.natCast_one, tgD_n, tgD_t, tgA_nil, tgA_cons, Option.bind_some, l_isSS, l_isST, l_isSL, l_isSI, l_isTT, l_isTS, l_isTL, l_isTI, l_isII, l_isBI, l_isLL, l_ord, decide_eq_false h, if_neg h2]
      rfl
  · rw [fm_vals n fun p => .str (S p.2)]
    exact ⟨rfl, rfl⟩
theorem valuesof {hs : List (T × T)} {ls : List T} (g : Good hs ls) {n : T} (hn : okName n = true) : m_values_of [.d (LD hs ls), .d (.str (S n))] = .ok (.d (.tuple (vals hs n))) [.un, .un] := by
  refine eqF (wF_run rfl ?_)
  simp only [b_values_of, r_lft, r_var, r_own, r_c, r_bin, r_binO, r_cmp, r_tcmp, r_tcmpO, r_tru, r_tand, r_tor, r_tnot, r_eif, r_nif, r_and, r_or, r_not, r_neg, r_cb, r_ncb, r_bm, r_bm0, r_tup, r_lst, r_anil, r_acons, r_aone, r_vnil, r_vcons, r_vslot, r_sl, r_onone, r_osome, r_chain, r_tchain, r_isi, r_iany, r_rg1, r_rg2, r_yes, r_frz, r_call, r_F, r_sif, r_snil, r_pass, r_break, r_cont, r_no, r_ret, r_retN, r_retNone, r_drop, r_dropN, r_asg, r_asgN, r_aug, r_stup, r_app, r_ext, r_setix, r_for, r_retOwn, wE_nComp, wE_ok, wS_nx, wS_rt, wS_bk, wS_ct, wS_seq, wV_d, wV_l, wO_d, wO_l, wL_some, wL_ite, wL_map, cB_true, cB_false, cB_not, wZ_d, wZ_l, wTk_some, wT_some, tk_nil, tk_v, tk_s, putA, mask, d1, d2, tyD, okS_d, okS_l, lOf, asI, Option.isSome_some, Option.getD_some, Option.map_some, List.getElem?_cons_zero, List.getElem?_cons_succ, List.set_cons_zero, List.set_cons_succ, List.replicate_succ, List.replicate_zero, List.cons_append, List.nil_append, List.not_mem_nil, List.mem_cons, or_false, not_false_eq_true, true_and, decide_true, if_true, if_false, reduceIte, Nat.reduceEqDiff, Nat.reduceAdd, Nat.reduceSub, Nat.reduceLeDiff, Nat.reduceLT, Int.reduceLT, Int.reduceLE, Int.reduceAdd, Int.reduceSub, Int.reduceEq, Int.reduceNeg, Nat.reduceMul, decide_false, Bool.not_true, Bool.not_false, and_true, true_or, or_true, Int.reduceMul, Int.reduceToNat, Nat.reducePow, Int.reducePow, Nat.not_lt_zero, l_addI, l_addS, l_addL, l_addT, l_sub, l_div, l_mod, l_mulI, l_mulS, l_mulL, l_eqI, l_eqS, l_neI, l_neS, l_ltI, l_leI, l_gtI, l_geI, l_ltS, l_leS, l_gtS, l_geS, l_truI, l_truB, l_truL, l_truT, l_truN, l_truS, l_lenS, l_lenL, l_lenT, l_intI, l_absI, l_tupL, l_tupT, l_itL, l_itT, l_itS, l_rg1, l_rg2, l_ixL, l_ixT, l_ixS, at_0, at_1, at_2, at_3, set_0, set_1, set_2, set_3, List.length_cons, List.length_nil, Int.cast_ofNat_Int, Int.natCast_one, tgD_n, tgD_t, tgA_nil, tgA_cons, Option.bind_some, l_isSS, l_isST, l_isSL, l_isSI, l_isTT, l_isTS, l_isTL, l_isTI, l_isII, l_isBI, l_isLL, l_ord, check_ok g, checkname_ok hn, valuesin g n]
def fst : List D → D
  | [] => .none
  | v :: _ => v
theorem firstvalue {hs : List (T × T)} {ls : List T} (g : Good hs ls) (n : T) : m_first_value [.d (LD hs ls), .d (.str (S n))] = .ok (.d (fst (vals hs n))) [.un, .un] := by
  refine eqF (wF_run rfl ?_)
  simp only [b_first_value, r_lft, r_var, r_own, r_c, r_bin, r_binO, r_cmp, r_tcmp, r_tcmpO, r_tru, r_tand, r_tor, r_tnot, r_eif, r_nif, r_and, r_or, r_not, r_neg, r_cb, r_ncb, r_bm, r_bm0, r_tup, r_lst, r_anil, r_acons, r_aone, r_vnil, r_vcons, r_vslot, r_sl, r_onone, r_osome, r_chain, r_tchain, r_isi, r_iany, r_rg1, r_rg2, r_yes, r_frz, r_call, r_F, r_sif, r_snil, r_pass, r_break, r_cont, r_no, r_ret, r_retN, r_retNone, r_drop, r_dropN, r_asg, r_asgN, r_aug, r_stup, r_app, r_ext, r_setix, r_for, r_retOwn, wE_nComp, wE_ok, wS_nx, wS_rt, wS_bk, wS_ct, wS_seq, wV_d, wV_l, wO_d, wO_l, wL_some, wL_ite, wL_map, cB_true, cB_false, cB_not, wZ_d, wZ_l, wTk_some, wT_some, tk_nil, tk_v, tk_s, putA, mask, d1, d2, tyD, okS_d, okS_l, lOf, asI, Option.isSome_some, Option.getD_some, Option.map_some, List.getElem?_cons_zero, List.getElem?_cons_succ, List.set_cons_zero, List.set_cons_succ, List.replicate_succ, List.replicate_zero, List.cons_append, List.nil_append, List.not_mem_nil, List.mem_cons, or_false, not_false_eq_true, true_and, decide_true, if_true, if_false, reduceIte, Nat.reduceEqDiff, Nat.reduceAdd, Nat.reduceSub, Nat.reduceLeDiff, Nat.reduceLT, Int.reduceLT, Int.reduceLE, Int.reduceAdd, Int.reduceSub, Int.reduceEq, Int.reduceNeg, Nat.reduceMul, decide_false, Bool.not_true, Bool.not_false, and_true, true_or, or_true, Int.reduceMul, Int.reduceToNat, Nat.reducePow, Int.reducePow, Nat.not_lt_zero, l_addI, l_addS, l_addL, l_addT, l_sub, l_div, l_mod, l_mulI, l_mulS, l_mulL, l_eqI, l_eqS, l_neI, l_neS, l_ltI, l_leI, l_gtI, l_geI, l_ltS, l_leS, l_gtS, l_geS, l_truI, l_truB, l_truL, l_truT, l_truN, l_truS, l_lenS, l_lenL, l_lenT, l_intI, l_absI, l_tupL, l_tupT, l_itL, l_itT, l_itS, l_rg1, l_rg2, l_ixL, l_ixT, l_ixS, at_0, at_1, at_2, at_3, set_0, set_1, set_2, set_3, List.length_cons, List.length_nil, Int.cast_ofNat_Int, Int.natCast_one, tgD_n, tgD_t, tgA_nil, tgA_cons, Option.bind_some, l_isSS, l_isST, l_isSL, l_isSI, l_isTT, l_isTS, l_isTL, l_isTI, l_isII, l_isBI, l_isLL, l_ord, valuesin g n]
  cases vals hs n with
  | nil => simp only [List.isEmpty_nil, r_lft, r_var, r_own, r_c, r_bin, r_binO, r_cmp, r_tcmp, r_tcmpO, r_tru, r_tand, r_tor, r_tnot, r_eif, r_nif, r_and, r_or, r_not, r_neg, r_cb, r_ncb, r_bm, r_bm0, r_tup, r_lst, r_anil, r_acons, r_aone, r_vnil, r_vcons, r_vslot, r_sl, r_onone, r_osome, r_chain, r_tchain, r_isi, r_iany, r_rg1, r_rg2, r_yes, r_frz, r_call, r_F, r_sif, r_snil, r_pass, r_break, r_cont, r_no, r_ret, r_retN, r_retNone, r_drop, r_dropN, r_asg, r_asgN, r_aug, r_stup, r_app, r_ext, r_setix, r_for, r_retOwn, wE_nComp, wE_ok, wS_nx, wS_rt, wS_bk, wS_ct, wS_seq, wV_d, wV_l, wO_d, wO_l, wL_some, wL_ite, wL_map, cB_true, cB_false, cB_not, wZ_d, wZ_l, wTk_some, wT_some, tk_nil, tk_v, tk_s, putA, mask, d1, d2, tyD, okS_d, okS_l, lOf, asI, Option.isSome_some, Option.getD_some, Option.map_some, List.getElem?_cons_zero, List.getElem?_cons_succ, List.set_cons_zero, List.set_cons_succ, List.replicate_succ, List.replicate_zero, List.cons_append, List.nil_append, List.not_mem_nil, List.mem_cons, or_false, not_false_eq_true, true_and, decide_true, if_true, if_false, reduceIte, Nat.reduceEqDiff, Nat.reduceAdd, Nat.reduceSub, Nat.reduceLeDiff, Nat.reduceLT, Int.reduceLT, Int.reduceLE, Int.reduceAdd, Int.reduceSub, Int.reduceEq, Int.reduceNeg, Nat.reduceMul, decide_false, Bool.not_true, Bool.not_false, and_true, true_or, or_true, Int.reduceMul, Int.reduceToNat, Nat.reducePow, Int.reducePow, Nat.not_lt_zero, l_addI, l_addS, l_addL, l_addT, l_sub, l_div, l_mod, l_mulI, l_mulS, l_mulL, l_eqI, l_eqS, l_neI, l_neS, l_ltI, l_leI, l_gtI, l_geI, l_ltS, l_leS, l_gtS, l_geS, l_truI, l_truB, l_truL, l_truT, l_truN, l_truS, l_lenS, l_lenL, l_lenT, l_intI, l_absI, l_tupL, l_tupT, l_itL, l_itT, l_itS, l_rg1, l_rg2, l_ixL, l_ixT, l_ixS, at_0, at_1, at_2, at_3, set_0, set_1, set_2, set_3, List.length_cons, List.length_nil, Int.cast_ofNat_Int, Int.natCast_one, tgD_n, tgD_t, tgA_nil, tgA_cons, Option.bind_some, l_isSS, l_isST, l_isSL, l_isSI, l_isTT, l_isTS, l_isTL, l_isTI, l_isII, l_isBI, l_isLL, l_ord]; rfl
  | cons v r => simp only [List.isEmpty_cons, r_lft, r_var, r_own, r_c, r_bin, r_binO, r_cmp, r_tcmp, r_tcmpO, r_tru, r_tand, r_tor, r_tnot, r_eif, r_nif, r_and, r_or, r_not, r_neg, r_cb, r_ncb, r_bm, r_bm0, r_tup, r_lst, r_anil, r_acons, r_aone, r_vnil, r_vcons, r_vslot, r_sl, r_onone, r_osome, r_chain, r_tchain, r_isi, r_iany, r_rg1, r_rg2, r_yes, r_frz, r_call, r_F, r_sif, r_snil, r_pass, r_break, r_cont, r_no, r_ret, r_retN, r_retNone, r_drop, r_dropN, r_asg, r_asgN, r_aug, r_stup, r_app, r_ext, r_setix, r_for, r_retOwn, wE_nComp, wE_ok, wS_nx, wS_rt, wS_bk, wS_ct, wS_seq, wV_d, wV_l, wO_d, wO_l, wL_some, wL_ite, wL_map, cB_true, cB_false, cB_not, wZ_d, wZ_l, wTk_some, wT_some, tk_nil, tk_v, tk_s, putA, mask, d1, d2, tyD, okS_d, okS_l, lOf, asI, Option.isSome_some, Option.getD_some, Option.map_some, List.getElem?_cons_zero, List.getElem?_cons_succ, List.set_cons_zero, List.set_cons_succ, List.replicate_succ, List.replicate_zero, List.cons_append, List.nil_append, List.not_mem_nil, List.mem_cons, or_false, not_false_eq_true, true_and, decide_true, if_true, if_false, reduceIte, Nat.reduceEqDiff, Nat.reduceAdd, Nat.reduceSub, Nat.reduceLeDiff, Nat.reduceLT, Int.reduceLT, Int.reduceLE, Int.reduceAdd, Int.reduceSub, Int.reduceEq, Int.reduceNeg, Nat.reduceMul, decide_false, Bool.not_true, Bool.not_false, and_true, true_or, or_true, Int.reduceMul, Int.reduceToNat, Nat.reducePow, Int.reducePow, Nat.not_lt_zero, l_addI, l_addS, l_addL, l_addT, l_sub, l_div, l_mod, l_mulI, l_mulS, l_mulL, l_eqI, l_eqS, l_neI, l_neS, l_ltI, l_leI, l_gtI, l_geI, l_ltS, l_leS, l_gtS, l_geS, l_truI, l_truB, l_truL, l_truT, l_truN, l_truS, l_lenS, l_lenL, l_lenT, l_intI, l_absI, l_tupL, l_tupT, l_itL, l_itT, l_itS, l_rg1, l_rg2, l_ixL, l_ixT, l_ixS, at_0, at_1, at_2, at_3, set_0, set_1, set_2, set_3, List.length_cons, List.length_nil, Int.cast_ofNat_Int, Int.natCast_one, tgD_n, tgD_t, tgA_nil, tgA_cons, Option.bind_some, l_isSS, l_isST, l_isSL, l_isSI, l_isTT, l_isTS, l_isTL, l_isTI, l_isII, l_isBI, l_isLL, l_ord]; rfl
theorem valueof {hs : List (T × T)} {ls : List T} (g : Good hs ls) {n : T} (hn : okName n = true) : m_value_of [.d (LD hs ls), .d (.str (S n))] = .ok (.d (fst (vals hs n))) [.un, .un] := by
  refine eqF (wF_run rfl ?_)
  simp only [b_value_of, r_lft, r_var, r_own, r_c, r_bin, r_binO, r_cmp, r_tcmp, r_tcmpO, r_tru, r_tand, r_tor, r_tnot, r_eif, r_nif, r_and, r_or, r_not, r_neg, r_cb, r_ncb, r_bm, r_bm0, r_tup, r_lst, r_anil, r_acons, r_aone, r_vnil, r_vcons, r_vslot, r_sl, r_onone, r_osome, r_chain, r_tchain, r_isi, r_iany, r_rg1, r_rg2, r_yes, r_frz, r_call, r_F, r_sif, r_snil, r_pass, r_break, r_cont, r_no, r_ret, r_retN, r_retNone, r_drop, r_dropN, r_asg, r_asgN, r_aug, r_stup, r_app, r_ext, r_setix, r_for, r_retOwn, wE_nComp, wE_ok, wS_nx, wS_rt, wS_bk, wS_ct, wS_seq, wV_d, wV_l, wO_d, wO_l, wL_some, wL_ite, wL_map, cB_true, cB_false, cB_not, wZ_d, wZ_l, wTk_some, wT_some, tk_nil, tk_v, tk_s, putA, mask, d1, d2, tyD, okS_d, okS_l, lOf, asI, Option.isSome_some, Option.getD_some, Option.map_some, List.getElem?_cons_zero, List.getElem?_cons_succ, List.set_cons_zero, List.set_cons_succ, List.replicate_succ, List.replicate_zero, List.cons_append, List.nil_append, List.not_mem_nil, List.mem_cons, or_false, not_false_eq_true, true_and, decide_true, if_true, if_false, reduceIte, Nat.reduceEqDiff, Nat.reduceAdd, Nat.reduceSub, Nat.reduceLeDiff, Nat.reduceLT, Int.reduceLT, Int.reduceLE, Int.reduceAdd, Int.reduceSub, Int.reduceEq, Int.reduceNeg, Nat.reduceMul, decide_false, Bool.not_true, Bool.not_false, and_true, true_or, or_true, Int.reduceMul, Int.reduceToNat, Nat.reducePow, Int.reducePow, Nat.not_lt_zero, l_addI, l_addS, l_addL, l_addT, l_sub, l_div, l_mod, l_mulI, l_mulS, l_mulL, l_eqI, l_eqS, l_neI, l_neS, l_ltI, l_leI, l_gtI, l_geI, l_ltS, l_leS, l_gtS, l_geS, l_truI, l_truB, l_truL, l_truT, l_truN, l_truS, l_lenS, l_lenL, l_lenT, l_intI, l_absI, l_tupL, l_tupT, l_itL, l_itT, l_itS, l_rg1, l_rg2, l_ixL, l_ixT, l_ixS, at_0, at_1, at_2, at_3, set_0, set_1, set_2, set_3, List.length_cons, List.length_nil, Int.cast_ofNat_Int, Int.natCast_one, tgD_n, tgD_t, tgA_nil, tgA_cons, Option.bind_some, l_isSS, l_isST, l_isSL, l_isSI, l_isTT, l_isTS, l_isTL, l_isTI, l_isII, l_isBI, l_isLL, l_ord, check_ok g, checkname_ok hn, firstvalue g n]
theorem withhead {hs : List (T × T)} {ls : List T} (g : Good hs ls) {n v : T} (hn : okName n = true) (hv : okVal v = true) (hl : hs.length < 40) : m_with_head [.d (LD hs ls), .d (.str (S n)), .d (.str (S v))] = .ok (.d (LD ((n, v) :: hs) ls)) [.un, .un, .un] := by
  refine eqF (wF_run rfl ?_)
  simp only [b_with_head, r_lft, r_var, r_own, r_c, r_bin, r_binO, r_cmp, r_tcmp, r_tcmpO, r_tru, r_tand, r_tor, r_tnot, r_eif, r_nif, r_and, r_or, r_not, r_neg, r_cb, r_ncb, r_bm, r_bm0, r_tup, r_lst, r_anil, r_acons, r_aone, r_vnil, r_vcons, r_vslot, r_sl, r_onone, r_osome, r_chain, r_tchain, r_isi, r_iany, r_rg1, r_rg2, r_yes, r_frz, r_call, r_F, r_sif, r_snil, r_pass, r_break, r_cont, r_no, r_ret, r_retN, r_retNone, r_drop, r_dropN, r_asg, r_asgN, r_aug, r_stup, r_app, r_ext, r_setix, r_for, r_retOwn, wE_nComp, wE_ok, wS_nx, wS_rt, wS_bk, wS_ct, wS_seq, wV_d, wV_l, wO_d, wO_l, wL_some, wL_ite, wL_map, cB_true, cB_false, cB_not, wZ_d, wZ_l, wTk_some, wT_some, tk_nil, tk_v, tk_s, putA, mask, d1, d2, tyD, okS_d, okS_l, lOf, asI, Option.isSome_some, Option.getD_some, Option.map_some, List.getElem?_cons_zero, List.getElem?_cons_succ, List.set_cons_zero, List.set_cons_succ, List.replicate_succ, List.replicate_zero, List.cons_append, List.nil_append, List.not_mem_nil, List.mem_cons, or_false, not_false_eq_true, true_and, decide_true, if_true, if_false, reduceIte, Nat.reduceEqDiff, Nat.reduceAdd, Nat.reduceSub, Nat.reduceLeDiff, Nat.reduceLT, Int.reduceLT, Int.reduceLE, Int.reduceAdd, Int.reduceSub, Int.reduceEq, Int.reduceNeg, Nat.reduceMul, decide_false, Bool.not_true, Bool.not_false, and_true, true_or, or_true, Int.reduceMul, Int.reduceToNat, Nat.reducePow, Int.reducePow, Nat.not_lt_zero, l_addI, l_addS, l_addL, l_addT, l_sub, l_div, l_mod, l_mulI, l_mulS, l_mulL, l_eqI, l_eqS, l_neI, l_neS, l_ltI, l_leI, l_gtI, l_geI, l_ltS, l_leS, l_gtS, l_geS, l_truI, l_truB, l_truL, l_truT, l_truN, l_truS, l_lenS, l_lenL, l_lenT, l_intI, l_absI, l_tupL, l_tupT, l_itL, l_itT, l_itS, l_rg1, l_rg2, l_ixL, l_ixT, l_ixS, at_0, at_1, at_2, at_3, set_0, set_1, set_2, set_3, List.length_cons, List.length_nil, Int.cast_ofNat_Int, Int.natCast_one, tgD_n, tgD_t, tgA_nil, tgA_cons, Option.bind_some, l_isSS, l_isST, l_isSL, l_isSI, l_isTT, l_isTS, l_isTL, l_isTI, l_isII, l_isBI, l_isLL, l_ord, check_ok g, checkname_ok hn, isvalue hv]
  simp only [LD, r_lft, r_var, r_own, r_c, r_bin, r_binO, r_cmp, r_tcmp, r_tcmpO, r_tru, r_tand, r_tor, r_tnot, r_eif, r_nif, r_and, r_or, r_not, r_neg, r_cb, r_ncb, r_bm, r_bm0, r_tup, r_lst, r_anil, r_acons, r_aone, r_vnil, r_vcons, r_vslot, r_sl, r_onone, r_osome, r_chain, r_tchain, r_isi, r_iany, r_rg1, r_rg2, r_yes, r_frz, r_call, r_F, r_sif, r_snil, r_pass, r_break, r_cont, r_no, r_ret, r_retN, r_retNone, r_drop, r_dropN, r_asg, r_asgN, r_aug, r_stup, r_app, r_ext, r_setix, r_for, r_retOwn, wE_nComp, wE_ok, wS_nx, wS_rt, wS_bk, wS_ct, wS_seq, wV_d, wV_l, wO_d, wO_l, wL_some, wL_ite, wL_map, cB_true, cB_false, cB_not, wZ_d, wZ_l, wTk_some, wT_some, tk_nil, tk_v, tk_s, putA, mask, d1, d2, tyD, okS_d, okS_l, lOf, asI, Option.isSome_some, Option.getD_some, Option.map_some, List.getElem?_cons_zero, List.getElem?_cons_succ, List.set_cons_zero, List.set_cons_succ, List.replicate_succ, List.replicate_zero, List.cons_append, List.nil_append, List.not_mem_nil, List.mem_cons, or_false, not_false_eq_true, true_and, decide_true, if_true, if_false, reduceIte, Nat.reduceEqDiff, Nat.reduceAdd, Nat.reduceSub, Nat.reduceLeDiff, Nat.reduceLT, Int.reduceLT, Int.reduceLE, Int.reduceAdd, Int.reduceSub, Int.reduceEq, Int.reduceNeg, Nat.reduceMul, decide_false, Bool.not_true, Bool.not_false, and_true, true_or, or_true, Int.reduceMul, Int.reduceToNat, Nat.reducePow, Int.reducePow, Nat.not_lt_zero, l_addI, l_addS, l_addL, l_addT, l_sub, l_div, l_mod, l_mulI, l_mulS, l_mulL, l_eqI, l_eqS, l_neI, l_neS, l_ltI, l_leI, l_gtI, l_geI, l_ltS, l_leS, l_gtS, l_geS, l_truI, l_truB, l_truL, l_truT, l_truN, l_truS, l_lenS, l_lenL, l_lenT, l_intI, l_absI, l_tupL, l_tupT, l_itL, l_itT, l_itS, l_rg1, l_rg2, l_ixL, l_ixT, l_ixS, at_0, at_1, at_2, at_3, set_0, set_1, set_2, set_3, List.length_cons, List.length_nil, Int.cast_ofNat_Int, Int.natCast_one, tgD_n, tgD_t, tgA_nil, tgA_cons, Option.bind_some, l_isSS, l_isST, l_isSL, l_isSI, l_isTT, l_isTS, l_isTL, l_isTI, l_isII, l_isBI, l_isLL, l_ord, List.length_map]
  refine cB_dec (fun z => by omega) fun _ => ?_
  simp only [LD, r_lft, r_var, r_own, r_c, r_bin, r_binO, r_cmp, r_tcmp, r_tcmpO, r_tru, r_tand, r_tor, r_tnot, r_eif, r_nif, r_and, r_or, r_not, r_neg, r_cb, r_ncb, r_bm, r_bm0, r_tup, r_lst, r_anil, r_acons, r_aone, r_vnil, r_vcons, r_vslot, r_sl, r_onone, r_osome, r_chain, r_tchain, r_isi, r_iany, r_rg1, r_rg2, r_yes, r_frz, r_call, r_F, r_sif, r_snil, r_pass, r_break, r_cont, r_no, r_ret, r_retN, r_retNone, r_drop, r_dropN, r_asg, r_asgN, r_aug, r_stup, r_app, r_ext, r_setix, r_for, r_retOwn, wE_nComp, wE_ok, wS_nx, wS_rt, wS_bk, wS_ct, wS_seq, wV_d, wV_l, wO_d, wO_l, wL_some, wL_ite, wL_map, cB_true, cB_false, cB_not, wZ_d, wZ_l, wTk_some, wT_some, tk_nil, tk_v, tk_s, putA, mask, d1, d2, tyD, okS_d, okS_l, lOf, asI, Option.isSome_some, Option.getD_some, Option.map_some, List.getElem?_cons_zero, List.getElem?_cons_succ, List.set_cons_zero, List.set_cons_succ, List.replicate_succ, List.replicate_zero, List.cons_append, List.nil_append, List.not_mem_nil, List.mem_cons, or_false, not_false_eq_true, true_and, decide_true, if_true, if_false, reduceIte, Nat.reduceEqDiff, Nat.reduceAdd, Nat.reduceSub, Nat.reduceLeDiff, Nat.reduceLT, Int.reduceLT, Int.reduceLE, Int.reduceAdd, Int.reduceSub, Int.reduceEq, Int.reduceNeg, Nat.reduceMul, decide_false, Bool.not_true, Bool.not_false, and_true, true_or, or_true, Int.reduceMul, Int.reduceToNat, Nat.reducePow, Int.reducePow, Nat.not_lt_zero, l_addI, l_addS, l_addL, l_addT, l_sub, l_div, l_mod, l_mulI, l_mulS, l_mulL, l_eqI, l_eqS, l_neI, l_neS, l_ltI, l_leI, l_gtI, l_geI, l_ltS, l_leS, l_gtS, l_geS, l_truI, l_truB, l_truL, l_truT, l_truN, l_truS, l_lenS, l_lenL, l_lenT, l_intI, l_absI, l_tupL, l_tupT, l_itL, l_itT, l_itS, l_rg1, l_rg2, l_ixL, l_ixT, l_ixS, at_0, at_1, at_2, at_3, set_0, set_1, set_2, set_3, List.length_cons, List.length_nil, Int.cast_ofNat_Int, Int.natCast_one, tgD_n, tgD_t, tgA_nil, tgA_cons, Option.bind_some, l_isSS, l_isST, l_isSL, l_isSI, l_isTT, l_isTS, l_isTL, l_isTI, l_isII, l_isBI, l_isLL, l_ord, List.length_map]
  exact ⟨by omega, rfl⟩
theorem fm_not (n : T) : ∀ hs : List (T × T), (hs.map hd).filterMap (fun x => match x with | .tuple [.str a, .str b] => if a = S n then none else some (hd (a.cps.toList, b.cps.toList)) | _ => none) = (hs.filter fun p => !decide (p.1 = n)).map hd
  | [] => rfl
  | (a, b) :: r => by
    rw [List.map_cons, List.filterMap_cons]
    by_cases h : a = n
    · subst h
      rw [List.filter_cons_of_neg (by simp), ← fm_not a r]
      simp only [hd, if_true]
    · rw [List.filter_cons_of_pos (by simpa using h), List.map_cons, ← fm_not n r]
      have : ¬ S a = S n := fun z => h (S_inj.mp z)
      simp only [hd, if_neg this]
theorem withoutheads {hs : List (T × T)} {ls : List T} (g : Good hs ls) {n : T} (hn : okName n = true) : m_without_heads [.d (LD hs ls), .d (.str (S n))] = .ok (.d (LD (hs.filter fun p => !decide (p.1 = n)) ls)) [.un, .un] := by
  have := g.h1
  refine eqF (wF_run rfl ?_)
  simp only [b_without_heads, r_lft, r_var, r_own, r_c, r_bin, r_binO, r_cmp, r_tcmp, r_tcmpO, r_tru, r_tand, r_tor, r_tnot, r_eif, r_nif, r_and, r_or, r_not, r_neg, r_cb, r_ncb, r_bm, r_bm0, r_tup, r_lst, r_anil, r_acons, r_aone, r_vnil, r_vcons, r_vslot, r_sl, r_onone, r_osome, r_chain, r_tchain, r_isi, r_iany, r_rg1, r_rg2, r_yes, r_frz, r_call, r_F, r_sif, r_snil, r_pass, r_break, r_cont, r_no, r_ret, r_retN, r_retNone, r_drop, r_dropN, r_asg, r_asgN, r_aug, r_stup, r_app, r_ext, r_setix, r_for, r_retOwn, wE_nComp, wE_ok, wS_nx, wS_rt, wS_bk, wS_ct, wS_seq, wV_d, wV_l, wO_d, wO_l, wL_some, wL_ite, wL_map, cB_true, cB_false, cB_not, wZ_d, wZ_l, wTk_some, wT_some, tk_nil, tk_v, tk_s, putA, mask, d1, d2, tyD, okS_d, okS_l, lOf, asI, Option.isSome_some, Option.getD_some, Option.map_some, List.getElem?_cons_zero, List.getElem?_cons_succ, List.set_cons_zero, List.set_cons_succ, List.replicate_succ, List.replicate_zero, List.cons_append, List.nil_append, List.not_mem_nil, List.mem_cons, or_false, not_false_eq_true, true_and, decide_true, if_true, if_false, reduceIte, Nat.reduceEqDiff, Nat.reduceAdd, Nat.reduceSub, Nat.reduceLeDiff, Nat.reduceLT, Int.reduceLT, Int.reduceLE, Int.reduceAdd, Int.reduceSub, Int.reduceEq, Int.reduceNeg, Nat.reduceMul, decide_false, Bool.not_true, Bool.not_false, and_true, true_or, or_true, Int.reduceMul, Int.reduceToNat, Nat.reducePow, Int.reducePow, Nat.not_lt_zero, l_addI, l_addS, l_addL, l_addT, l_sub, l_div, l_mod, l_mulI, l_mulS, l_mulL, l_eqI, l_eqS, l_neI, l_neS, l_ltI, l_leI, l_gtI, l_geI, l_ltS, l_leS, l_gtS, l_geS, l_truI, l_truB, l_truL, l_truT, l_truN, l_truS, l_lenS, l_lenL, l_lenT, l_intI, l_absI, l_tupL, l_tupT, l_itL, l_itT, l_itS, l_rg1, l_rg2, l_ixL, l_ixT, l_ixS, at_0, at_1, at_2, at_3, set_0, set_1, set_2, set_3, List.length_cons, List.length_nil, Int.cast_ofNat_Int, Int.natCast_one, tgD_n, tgD_t, tgA_nil, tgA_cons, Option.bind_some, l_isSS, l_isST, l_isSL, l_isSI, l_isTT, l_isTS, l_isTL, l_isTI, l_isII, l_isBI, l_isLL, l_ord, check_ok g, checkname_ok hn]
  simp only [LD, r_lft, r_var, r_own, r_c, r_bin, r_binO, r_cmp, r_tcmp, r_tcmpO, r_tru, r_tand, r_tor, r_tnot, r_eif, r_nif, r_and, r_or, r_not, r_neg, r_cb, r_ncb, r_bm, r_bm0, r_tup, r_lst, r_anil, r_acons, r_aone, r_vnil, r_vcons, r_vslot, r_sl, r_onone, r_osome, r_chain, r_tchain, r_isi, r_iany, r_rg1, r_rg2, r_yes, r_frz, r_call, r_F, r_sif, r_snil, r_pass, r_break, r_cont, r_no, r_ret, r_retN, r_retNone, r_drop, r_dropN, r_asg, r_asgN, r_aug, r_stup, r_app, r_ext, r_setix, r_for, r_retOwn, wE_nComp, wE_ok, wS_nx, wS_rt, wS_bk, wS_ct, wS_seq, wV_d, wV_l, wO_d, wO_l, wL_some, wL_ite, wL_map, cB_true, cB_false, cB_not, wZ_d, wZ_l, wTk_some, wT_some, tk_nil, tk_v, tk_s, putA, mask, d1, d2, tyD, okS_d, okS_l, lOf, asI, Option.isSome_some, Option.getD_some, Option.map_some, List.getElem?_cons_zero, List.getElem?_cons_succ, List.set_cons_zero, List.set_cons_succ, List.replicate_succ, List.replicate_zero, List.cons_append, List.nil_append, List.not_mem_nil, List.mem_cons, or_false, not_false_eq_true, true_and, decide_true, if_true, if_false, reduceIte, Nat.reduceEqDiff, Nat.reduceAdd, Nat.reduceSub, Nat.reduceLeDiff, Nat.reduceLT, Int.reduceLT, Int.reduceLE, Int.reduceAdd, Int.reduceSub, Int.reduceEq, Int.reduceNeg, Nat.reduceMul, decide_false, Bool.not_true, Bool.not_false, and_true, true_or, or_true, Int.reduceMul, Int.reduceToNat, Nat.reducePow, Int.reducePow, Nat.not_lt_zero, l_addI, l_addS, l_addL, l_addT, l_sub, l_div, l_mod, l_mulI, l_mulS, l_mulL, l_eqI, l_eqS, l_neI, l_neS, l_ltI, l_leI, l_gtI, l_geI, l_ltS, l_leS, l_gtS, l_geS, l_truI, l_truB, l_truL, l_truT, l_truN, l_truS, l_lenS, l_lenL, l_lenT, l_intI, l_absI, l_tupL, l_tupT, l_itL, l_itT, l_itS, l_rg1, l_rg2, l_ixL, l_ixT, l_ixS, at_0, at_1, at_2, at_3, set_0, set_1, set_2, set_3, List.length_cons, List.length_nil, Int.cast_ofNat_Int, Int.natCast_one, tgD_n, tgD_t, tgA_nil, tgA_cons, Option.bind_some, l_isSS, l_isST, l_isSL, l_isSI, l_isTT, l_isTS, l_isTL, l_isTI, l_isII, l_isBI, l_isLL, l_ord]
  refine wE_comp [.d (LD hs ls), .d (.str (S n)), .un] (fun x => match x with | .tuple [.str a, .str b] => if a = S n then none else some (hd (a.cps.toList, b.cps.toList)) | _ => none) rfl ?_ (fun x hx => ?_) ?_
  · rw [List.length_map]; omega
  · obtain ⟨⟨a, b⟩, hp, rfl⟩ := List.mem_map.mp hx
    refine ⟨_, rfl, ?_⟩
    simp only [hd, r_lft, r_var, r_own, r_c, r_bin, r_binO, r_cmp, r_tcmp, r_tcmpO, r_tru, r_tand, r_tor, r_tnot, r_eif, r_nif, r_and, r_or, r_not, r_neg, r_cb, r_ncb, r_bm, r_bm0, r_tup, r_lst, r_anil, r_acons, r_aone, r_vnil, r_vcons, r_vslot, r_sl, r_onone, r_osome, r_chain, r_tchain, r_isi, r_iany, r_rg1, r_rg2, r_yes, r_frz, r_call, r_F, r_sif, r_snil, r_pass, r_break, r_cont, r_no, r_ret, r_retN, r_retNone, r_drop, r_dropN, r_asg, r_asgN, r_aug, r_stup, r_app, r_ext, r_setix, r_for, r_retOwn, wE_nComp, wE_ok, wS_nx, wS_rt, wS_bk, wS_ct, wS_seq, wV_d, wV_l, wO_d, wO_l, wL_some, wL_ite, wL_map, cB_true, cB_false, cB_not, wZ_d, wZ_l, wTk_some, wT_some, tk_nil, tk_v, tk_s, putA, mask, d1, d2, tyD, okS_d, okS_l, lOf, asI, Option.isSome_some, Option.getD_some, Option.map_some, List.getElem?_cons_zero, List.getElem?_cons_succ, List.set_cons_zero, List.set_cons_succ, List.replicate_succ, List.replicate_zero, List.cons_append, List.nil_append, List.not_mem_nil, List.mem_cons, or_false, not_false_eq_true, true_and, decide_true, if_true, if_false, reduceIte, Nat.reduceEqDiff, Nat.reduceAdd, Nat.reduceSub, Nat.reduceLeDiff, Nat.reduceLT, Int.reduceLT, Int.reduceLE, Int.reduceAdd, Int.reduceSub, Int.reduceEq, Int.reduceNeg, Nat.reduceMul, decide_false, Bool.not_true, Bool.not_false, and_true, true_or, or_true, Int.reduceMul, Int.reduceToNat, Nat.reducePow, Int.reducePow, Nat.not_lt_zero, l_addI, l_addS, l_addL, l_addT, l_sub, l_div, l_mod, l_mulI, l_mulS, l_mulL, l_eqI, l_eqS, l_neI, l_neS, l_ltI, l_leI, l_gtI, l_geI, l_ltS, l_leS, l_gtS, l_geS, l_truI, l_truB, l_truL, l_truT, l_truN, l_truS, l_lenS, l_lenL, l_lenT, l_intI, l_absI, l_tupL, l_tupT, l_itL, l_itT, l_itS, l_rg1, l_rg2, l_ixL, l_ixT, l_ixS, at_0, at_1, at_2, at_3, set_0, set_1, set_2, set_3, List.length_cons, List.length_nil, Int.cast_ofNat_Int, Int.natCast_one, tgD_n, tgD_t, tgA_nil, tgA_cons, Option.bind_some, l_isSS, l_isST, l_isSL, l_isSI, l_isTT, l_isTS, l_isTL, l_isTI, l_isII, l_isBI, l_isLL, l_ord, S_dec]
    by_cases h : a = n
    · subst h
      simp only [r_lft, r_var, r_own, r_c, r_bin, r_binO, r_cmp, r_tcmp, r_tcmpO, r_tru, r_tand, r_tor, r_tnot, r_eif, r_nif, r_and, r_or, r_not, r_neg, r_cb, r_ncb, r_bm, r_bm0, r_tup, r_lst, r_anil, r_acons, r_aone, r_vnil, r_vcons, r_vslot, r_sl, r_onone, r_osome, r_chain, r_tchain, r_isi, r_iany, r_rg1, r_rg2, r_yes, r_frz, r_call, r_F, r_sif, r_snil, r_pass, r_break, r_cont, r_no, r_ret, r_retN, r_retNone, r_drop, r_dropN, r_asg, r_asgN, r_aug, r_stup, r_app, r_ext, r_setix, r_for, r_retOwn, wE_nComp, wE_ok, wS_nx, wS_rt, wS_bk, wS_ct, wS_seq, wV_d, wV_l, wO_d, wO_l, wL_some, wL_ite, wL_map, cB_true, cB_false, cB_not, wZ_d, wZ_l, wTk_some, wT_some, tk_nil, tk_v, tk_s, putA, mask, d1, d2, tyD, okS_d, okS_l, lOf, asI, Option.isSome_some, Option.getD_some, Option.map_some, List.getElem?_cons_zero, List.getElem?_cons_succ, List.set_cons_zero, List.set_cons_succ, List.replicate_succ, List.replicate_zero, List.cons_append, List.nil_append, List.not_mem_nil, List.mem_cons, or_false, not_false_eq_true, true_and, decide_true, if_true, if_false, reduceIte, Nat.reduceEqDiff, Nat.reduceAdd, Nat.reduceSub, Nat.reduceLeDiff, Nat.reduceLT, Int.reduceLT, Int.reduceLE, Int.reduceAdd, Int.reduceSub, Int.reduceEq, Int.reduceNeg, Nat.reduceMul, decide_false, Bool.not_true, Bool.not_false, and_true, true_or, or_true, Int.reduceMul, Int.reduceToNat, Nat.reducePow, Int.reducePow, Nat.not_lt_zero, l_addI, l_addS, l_addL, l_addT, l_sub, l_div, l_mod, l_mulI, l_mulS, l_mulL, l_eqI, l_eqS, l_neI, l_neS, l_ltI, l_leI, l_gtI, l_geI, l_ltS, l_leS, l_gtS, l_geS, l_truI, l_truB, l_truL, l_truT, l_truN, l_truS, l_lenS, l_lenL, l_lenT, l_intI, l_absI, l_tupL, l_tupT, l_itL, l_itT, l_itS, l_rg1, l_rg2, l_ixL, l_ixT, l_ixS, at_0, at_1, at_2, at_3, set_0, set_1, set_2, set_3, List.length_cons, List.length_nil, Int.cast_ofNat_Int, Int.natCast_one, tgD_n, tgD_t, tgA_nil, tgA_cons, Option.bind_some, l_isSS, l_isST, l_isSL, l_isSI, l_isTT, l_isTS, l_isTL, l_isTI, l_isII, l_isBI, l_isLL, l_ord]
      rfl
    · have h2 : ¬ S a = S n := fun z => h (S_inj.mp z)
      simp only [r_lft, r_var, r_own, r_c, r_bin, r_binO, r_cmp, r_tcmp, r_tcmpO, r_tru, r_tand, r_tor, r_tnot, r_eif, r_nif, r_and, r_or, r_not, r_neg, r_cb, r_ncb, r_bm, r_bm0, r_tup, r_lst, r_anil, r_acons, r_aone, r_vnil, r_vcons, r_vslot, r_sl, r_onone, r_osome, r_chain, r_tchain, r_isi, r_iany, r_rg1, r_rg2, r_yes, r_frz, r_call, r_F, r_sif, r_snil, r_pass, r_break, r_cont, r_no, r_ret, r_retN, r_retNone, r_drop, r_dropN, r_asg, r_asgN, r_aug, r_stup, r_app, r_ext, r_setix, r_for, r_retOwn, wE_nComp, wE_ok, wS_nx, wS_rt, wS_bk, wS_ct, wS_seq, wV_d, wV_l, wO_d, wO_l, wL_some, wL_ite, wL_map, cB_true, cB_false, cB_not, wZ_d, wZ_l, wTk_some, wT_some, tk_nil, tk_v, tk_s, putA, mask, d1, d2, tyD, okS_d, okS_l, lOf, asI, Option.isSome_some, Option.getD_some, Option.map_some, List.getElem?_cons_zero, List.getElem?_cons_succ, List.set_cons_zero, List.set_cons_succ, List.replicate_succ, List.replicate_zero, List.cons_append, List.nil_append, List.not_mem_nil, List.mem_cons, or_false, not_false_eq_true, true_and, decide_true, if_true, if_false, reduceIte, Nat.reduceEqDiff, Nat.reduceAdd, Nat.reduceSub, Nat.reduceLeDiff, Nat.reduceLT, Int.reduceLT, Int.reduceLE, Int.reduceAdd, Int.reduceSub, Int.reduceEq, Int.reduceNeg, Nat.reduceMul, decide_false, Bool.not_true, Bool.not_false, and_true, true_or, or_true, Int.reduceMul, Int.reduceToNat, Nat.reducePow, Int.reducePow, Nat.not_lt_zero, l_addI, l_addS, l_addL, l_addT, l_sub, l_div, l_mod, l_mulI, l_mulS, l_mulL, l_eqI, l_eqS, l_neI, l_neS, l_ltI, l_leI, l_gtI, l_geI, l_ltS, l_leS, l_gtS, l_geS, l_truI, l_truB, l_truL, l_truT, l_truN, l_truS, l_lenS, l_lenL, l_lenT, l_intI, l_absI, l_tupL, l_tupT, l_itL, l_itT, l_itS, l_rg1, l_rg2, l_ixL, l_ixT, l_ixS, at_0, at_1, at_2, at_3, set_0, set_1, set_2, set_3, List.length_cons, List.length_nil, Int.cast_ofNat_Int, Int.natCast_one, tgD_n, tgD_t, tgA_nil, tgA_cons, Option.bind_some, l_isSS, l_isST, l_isSL, l_isSI, l_isTT, l_isTS, l_isTL, l_isTI, l_isII, l_isBI, l_isLL, l_ord, decide_eq_false h, if_neg h2]
      rfl
  · rw [fm_not n]
    simp only [LD, r_lft, r_var, r_own, r_c, r_bin, r_binO, r_cmp, r_tcmp, r_tcmpO, r_tru, r_tand, r_tor, r_tnot, r_eif, r_nif, r_and, r_or, r_not, r_neg, r_cb, r_ncb, r_bm, r_bm0, r_tup, r_lst, r_anil, r_acons, r_aone, r_vnil, r_vcons, r_vslot, r_sl, r_onone, r_osome, r_chain, r_tchain, r_isi, r_iany, r_rg1, r_rg2, r_yes, r_frz, r_call, r_F, r_sif, r_snil, r_pass, r_break, r_cont, r_no, r_ret, r_retN, r_retNone, r_drop, r_dropN, r_asg, r_asgN, r_aug, r_stup, r_app, r_ext, r_setix, r_for, r_retOwn, wE_nComp, wE_ok, wS_nx, wS_rt, wS_bk, wS_ct, wS_seq, wV_d, wV_l, wO_d, wO_l, wL_some, wL_ite, wL_map, cB_true, cB_false, cB_not, wZ_d, wZ_l, wTk_some, wT_some, tk_nil, tk_v, tk_s, putA, mask, d1, d2, tyD, okS_d, okS_l, lOf, asI, Option.isSome_some, Option.getD_some, Option.map_some, List.getElem?_cons_zero, List.getElem?_cons_succ, List.set_cons_zero, List.set_cons_succ, List.replicate_succ, List.replicate_zero, List.cons_append, List.nil_append, List.not_mem_nil, List.mem_cons, or_false, not_false_eq_true, true_and, decide_true, if_true, if_false, reduceIte, Nat.reduceEqDiff, Nat.reduceAdd, Nat.reduceSub, Nat.reduceLeDiff, Nat.reduceLT, Int.reduceLT, Int.reduceLE, Int.reduceAdd, Int.reduceSub, Int.reduceEq, Int.reduceNeg, Nat.reduceMul, decide_false, Bool.not_true, Bool.not_false, and_true, true_or, or_true, Int.reduceMul, Int.reduceToNat, Nat.reducePow, Int.reducePow, Nat.not_lt_zero, l_addI, l_addS, l_addL, l_addT, l_sub, l_div, l_mod, l_mulI, l_mulS, l_mulL, l_eqI, l_eqS, l_neI, l_neS, l_ltI, l_leI, l_gtI, l_geI, l_ltS, l_leS, l_gtS, l_geS, l_truI, l_truB, l_truL, l_truT, l_truN, l_truS, l_lenS, l_lenL, l_lenT, l_intI, l_absI, l_tupL, l_tupT, l_itL, l_itT, l_itS, l_rg1, l_rg2, l_ixL, l_ixT, l_ixS, at_0, at_1, at_2, at_3, set_0, set_1, set_2, set_3, List.length_cons, List.length_nil, Int.cast_ofNat_Int, Int.natCast_one, tgD_n, tgD_t, tgA_nil, tgA_cons, Option.bind_some, l_isSS, l_isST, l_isSL, l_isSI, l_isTT, l_isTS, l_isTL, l_isTI, l_isII, l_isBI, l_isLL, l_ord]
/-! ### texts -/
def rowsOf (hs : List (T × T)) (ls : List T) : List T := hs.map (fun p => p.1 ++ [58, 32] ++ p.2) ++ [[]] ++ ls
def flat (rows : List T) : T := rows.flatMap (· ++ [10])
theorem joinL_flat : ∀ (rows : List T), rows ≠ [] → TL.joinL [10] rows ++ [10] = flat rows
  | [], h => absurd rfl h
  | [a], _ => by simp [TL.joinL, flat]
  | a :: b :: r, _ => by
    have ih := joinL_flat (b :: r) (by simp)
    have e : TL.joinL [10] (a :: b :: r) = a ++ [10] ++ TL.joinL [10] (b :: r) := by simp [TL.joinL]
    rw [e, List.append_assoc, ih]
    simp [flat]
theorem join_flat {rows : List T} (h : rows ≠ []) : Txt.join (S [10]) (rows.map S) ++ S [10] = S (flat rows) := by
  rw [SX.join_S, S_app, joinL_flat rows h]
theorem flat_len (rows : List T) : (flat rows).length = (rows.map fun r => r.length + 1).sum := by
  induction rows with
  | nil => rfl
  | cons a r ih =>
    rw [List.map_cons, List.sum_cons, ← ih]
    simp [flat]
    try omega
theorem sum_len (rows : List T) : ((rows.map S).map (·.length)).sum + (rows.map S).length * (S [10]).length = (flat rows).length := by
  rw [flat_len]
  induction rows with
  | nil => rfl
  | cons a r ih =>
    simp only [List.map_cons, List.sum_cons, List.length_cons] at ih ⊢
    rw [← ih]
    have e : (S [10]).length = 1 := rfl
    rw [e, S_len]
    omega
theorem asStrs_S (rows : List T) : asStrs (rows.map ln) = some (rows.map S) := by
  have : rows.map ln = (rows.map S).map PyData.str := by rw [List.map_map]; rfl
  rw [this]
  exact asStrs_map _
theorem join_rows {rows : List T} (h : rows ≠ []) (hl : (flat rows).length ≤ 16777216) : dJoin (.str (S [10])) [.list (rows.map ln)] = some (.str (Txt.join (S [10]) (rows.map S))) := by
  show joinD (S [10]) (rows.map ln) = _
  unfold joinD
  rw [asStrs_S]
  show (if _ then _ else _) = _
  rw [if_pos (by rw [sum_len]; exact hl)]
theorem name_len {n : T} (h : okName n = true) : n.length ≤ 20 := by
  unfold okName at h
  simp only [Bool.and_eq_true, decide_eq_true_eq] at h
  exact h.1.2
theorem val_len {v : T} (h : okVal v = true) : v.length ≤ 200 := by
  unfold okVal at h
  rw [Bool.and_eq_true] at h
  exact okLine_len h.1
theorem rows_len {hs : List (T × T)} {ls : List T} (g : Good hs ls) : (flat (rowsOf hs ls)).length ≤ 60000 := by
  have h1 := g.h1
  have h3 := g.h3
  rw [flat_len]
  refine Nat.le_trans (sum_le _ 223 fun x hx => ?_) ?_
  · obtain ⟨r, hr, rfl⟩ := List.mem_map.mp hx
    unfold rowsOf at hr
    simp only [List.mem_append, List.mem_map, List.mem_singleton] at hr
    rcases hr with (⟨p, hp, rfl⟩ | rfl) | hr
    · have a := name_len (g.h2 p hp).1
      have b := val_len (g.h2 p hp).2
      simp only [List.length_append, List.length_cons, List.length_nil]
      omega
    · simp
    · have := okLine_len (g.h4 r hr)
      omega
  · unfold rowsOf
    simp only [List.length_map, List.length_append, List.length_cons, List.length_nil]
    omega
theorem colon : (Str.ofString ": ") = S [58, 32] := rfl
theorem nl : (Str.ofString "\n") = S [10] := rfl
theorem l_listT {xs : List D} : nList [.tuple xs] = some xs := rfl
theorem l_listL {xs : List D} : nList [.list xs] = some xs := rfl
theorem S_nil : (Str.ofString "") = S [] := rfl
theorem textof {hs : List (T × T)} {ls : List T} (g : Good hs ls) : m_text_of [.d (LD hs ls)] = .ok (.d (.str (S (flat (rowsOf hs ls))))) [.un] := by
  have h1 := g.h1
  have h3 := g.h3
  have hf := rows_len g
  refine eqF (wF_run rfl ?_)
  simp only [b_text_of, LD, r_lft, r_var, r_own, r_c, r_bin, r_binO, r_cmp, r_tcmp, r_tcmpO, r_tru, r_tand, r_tor, r_tnot, r_eif, r_nif, r_and, r_or, r_not, r_neg, r_cb, r_ncb, r_bm, r_bm0, r_tup, r_lst, r_anil, r_acons, r_aone, r_vnil, r_vcons, r_vslot, r_sl, r_onone, r_osome, r_chain, r_tchain, r_isi, r_iany, r_rg1, r_rg2, r_yes, r_frz, r_call, r_F, r_sif, r_snil, r_pass, r_break, r_cont, r_no, r_ret, r_retN, r_retNone, r_drop, r_dropN, r_asg, r_asgN, r_aug, r_stup, r_app, r_ext, r_setix, r_for, r_retOwn, wE_nComp, wE_ok, wS_nx, wS_rt, wS_bk, wS_ct, wS_seq, wV_d, wV_l, wO_d, wO_l, wL_some, wL_ite, wL_map, cB_true, cB_false, cB_not, wZ_d, wZ_l, wTk_some, wT_some, tk_nil, tk_v, tk_s, putA, mask, d1, d2, tyD, okS_d, okS_l, lOf, asI, Option.isSome_some, Option.getD_some, Option.map_some, List.getElem?_cons_zero, List.getElem?_cons_succ, List.set_cons_zero, List.set_cons_succ, List.replicate_succ, List.replicate_zero, List.cons_append, List.nil_append, List.not_mem_nil, List.mem_cons, or_false, not_false_eq_true, true_and, decide_true, if_true, if_false, reduceIte, Nat.reduceEqDiff, Nat.reduceAdd, Nat.reduceSub, Nat.reduceLeDiff, Nat.reduceLT, Int.reduceLT, Int.reduceLE, Int.reduceAdd, Int.reduceSub, Int.reduceEq, Int.reduceNeg, Nat.reduceMul, decide_false, Bool.not_true, Bool.not_false, and_true, true_or, or_true, Int.reduceMul, Int.reduceToNat, Nat.reducePow, Int.reducePow, Nat.not_lt_zero, l_addI, l_addS, l_addL, l_addT, l_sub, l_div, l_mod, l_mulI, l_mulS, l_mulL, l_eqI, l_eqS, l_neI, l_neS, l_ltI, l_leI, l_gtI, l_geI, l_ltS, l_leS, l_gtS, l_geS, l_truI, l_truB, l_truL, l_truT, l_truN, l_truS, l_lenS, l_lenL, l_lenT, l_intI, l_absI, l_tupL, l_tupT, l_itL, l_itT, l_itS, l_rg1, l_rg2, l_ixL, l_ixT, l_ixS, at_0, at_1, at_2, at_3, set_0, set_1, set_2, set_3, List.length_cons, List.length_nil, Int.cast_ofNat_Int, Int.natCast_one, tgD_n, tgD_t, tgA_nil, tgA_cons, Option.bind_some, l_isSS, l_isST, l_isSL, l_isSI, l_isTT, l_isTS, l_isTL, l_isTI, l_isII, l_isBI, l_isLL, l_ord]
  refine wE_compG [.d (LD hs ls), .un, .un, .un] hd (fun p => some (ln (p.1 ++ [58, 32] ++ p.2))) hs rfl (by omega) (fun p hp => ?_) ?_
  · have a := name_len (g.h2 p hp).1
    have b := val_len (g.h2 p hp).2
    refine ⟨_, rfl, ?_⟩
    simp only [r_lft, r_var, r_own, r_c, r_bin, r_binO, r_cmp, r_tcmp, r_tcmpO, r_tru, r_tand, r_tor, r_tnot, r_eif, r_nif, r_and, r_or, r_not, r_neg, r_cb, r_ncb, r_bm, r_bm0, r_tup, r_lst, r_anil, r_acons, r_aone, r_vnil, r_vcons, r_vslot, r_sl, r_onone, r_osome, r_chain, r_tchain, r_isi, r_iany, r_rg1, r_rg2, r_yes, r_frz, r_call, r_F, r_sif, r_snil, r_pass, r_break, r_cont, r_no, r_ret, r_retN, r_retNone, r_drop, r_dropN, r_asg, r_asgN, r_aug, r_stup, r_app, r_ext, r_setix, r_for, r_retOwn, wE_nComp, wE_ok, wS_nx, wS_rt, wS_bk, wS_ct, wS_seq, wV_d, wV_l, wO_d, wO_l, wL_some, wL_ite, wL_map, cB_true, cB_false, cB_not, wZ_d, wZ_l, wTk_some, wT_some, tk_nil, tk_v, tk_s, putA, mask, d1, d2, tyD, okS_d, okS_l, lOf, asI, Option.isSome_some, Option.getD_some, Option.map_some, List.getElem?_cons_zero, List.getElem?_cons_succ, List.set_cons_zero, List.set_cons_succ, List.replicate_succ, List.replicate_zero, List.cons_append, List.nil_append, List.not_mem_nil, List.mem_cons, or_false, not_false_eq_true, true_and, decide_true, if_true, if_false, reduceIte, Nat.reduceEqDiff, Nat.reduceAdd, Nat.reduceSub, Nat.reduceLeDiff, Nat.reduceLT, Int.reduceLT, Int.reduceLE, Int.reduceAdd, Int.reduceSub, Int.reduceEq, Int.reduceNeg, Nat.reduceMul, decide_false, Bool.not_true, Bool.not_false, and_true, true_or, or_true, Int.reduceMul, Int.reduceToNat, Nat.reducePow, Int.reducePow, Nat.not_lt_zero, l_addI, l_addS, l_addL, l_addT, l_sub, l_div, l_mod, l_mulI, l_mulS, l_mulL, l_eqI, l_eqS, l_neI, l_neS, l_ltI, l_leI, l_gtI, l_geI, l_ltS, l_leS, l_gtS, l_geS, l_truI, l_truB, l_truL, l_truT, l_truN, l_truS, l_lenS, l_lenL, l_lenT, l_intI, l_absI, l_tupL, l_tupT, l_itL, l_itT, l_itS, l_rg1, l_rg2, l_ixL, l_ixT, l_ixS, at_0, at_1, at_2, at_3, set_0, set_1, set_2, set_3, List.length_cons, List.length_nil, Int.cast_ofNat_Int, Int.natCast_one, tgD_n, tgD_t, tgA_nil, tgA_cons, Option.bind_some, l_isSS, l_isST, l_isSL, l_isSI, l_isTT, l_isTS, l_isTL, l_isTI, l_isII, l_isBI, l_isLL, l_ord, colon, S_app, S_len, List.length_append]
    exact ⟨by omega, by omega, rfl, rfl⟩
  · simp only [LD, r_lft, r_var, r_own, r_c, r_bin, r_binO, r_cmp, r_tcmp, r_tcmpO, r_tru, r_tand, r_tor, r_tnot, r_eif, r_nif, r_and, r_or, r_not, r_neg, r_cb, r_ncb, r_bm, r_bm0, r_tup, r_lst, r_anil, r_acons, r_aone, r_vnil, r_vcons, r_vslot, r_sl, r_onone, r_osome, r_chain, r_tchain, r_isi, r_iany, r_rg1, r_rg2, r_yes, r_frz, r_call, r_F, r_sif, r_snil, r_pass, r_break, r_cont, r_no, r_ret, r_retN, r_retNone, r_drop, r_dropN, r_asg, r_asgN, r_aug, r_stup, r_app, r_ext, r_setix, r_for, r_retOwn, wE_nComp, wE_ok, wS_nx, wS_rt, wS_bk, wS_ct, wS_seq, wV_d, wV_l, wO_d, wO_l, wL_some, wL_ite, wL_map, cB_true, cB_false, cB_not, wZ_d, wZ_l, wTk_some, wT_some, tk_nil, tk_v, tk_s, putA, mask, d1, d2, tyD, okS_d, okS_l, lOf, asI, Option.isSome_some, Option.getD_some, Option.map_some, List.getElem?_cons_zero, List.getElem?_cons_succ, List.set_cons_zero, List.set_cons_succ, List.replicate_succ, List.replicate_zero, List.cons_append, List.nil_append, List.not_mem_nil, List.mem_cons, or_false, not_false_eq_true, true_and, decide_true, if_true, if_false, reduceIte, Nat.reduceEqDiff, Nat.reduceAdd, Nat.reduceSub, Nat.reduceLeDiff, Nat.reduceLT, Int.reduceLT, Int.reduceLE, Int.reduceAdd, Int.reduceSub, Int.reduceEq, Int.reduceNeg, Nat.reduceMul, decide_false, Bool.not_true, Bool.not_false, and_true, true_or, or_true, Int.reduceMul, Int.reduceToNat, Nat.reducePow, Int.reducePow, Nat.not_lt_zero, l_addI, l_addS, l_addL, l_addT, l_sub, l_div, l_mod, l_mulI, l_mulS, l_mulL, l_eqI, l_eqS, l_neI, l_neS, l_ltI, l_leI, l_gtI, l_geI, l_ltS, l_leS, l_gtS, l_geS, l_truI, l_truB, l_truL, l_truT, l_truN, l_truS, l_lenS, l_lenL, l_lenT, l_intI, l_absI, l_tupL, l_tupT, l_itL, l_itT, l_itS, l_rg1, l_rg2, l_ixL, l_ixT, l_ixS, at_0, at_1, at_2, at_3, set_0, set_1, set_2, set_3, List.length_cons, List.length_nil, Int.cast_ofNat_Int, Int.natCast_one, tgD_n, tgD_t, tgA_nil, tgA_cons, Option.bind_some, l_isSS, l_isST, l_isSL, l_isSI, l_isTT, l_isTS, l_isTL, l_isTI, l_isII, l_isBI, l_isLL, l_ord, fm_some, List.length_map, List.length_append, l_listT, l_listL, nl, S_nil]
    refine ⟨by omega, by omega, ?_⟩
    rw [show (hs.map fun p => ln (p.1 ++ [58, 32] ++ p.2)) ++ [PyData.str (S [])] ++ ls.map ln = (rowsOf hs ls).map ln by unfold rowsOf; simp [ln]]
    rw [join_rows (by unfold rowsOf; simp) (by omega)]
    simp only [r_lft, r_var, r_own, r_c, r_bin, r_binO, r_cmp, r_tcmp, r_tcmpO, r_tru, r_tand, r_tor, r_tnot, r_eif, r_nif, r_and, r_or, r_not, r_neg, r_cb, r_ncb, r_bm, r_bm0, r_tup, r_lst, r_anil, r_acons, r_aone, r_vnil, r_vcons, r_vslot, r_sl, r_onone, r_osome, r_chain, r_tchain, r_isi, r_iany, r_rg1, r_rg2, r_yes, r_frz, r_call, r_F, r_sif, r_snil, r_pass, r_break, r_cont, r_no, r_ret, r_retN, r_retNone, r_drop, r_dropN, r_asg, r_asgN, r_aug, r_stup, r_app, r_ext, r_setix, r_for, r_retOwn, wE_nComp, wE_ok, wS_nx, wS_rt, wS_bk, wS_ct, wS_seq, wV_d, wV_l, wO_d, wO_l, wL_some, wL_ite, wL_map, cB_true, cB_false, cB_not, wZ_d, wZ_l, wTk_some, wT_some, tk_nil, tk_v, tk_s, putA, mask, d1, d2, tyD, okS_d, okS_l, lOf, asI, Option.isSome_some, Option.getD_some, Option.map_some, List.getElem?_cons_zero, List.getElem?_cons_succ, List.set_cons_zero, List.set_cons_succ, List.replicate_succ, List.replicate_zero, List.cons_append, List.nil_append, List.not_mem_nil, List.mem_cons, or_false, not_false_eq_true, true_and, decide_true, if_true, if_false, reduceIte, Nat.reduceEqDiff, Nat.reduceAdd, Nat.reduceSub, Nat.reduceLeDiff, Nat.reduceLT, Int.reduceLT, Int.reduceLE, Int.reduceAdd, Int.reduceSub, Int.reduceEq, Int.reduceNeg, Nat.reduceMul, decide_false, Bool.not_true, Bool.not_false, and_true, true_or, or_true, Int.reduceMul, Int.reduceToNat, Nat.reducePow, Int.reducePow, Nat.not_lt_zero, l_addI, l_addS, l_addL, l_addT, l_sub, l_div, l_mod, l_mulI, l_mulS, l_mulL, l_eqI, l_eqS, l_neI, l_neS, l_ltI, l_leI, l_gtI, l_geI, l_ltS, l_leS, l_gtS, l_geS, l_truI, l_truB, l_truL, l_truT, l_truN, l_truS, l_lenS, l_lenL, l_lenT, l_intI, l_absI, l_tupL, l_tupT, l_itL, l_itT, l_itS, l_rg1, l_rg2, l_ixL, l_ixT, l_ixS, at_0, at_1, at_2, at_3, set_0, set_1, set_2, set_3, List.length_cons, List.length_nil, Int.cast_ofNat_Int, Int.natCast_one, tgD_n, tgD_t, tgA_nil, tgA_cons, Option.bind_some, l_isSS, l_isST, l_isSL, l_isSI, l_isTT, l_isTS, l_isTL, l_isTI, l_isII, l_isBI, l_isLL, l_ord]
    rw [join_flat (by unfold rowsOf; simp)]
    have e : (Txt.join (S [10]) ((rowsOf hs ls).map S) ++ S [10]).length = (flat (rowsOf hs ls)).length := by rw [join_flat (by unfold rowsOf; simp), S_len]
    rw [strLen_append] at e
    refine ⟨by omega, rfl⟩
theorem write_ok {hs : List (T × T)} {ls : List T} (g : Good hs ls) : m_write [.d (LD hs ls)] = .ok (.d (.str (S (flat (rowsOf hs ls))))) [.un] := by
  refine eqF (wF_run rfl ?_)
  simp only [b_write, r_lft, r_var, r_own, r_c, r_bin, r_binO, r_cmp, r_tcmp, r_tcmpO, r_tru, r_tand, r_tor, r_tnot, r_eif, r_nif, r_and, r_or, r_not, r_neg, r_cb, r_ncb, r_bm, r_bm0, r_tup, r_lst, r_anil, r_acons, r_aone, r_vnil, r_vcons, r_vslot, r_sl, r_onone, r_osome, r_chain, r_tchain, r_isi, r_iany, r_rg1, r_rg2, r_yes, r_frz, r_call, r_F, r_sif, r_snil, r_pass, r_break, r_cont, r_no, r_ret, r_retN, r_retNone, r_drop, r_dropN, r_asg, r_asgN, r_aug, r_stup, r_app, r_ext, r_setix, r_for, r_retOwn, wE_nComp, wE_ok, wS_nx, wS_rt, wS_bk, wS_ct, wS_seq, wV_d, wV_l, wO_d, wO_l, wL_some, wL_ite, wL_map, cB_true, cB_false, cB_not, wZ_d, wZ_l, wTk_some, wT_some, tk_nil, tk_v, tk_s, putA, mask, d1, d2, tyD, okS_d, okS_l, lOf, asI, Option.isSome_some, Option.getD_some, Option.map_some, List.getElem?_cons_zero, List.getElem?_cons_succ, List.set_cons_zero, List.set_cons_succ, List.replicate_succ, List.replicate_zero, List.cons_append, List.nil_append, List.not_mem_nil, List.mem_cons, or_false, not_false_eq_true, true_and, decide_true, if_true, if_false, reduceIte, Nat.reduceEqDiff, Nat.reduceAdd, Nat.reduceSub, Nat.reduceLeDiff, Nat.reduceLT, Int.reduceLT, Int.reduceLE, Int.reduceAdd, Int.reduceSub, Int.reduceEq, Int.reduceNeg, Nat.reduceMul, decide_false, Bool.not_true, Bool.not_false, and_true, true_or, or_true, Int.reduceMul, Int.reduceToNat, Nat.reducePow, Int.reducePow, Nat.not_lt_zero, l_addI, l_addS, l_addL, l_addT, l_sub, l_div, l_mod, l_mulI, l_mulS, l_mulL, l_eqI, l_eqS, l_neI, l_neS, l_ltI, l_leI, l_gtI, l_geI, l_ltS, l_leS, l_gtS, l_geS, l_truI, l_truB, l_truL, l_truT, l_truN, l_truS, l_lenS, l_lenL, l_lenT, l_intI, l_absI, l_tupL, l_tupT, l_itL, l_itT, l_itS, l_rg1, l_rg2, l_ixL, l_ixT, l_ixS, at_0, at_1, at_2, at_3, set_0, set_1, set_2, set_3, List.length_cons, List.length_nil, Int.cast_ofNat_Int, Int.natCast_one, tgD_n, tgD_t, tgA_nil, tgA_cons, Option.bind_some, l_isSS, l_isST, l_isSL, l_isSI, l_isTT, l_isTS, l_isTL, l_isTI, l_isII, l_isBI, l_isLL, l_ord, check_ok g, textof g]
theorem lawtext {hs : List (T × T)} {ls : List T} (g : Good hs ls) : m__law_text [.d (LD hs ls)] = .ok (.d (.str (S (flat (rowsOf hs ls))))) [.un] := textof g
theorem sum_int {α : Type} (f : α → Nat) : ∀ xs : List α, (xs.map fun x => (f x : Int)).sum = ((xs.map f).sum : Nat)
  | [] => rfl
  | x :: xs => by rw [List.map_cons, List.sum_cons, List.map_cons, List.sum_cons, sum_int f xs]; omega
theorem size_in_ok {hs : List (T × T)} {ls : List T} (g : Good hs ls) : m_size_in [.d (LD hs ls)] = .ok (.d (.int (flat (rowsOf hs ls)).length)) [.un] := by
  have h1 := g.h1
  have h3 := g.h3
  refine eqF (wF_run rfl ?_)
  simp only [b_size_in, LD, r_lft, r_var, r_own, r_c, r_bin, r_binO, r_cmp, r_tcmp, r_tcmpO, r_tru, r_tand, r_tor, r_tnot, r_eif, r_nif, r_and, r_or, r_not, r_neg, r_cb, r_ncb, r_bm, r_bm0, r_tup, r_lst, r_anil, r_acons, r_aone, r_vnil, r_vcons, r_vslot, r_sl, r_onone, r_osome, r_chain, r_tchain, r_isi, r_iany, r_rg1, r_rg2, r_yes, r_frz, r_call, r_F, r_sif, r_snil, r_pass, r_break, r_cont, r_no, r_ret, r_retN, r_retNone, r_drop, r_dropN, r_asg, r_asgN, r_aug, r_stup, r_app, r_ext, r_setix, r_for, r_retOwn, wE_nComp, wE_ok, wS_nx, wS_rt, wS_bk, wS_ct, wS_seq, wV_d, wV_l, wO_d, wO_l, wL_some, wL_ite, wL_map, cB_true, cB_false, cB_not, wZ_d, wZ_l, wTk_some, wT_some, tk_nil, tk_v, tk_s, putA, mask, d1, d2, tyD, okS_d, okS_l, lOf, asI, Option.isSome_some, Option.getD_some, Option.map_some, List.getElem?_cons_zero, List.getElem?_cons_succ, List.set_cons_zero, List.set_cons_succ, List.replicate_succ, List.replicate_zero, List.cons_append, List.nil_append, List.not_mem_nil, List.mem_cons, or_false, not_false_eq_true, true_and, decide_true, if_true, if_false, reduceIte, Nat.reduceEqDiff, Nat.reduceAdd, Nat.reduceSub, Nat.reduceLeDiff, Nat.reduceLT, Int.reduceLT, Int.reduceLE, Int.reduceAdd, Int.reduceSub, Int.reduceEq, Int.reduceNeg, Nat.reduceMul, decide_false, Bool.not_true, Bool.not_false, and_true, true_or, or_true, Int.reduceMul, Int.reduceToNat, Nat.reducePow, Int.reducePow, Nat.not_lt_zero, l_addI, l_addS, l_addL, l_addT, l_sub, l_div, l_mod, l_mulI, l_mulS, l_mulL, l_eqI, l_eqS, l_neI, l_neS, l_ltI, l_leI, l_gtI, l_geI, l_ltS, l_leS, l_gtS, l_geS, l_truI, l_truB, l_truL, l_truT, l_truN, l_truS, l_lenS, l_lenL, l_lenT, l_intI, l_absI, l_tupL, l_tupT, l_itL, l_itT, l_itS, l_rg1, l_rg2, l_ixL, l_ixT, l_ixS, at_0, at_1, at_2, at_3, set_0, set_1, set_2, set_3, List.length_cons, List.length_nil, Int.cast_ofNat_Int, Int.natCast_one, tgD_n, tgD_t, tgA_nil, tgA_cons, Option.bind_some, l_isSS, l_isST, l_isSL, l_isSI, l_isTT, l_isTS, l_isTL, l_isTI, l_isII, l_isBI, l_isLL, l_ord]
  refine wE_compG [.d (LD hs ls), .un, .un, .un, .un] hd (fun p => some (.int (p.1.length + p.2.length + 3 : Nat))) hs rfl (by omega) (fun p hp => ?_) ?_
  · have a := name_len (g.h2 p hp).1
    have b := val_len (g.h2 p hp).2
    refine ⟨_, rfl, ?_⟩
    simp only [r_lft, r_var, r_own, r_c, r_bin, r_binO, r_cmp, r_tcmp, r_tcmpO, r_tru, r_tand, r_tor, r_tnot, r_eif, r_nif, r_and, r_or, r_not, r_neg, r_cb, r_ncb, r_bm, r_bm0, r_tup, r_lst, r_anil, r_acons, r_aone, r_vnil, r_vcons, r_vslot, r_sl, r_onone, r_osome, r_chain, r_tchain, r_isi, r_iany, r_rg1, r_rg2, r_yes, r_frz, r_call, r_F, r_sif, r_snil, r_pass, r_break, r_cont, r_no, r_ret, r_retN, r_retNone, r_drop, r_dropN, r_asg, r_asgN, r_aug, r_stup, r_app, r_ext, r_setix, r_for, r_retOwn, wE_nComp, wE_ok, wS_nx, wS_rt, wS_bk, wS_ct, wS_seq, wV_d, wV_l, wO_d, wO_l, wL_some, wL_ite, wL_map, cB_true, cB_false, cB_not, wZ_d, wZ_l, wTk_some, wT_some, tk_nil, tk_v, tk_s, putA, mask, d1, d2, tyD, okS_d, okS_l, lOf, asI, Option.isSome_some, Option.getD_some, Option.map_some, List.getElem?_cons_zero, List.getElem?_cons_succ, List.set_cons_zero, List.set_cons_succ, List.replicate_succ, List.replicate_zero, List.cons_append, List.nil_append, List.not_mem_nil, List.mem_cons, or_false, not_false_eq_true, true_and, decide_true, if_true, if_false, reduceIte, Nat.reduceEqDiff, Nat.reduceAdd, Nat.reduceSub, Nat.reduceLeDiff, Nat.reduceLT, Int.reduceLT, Int.reduceLE, Int.reduceAdd, Int.reduceSub, Int.reduceEq, Int.reduceNeg, Nat.reduceMul, decide_false, Bool.not_true, Bool.not_false, and_true, true_or, or_true, Int.reduceMul, Int.reduceToNat, Nat.reducePow, Int.reducePow, Nat.not_lt_zero, l_addI, l_addS, l_addL, l_addT, l_sub, l_div, l_mod, l_mulI, l_mulS, l_mulL, l_eqI, l_eqS, l_neI, l_neS, l_ltI, l_leI, l_gtI, l_geI, l_ltS, l_leS, l_gtS, l_geS, l_truI, l_truB, l_truL, l_truT, l_truN, l_truS, l_lenS, l_lenL, l_lenT, l_intI, l_absI, l_tupL, l_tupT, l_itL, l_itT, l_itS, l_rg1, l_rg2, l_ixL, l_ixT, l_ixS, at_0, at_1, at_2, at_3, set_0, set_1, set_2, set_3, List.length_cons, List.length_nil, Int.cast_ofNat_Int, Int.natCast_one, tgD_n, tgD_t, tgA_nil, tgA_cons, Option.bind_some, l_isSS, l_isST, l_isSL, l_isSI, l_isTT, l_isTS, l_isTL, l_isTI, l_isII, l_isBI, l_isLL, l_ord, S_len]
    refine ⟨by omega, by omega, ?_, rfl⟩
    congr 2
  · rw [fm_some, show (hs.map fun p => PyData.int (p.1.length + p.2.length + 3 : Nat)) = (hs.map fun p => ((p.1.length + p.2.length + 3 : Nat) : Int)).map .int by rw [List.map_map]; rfl]
    simp only [LD, r_lft, r_var, r_own, r_c, r_bin, r_binO, r_cmp, r_tcmp, r_tcmpO, r_tru, r_tand, r_tor, r_tnot, r_eif, r_nif, r_and, r_or, r_not, r_neg, r_cb, r_ncb, r_bm, r_bm0, r_tup, r_lst, r_anil, r_acons, r_aone, r_vnil, r_vcons, r_vslot, r_sl, r_onone, r_osome, r_chain, r_tchain, r_isi, r_iany, r_rg1, r_rg2, r_yes, r_frz, r_call, r_F, r_sif, r_snil, r_pass, r_break, r_cont, r_no, r_ret, r_retN, r_retNone, r_drop, r_dropN, r_asg, r_asgN, r_aug, r_stup, r_app, r_ext, r_setix, r_for, r_retOwn, wE_nComp, wE_ok, wS_nx, wS_rt, wS_bk, wS_ct, wS_seq, wV_d, wV_l, wO_d, wO_l, wL_some, wL_ite, wL_map, cB_true, cB_false, cB_not, wZ_d, wZ_l, wTk_some, wT_some, tk_nil, tk_v, tk_s, putA, mask, d1, d2, tyD, okS_d, okS_l, lOf, asI, Option.isSome_some, Option.getD_some, Option.map_some, List.getElem?_cons_zero, List.getElem?_cons_succ, List.set_cons_zero, List.set_cons_succ, List.replicate_succ, List.replicate_zero, List.cons_append, List.nil_append, List.not_mem_nil, List.mem_cons, or_false, not_false_eq_true, true_and, decide_true, if_true, if_false, reduceIte, Nat.reduceEqDiff, Nat.reduceAdd, Nat.reduceSub, Nat.reduceLeDiff, Nat.reduceLT, Int.reduceLT, Int.reduceLE, Int.reduceAdd, Int.reduceSub, Int.reduceEq, Int.reduceNeg, Nat.reduceMul, decide_false, Bool.not_true, Bool.not_false, and_true, true_or, or_true, Int.reduceMul, Int.reduceToNat, Nat.reducePow, Int.reducePow, Nat.not_lt_zero, l_addI, l_addS, l_addL, l_addT, l_sub, l_div, l_mod, l_mulI, l_mulS, l_mulL, l_eqI, l_eqS, l_neI, l_neS, l_ltI, l_leI, l_gtI, l_geI, l_ltS, l_leS, l_gtS, l_geS, l_truI, l_truB, l_truL, l_truT, l_truN, l_truS, l_lenS, l_lenL, l_lenT, l_intI, l_absI, l_tupL, l_tupT, l_itL, l_itT, l_itS, l_rg1, l_rg2, l_ixL, l_ixT, l_ixS, at_0, at_1, at_2, at_3, set_0, set_1, set_2, set_3, List.length_cons, List.length_nil, Int.cast_ofNat_Int, Int.natCast_one, tgD_n, tgD_t, tgA_nil, tgA_cons, Option.bind_some, l_isSS, l_isST, l_isSL, l_isSI, l_isTT, l_isTS, l_isTL, l_isTI, l_isII, l_isBI, l_isLL, l_ord, l_sum]
    refine wE_compG [.d (LD hs ls), .d (.int _), .un, .un, .un] ln (fun l => some (.int (l.length + 1 : Nat))) ls rfl (by omega) (fun l hl => ?_) ?_
    · have a := okLine_len (g.h4 l hl)
      refine ⟨_, rfl, ?_⟩
      simp only [ln, r_lft, r_var, r_own, r_c, r_bin, r_binO, r_cmp, r_tcmp, r_tcmpO, r_tru, r_tand, r_tor, r_tnot, r_eif, r_nif, r_and, r_or, r_not, r_neg, r_cb, r_ncb, r_bm, r_bm0, r_tup, r_lst, r_anil, r_acons, r_aone, r_vnil, r_vcons, r_vslot, r_sl, r_onone, r_osome, r_chain, r_tchain, r_isi, r_iany, r_rg1, r_rg2, r_yes, r_frz, r_call, r_F, r_sif, r_snil, r_pass, r_break, r_cont, r_no, r_ret, r_retN, r_retNone, r_drop, r_dropN, r_asg, r_asgN, r_aug, r_stup, r_app, r_ext, r_setix, r_for, r_retOwn, wE_nComp, wE_ok, wS_nx, wS_rt, wS_bk, wS_ct, wS_seq, wV_d, wV_l, wO_d, wO_l, wL_some, wL_ite, wL_map, cB_true, cB_false, cB_not, wZ_d, wZ_l, wTk_some, wT_some, tk_nil, tk_v, tk_s, putA, mask, d1, d2, tyD, okS_d, okS_l, lOf, asI, Option.isSome_some, Option.getD_some, Option.map_some, List.getElem?_cons_zero, List.getElem?_cons_succ, List.set_cons_zero, List.set_cons_succ, List.replicate_succ, List.replicate_zero, List.cons_append, List.nil_append, List.not_mem_nil, List.mem_cons, or_false, not_false_eq_true, true_and, decide_true, if_true, if_false, reduceIte, Nat.reduceEqDiff, Nat.reduceAdd, Nat.reduceSub, Nat.reduceLeDiff, Nat.reduceLT, Int.reduceLT, Int.reduceLE, Int.reduceAdd, Int.reduceSub, Int.reduceEq, Int.reduceNeg, Nat.reduceMul, decide_false, Bool.not_true, Bool.not_false, and_true, true_or, or_true, Int.reduceMul, Int.reduceToNat, Nat.reducePow, Int.reducePow, Nat.not_lt_zero, l_addI, l_addS, l_addL, l_addT, l_sub, l_div, l_mod, l_mulI, l_mulS, l_mulL, l_eqI, l_eqS, l_neI, l_neS, l_ltI, l_leI, l_gtI, l_geI, l_ltS, l_leS, l_gtS, l_geS, l_truI, l_truB, l_truL, l_truT, l_truN, l_truS, l_lenS, l_lenL, l_lenT, l_intI, l_absI, l_tupL, l_tupT, l_itL, l_itT, l_itS, l_rg1, l_rg2, l_ixL, l_ixT, l_ixS, at_0, at_1, at_2, at_3, set_0, set_1, set_2, set_3, List.length_cons, List.length_nil, Int.cast_ofNat_Int, Int.natCast_one, tgD_n, tgD_t, tgA_nil, tgA_cons, Option.bind_some, l_isSS, l_isST, l_isSL, l_isSI, l_isTT, l_isTS, l_isTL, l_isTI, l_isII, l_isBI, l_isLL, l_ord, S_len]
      exact ⟨by omega, rfl, rfl⟩
    · rw [fm_some, show (ls.map fun l => PyData.int (l.length + 1 : Nat)) = (ls.map fun l => ((l.length + 1 : Nat) : Int)).map .int by rw [List.map_map]; rfl]
      simp only [LD, r_lft, r_var, r_own, r_c, r_bin, r_binO, r_cmp, r_tcmp, r_tcmpO, r_tru, r_tand, r_tor, r_tnot, r_eif, r_nif, r_and, r_or, r_not, r_neg, r_cb, r_ncb, r_bm, r_bm0, r_tup, r_lst, r_anil, r_acons, r_aone, r_vnil, r_vcons, r_vslot, r_sl, r_onone, r_osome, r_chain, r_tchain, r_isi, r_iany, r_rg1, r_rg2, r_yes, r_frz, r_call, r_F, r_sif, r_snil, r_pass, r_break, r_cont, r_no, r_ret, r_retN, r_retNone, r_drop, r_dropN, r_asg, r_asgN, r_aug, r_stup, r_app, r_ext, r_setix, r_for, r_retOwn, wE_nComp, wE_ok, wS_nx, wS_rt, wS_bk, wS_ct, wS_seq, wV_d, wV_l, wO_d, wO_l, wL_some, wL_ite, wL_map, cB_true, cB_false, cB_not, wZ_d, wZ_l, wTk_some, wT_some, tk_nil, tk_v, tk_s, putA, mask, d1, d2, tyD, okS_d, okS_l, lOf, asI, Option.isSome_some, Option.getD_some, Option.map_some, List.getElem?_cons_zero, List.getElem?_cons_succ, List.set_cons_zero, List.set_cons_succ, List.replicate_succ, List.replicate_zero, List.cons_append, List.nil_append, List.not_mem_nil, List.mem_cons, or_false, not_false_eq_true, true_and, decide_true, if_true, if_false, reduceIte, Nat.reduceEqDiff, Nat.reduceAdd, Nat.reduceSub, Nat.reduceLeDiff, Nat.reduceLT, Int.reduceLT, Int.reduceLE, Int.reduceAdd, Int.reduceSub, Int.reduceEq, Int.reduceNeg, Nat.reduceMul, decide_false, Bool.not_true, Bool.not_false, and_true, true_or, or_true, Int.reduceMul, Int.reduceToNat, Nat.reducePow, Int.reducePow, Nat.not_lt_zero, l_addI, l_addS, l_addL, l_addT, l_sub, l_div, l_mod, l_mulI, l_mulS, l_mulL, l_eqI, l_eqS, l_neI, l_neS, l_ltI, l_leI, l_gtI, l_geI, l_ltS, l_leS, l_gtS, l_geS, l_truI, l_truB, l_truL, l_truT, l_truN, l_truS, l_lenS, l_lenL, l_lenT, l_intI, l_absI, l_tupL, l_tupT, l_itL, l_itT, l_itS, l_rg1, l_rg2, l_ixL, l_ixT, l_ixS, at_0, at_1, at_2, at_3, set_0, set_1, set_2, set_3, List.length_cons, List.length_nil, Int.cast_ofNat_Int, Int.natCast_one, tgD_n, tgD_t, tgA_nil, tgA_cons, Option.bind_some, l_isSS, l_isST, l_isSL, l_isSI, l_isTT, l_isTS, l_isTL, l_isTI, l_isII, l_isBI, l_isLL, l_ord, l_sum, sum_int]
      refine congrArg (fun z => Sl.d (PyData.int z)) ?_
      rw [flat_len]
      unfold rowsOf
      simp only [List.map_append, List.sum_append, List.map_map, List.map_cons, List.map_nil, List.sum_cons, List.sum_nil, List.length_nil]
      have e : ((fun r : T => r.length + 1) ∘ fun p : T × T => p.1 ++ [58, 32] ++ p.2) = fun p : T × T => p.1.length + p.2.length + 3 := by
        funext p
        simp only [Function.comp_apply, List.length_append, List.length_cons, List.length_nil]
        omega
      rw [e]
      omega
theorem sizeof_ok {hs : List (T × T)} {ls : List T} (g : Good hs ls) : m_size_of [.d (LD hs ls)] = .ok (.d (.int (flat (rowsOf hs ls)).length)) [.un] := by
  refine eqF (wF_run rfl ?_)
  simp only [b_size_of, r_lft, r_var, r_own, r_c, r_bin, r_binO, r_cmp, r_tcmp, r_tcmpO, r_tru, r_tand, r_tor, r_tnot, r_eif, r_nif, r_and, r_or, r_not, r_neg, r_cb, r_ncb, r_bm, r_bm0, r_tup, r_lst, r_anil, r_acons, r_aone, r_vnil, r_vcons, r_vslot, r_sl, r_onone, r_osome, r_chain, r_tchain, r_isi, r_iany, r_rg1, r_rg2, r_yes, r_frz, r_call, r_F, r_sif, r_snil, r_pass, r_break, r_cont, r_no, r_ret, r_retN, r_retNone, r_drop, r_dropN, r_asg, r_asgN, r_aug, r_stup, r_app, r_ext, r_setix, r_for, r_retOwn, wE_nComp, wE_ok, wS_nx, wS_rt, wS_bk, wS_ct, wS_seq, wV_d, wV_l, wO_d, wO_l, wL_some, wL_ite, wL_map, cB_true, cB_false, cB_not, wZ_d, wZ_l, wTk_some, wT_some, tk_nil, tk_v, tk_s, putA, mask, d1, d2, tyD, okS_d, okS_l, lOf, asI, Option.isSome_some, Option.getD_some, Option.map_some, List.getElem?_cons_zero, List.getElem?_cons_succ, List.set_cons_zero, List.set_cons_succ, List.replicate_succ, List.replicate_zero, List.cons_append, List.nil_append, List.not_mem_nil, List.mem_cons, or_false, not_false_eq_true, true_and, decide_true, if_true, if_false, reduceIte, Nat.reduceEqDiff, Nat.reduceAdd, Nat.reduceSub, Nat.reduceLeDiff, Nat.reduceLT, Int.reduceLT, Int.reduceLE, Int.reduceAdd, Int.reduceSub, Int.reduceEq, Int.reduceNeg, Nat.reduceMul, decide_false, Bool.not_true, Bool.not_false, and_true, true_or, or_true, Int.reduceMul, Int.reduceToNat, Nat.reducePow, Int.reducePow, Nat.not_lt_zero, l_addI, l_addS, l_addL, l_addT, l_sub, l_div, l_mod, l_mulI, l_mulS, l_mulL, l_eqI, l_eqS, l_neI, l_neS, l_ltI, l_leI, l_gtI, l_geI, l_ltS, l_leS, l_gtS, l_geS, l_truI, l_truB, l_truL, l_truT, l_truN, l_truS, l_lenS, l_lenL, l_lenT, l_intI, l_absI, l_tupL, l_tupT, l_itL, l_itT, l_itS, l_rg1, l_rg2, l_ixL, l_ixT, l_ixS, at_0, at_1, at_2, at_3, set_0, set_1, set_2, set_3, List.length_cons, List.length_nil, Int.cast_ofNat_Int, Int.natCast_one, tgD_n, tgD_t, tgA_nil, tgA_cons, Option.bind_some, l_isSS, l_isST, l_isSL, l_isSI, l_isTT, l_isTS, l_isTL, l_isTI, l_isII, l_isBI, l_isLL, l_ord, check_ok g, size_in_ok g]
/-! ### reading -/
def low (c : Nat) : Nat := if 65 ≤ c ∧ c ≤ 90 then c + 32 else c
theorem great_list : (Str.ofString "ABCDEFGHIJKLMNOPQRSTUVWXYZ").cps.toList = (List.range 26).map (· + 65) := by decide +kernel
theorem in_great {c : Nat} : c ∈ (Str.ofString "ABCDEFGHIJKLMNOPQRSTUVWXYZ").cps.toList ↔ 65 ≤ c ∧ c ≤ 90 := by
  rw [great_list]
  simp only [List.mem_map, List.mem_range]
  exact ⟨fun ⟨a, h, e⟩ => by omega, fun h => ⟨c - 65, by omega, by omega⟩⟩
def gixAll : Bool := (List.range 26).all fun i => decide ((Builtin.Str.occurrences (Str.ofString "ABCDEFGHIJKLMNOPQRSTUVWXYZ") ⟨#[i + 65]⟩ 0 (Str.ofString "ABCDEFGHIJKLMNOPQRSTUVWXYZ").length 1).head? = some i) && decide ((Str.ofString "abcdefghijklmnopqrstuvwxyz").cps.toList[i]? = some (i + 97))
theorem gix_ok : gixAll = true := by decide +kernel
theorem gix {c : Nat} (h : 65 ≤ c ∧ c ≤ 90) : dSIndex (.str (Str.ofString "ABCDEFGHIJKLMNOPQRSTUVWXYZ")) [.str ⟨#[c]⟩] = some (.int (c - 65 : Nat)) ∧ atI (Str.ofString "abcdefghijklmnopqrstuvwxyz").cps.toList (c - 65 : Nat) = some (low c) := by
  have h1 := gix_ok
  unfold gixAll at h1
  rw [List.all_eq_true] at h1
  have h2 := h1 (c - 65) (List.mem_range.mpr (by omega))
  rw [Bool.and_eq_true, decide_eq_true_eq, decide_eq_true_eq, show c - 65 + 65 = c by omega] at h2
  refine ⟨?_, at_nat (by omega) ?_⟩
  · show (Builtin.Str.occurrences _ _ 0 _ 1).head?.map _ = _
    rw [h2.1]
    rfl
  · rw [Int.toNat_natCast, h2.2]
    unfold low
    rw [if_pos h]
    congr 1
    omega
theorem l_part {a b : Str} : dPartition (.str a) [.str b] = if (b.length == 0) = false ∧ a.length ≤ 16777216 then some (.tuple [.str (Txt.partition a b).1, .str (Txt.partition a b).2.1, .str (Txt.partition a b).2.2]) else none := rfl
theorem co : (Str.ofString ":") = S [58] := rfl
theorem headof {N rest v : T} {at_ : D} (h1 : 58 ∉ N) (h2 : okName (N.map low) = true) (h3 : Txt.stripChars (S rest) (Str.ofString " ") = S v) (hl : (N ++ 58 :: rest).length ≤ 200) : m_head_of [.d (.str (S (N ++ 58 :: rest))), .d at_] = .ok (.d (.tuple [.str (S (N.map low)), .str (S v)])) [.un, .un] := by
  have hp : Txt.partition (S (N ++ 58 :: rest)) (S [58]) = (S N, S [58], S rest) := SX.partition_some (by simp) (SX.par_head rest h1)
  have hb : ((S [58]).length == 0) = false := rfl
  rw [List.length_append, List.length_cons] at hl
  refine eqF (wF_run rfl ?_)
  simp only [b_head_of, r_lft, r_var, r_own, r_c, r_bin, r_binO, r_cmp, r_tcmp, r_tcmpO, r_tru, r_tand, r_tor, r_tnot, r_eif, r_nif, r_and, r_or, r_not, r_neg, r_cb, r_ncb, r_bm, r_bm0, r_tup, r_lst, r_anil, r_acons, r_aone, r_vnil, r_vcons, r_vslot, r_sl, r_onone, r_osome, r_chain, r_tchain, r_isi, r_iany, r_rg1, r_rg2, r_yes, r_frz, r_call, r_F, r_sif, r_snil, r_pass, r_break, r_cont, r_no, r_ret, r_retN, r_retNone, r_drop, r_dropN, r_asg, r_asgN, r_aug, r_stup, r_app, r_ext, r_setix, r_for, r_retOwn, wE_nComp, wE_ok, wS_nx, wS_rt, wS_bk, wS_ct, wS_seq, wV_d, wV_l, wO_d, wO_l, wL_some, wL_ite, wL_map, cB_true, cB_false, cB_not, wZ_d, wZ_l, wTk_some, wT_some, tk_nil, tk_v, tk_s, putA, mask, d1, d2, tyD, okS_d, okS_l, lOf, asI, Option.isSome_some, Option.getD_some, Option.map_some, List.getElem?_cons_zero, List.getElem?_cons_succ, List.set_cons_zero, List.set_cons_succ, List.replicate_succ, List.replicate_zero, List.cons_append, List.nil_append, List.not_mem_nil, List.mem_cons, or_false, not_false_eq_true, true_and, decide_true, if_true, if_false, reduceIte, Nat.reduceEqDiff, Nat.reduceAdd, Nat.reduceSub, Nat.reduceLeDiff, Nat.reduceLT, Int.reduceLT, Int.reduceLE, Int.reduceAdd, Int.reduceSub, Int.reduceEq, Int.reduceNeg, Nat.reduceMul, decide_false, Bool.not_true, Bool.not_false, and_true, true_or, or_true, Int.reduceMul, Int.reduceToNat, Nat.reducePow, Int.reducePow, Nat.not_lt_zero, l_addI, l_addS, l_addL, l_addT, l_sub, l_div, l_mod, l_mulI, l_mulS, l_mulL, l_eqI, l_eqS, l_neI, l_neS, l_ltI, l_leI, l_gtI, l_geI, l_ltS, l_leS, l_gtS, l_geS, l_truI, l_truB, l_truL, l_truT, l_truN, l_truS, l_lenS, l_lenL, l_lenT, l_intI, l_absI, l_tupL, l_tupT, l_itL, l_itT, l_itS, l_rg1, l_rg2, l_ixL, l_ixT, l_ixS, at_0, at_1, at_2, at_3, set_0, set_1, set_2, set_3, List.length_cons, List.length_nil, Int.cast_ofNat_Int, Int.natCast_one, tgD_n, tgD_t, tgA_nil, tgA_cons, Option.bind_some, l_isSS, l_isST, l_isSL, l_isSI, l_isTT, l_isTS, l_isTL, l_isTI, l_isII, l_isBI, l_isLL, l_ord, co, l_part, hp, hb, S_len, List.length_append]
  refine ⟨⟨rfl, by omega⟩, ?_⟩
  refine wE_compG [.d (.str (S (N ++ 58 :: rest))), .d at_, .d (.str (S N)), .d (.str (S [58])), .d (.str (S rest)), .un] (fun c => .str ⟨#[c]⟩) (fun c => some (.str (S [low c]))) N rfl (by omega) (fun c hc => ?_) ?_
  · refine ⟨_, rfl, ?_⟩
    simp only [r_lft, r_var, r_own, r_c, r_bin, r_binO, r_cmp, r_tcmp, r_tcmpO, r_tru, r_tand, r_tor, r_tnot, r_eif, r_nif, r_and, r_or, r_not, r_neg, r_cb, r_ncb, r_bm, r_bm0, r_tup, r_lst, r_anil, r_acons, r_aone, r_vnil, r_vcons, r_vslot, r_sl, r_onone, r_osome, r_chain, r_tchain, r_isi, r_iany, r_rg1, r_rg2, r_yes, r_frz, r_call, r_F, r_sif, r_snil, r_pass, r_break, r_cont, r_no, r_ret, r_retN, r_retNone, r_drop, r_dropN, r_asg, r_asgN, r_aug, r_stup, r_app, r_ext, r_setix, r_for, r_retOwn, wE_nComp, wE_ok, wS_nx, wS_rt, wS_bk, wS_ct, wS_seq, wV_d, wV_l, wO_d, wO_l, wL_some, wL_ite, wL_map, cB_true, cB_false, cB_not, wZ_d, wZ_l, wTk_some, wT_some, tk_nil, tk_v, tk_s, putA, mask, d1, d2, tyD, okS_d, okS_l, lOf, asI, Option.isSome_some, Option.getD_some, Option.map_some, List.getElem?_cons_zero, List.getElem?_cons_succ, List.set_cons_zero, List.set_cons_succ, List.replicate_succ, List.replicate_zero, List.cons_append, List.nil_append, List.not_mem_nil, List.mem_cons, or_false, not_false_eq_true, true_and, decide_true, if_true, if_false, reduceIte, Nat.reduceEqDiff, Nat.reduceAdd, Nat.reduceSub, Nat.reduceLeDiff, Nat.reduceLT, Int.reduceLT, Int.reduceLE, Int.reduceAdd, Int.reduceSub, Int.reduceEq, Int.reduceNeg, Nat.reduceMul, decide_false, Bool.not_true, Bool.not_false, and_true, true_or, or_true, Int.reduceMul, Int.reduceToNat, Nat.reducePow, Int.reducePow, Nat.not_lt_zero, l_addI, l_addS, l_addL, l_addT, l_sub, l_div, l_mod, l_mulI, l_mulS, l_mulL, l_eqI, l_eqS, l_neI, l_neS, l_ltI, l_leI, l_gtI, l_geI, l_ltS, l_leS, l_gtS, l_geS, l_truI, l_truB, l_truL, l_truT, l_truN, l_truS, l_lenS, l_lenL, l_lenT, l_intI, l_absI, l_tupL, l_tupT, l_itL, l_itT, l_itS, l_rg1, l_rg2, l_ixL, l_ixT, l_ixS, at_0, at_1, at_2, at_3, set_0, set_1, set_2, set_3, List.length_cons, List.length_nil, Int.cast_ofNat_Int, Int.natCast_one, tgD_n, tgD_t, tgA_nil, tgA_cons, Option.bind_some, l_isSS, l_isST, l_isSL, l_isSI, l_isTT, l_isTS, l_isTL, l_isTI, l_isII, l_isBI, l_isLL, l_ord, l_in1]
    refine cB_dec (fun z => ?_) fun z => ?_
    · obtain ⟨g1, g2⟩ := gix (in_great.mp z)
      have e26 : (Str.ofString "abcdefghijklmnopqrstuvwxyz").length = 26 := by decide
      simp only [r_lft, r_var, r_own, r_c, r_bin, r_binO, r_cmp, r_tcmp, r_tcmpO, r_tru, r_tand, r_tor, r_tnot, r_eif, r_nif, r_and, r_or, r_not, r_neg, r_cb, r_ncb, r_bm, r_bm0, r_tup, r_lst, r_anil, r_acons, r_aone, r_vnil, r_vcons, r_vslot, r_sl, r_onone, r_osome, r_chain, r_tchain, r_isi, r_iany, r_rg1, r_rg2, r_yes, r_frz, r_call, r_F, r_sif, r_snil, r_pass, r_break, r_cont, r_no, r_ret, r_retN, r_retNone, r_drop, r_dropN, r_asg, r_asgN, r_aug, r_stup, r_app, r_ext, r_setix, r_for, r_retOwn, wE_nComp, wE_ok, wS_nx, wS_rt, wS_bk, wS_ct, wS_seq, wV_d, wV_l, wO_d, wO_l, wL_some, wL_ite, wL_map, cB_true, cB_false, cB_not, wZ_d, wZ_l, wTk_some, wT_some, tk_nil, tk_v, tk_s, putA, mask, d1, d2, tyD, okS_d, okS_l, lOf, asI, Option.isSome_some, Option.getD_some, Option.map_some, List.getElem?_cons_zero, List.getElem?_cons_succ, List.set_cons_zero, List.set_cons_succ, List.replicate_succ, List.replicate_zero, List.cons_append, List.nil_append, List.not_mem_nil, List.mem_cons, or_false, not_false_eq_true, true_and, decide_true, if_true, if_false, reduceIte, Nat.reduceEqDiff, Nat.reduceAdd, Nat.reduceSub, Nat.reduceLeDiff, Nat.reduceLT, Int.reduceLT, Int.reduceLE, Int.reduceAdd, Int.reduceSub, Int.reduceEq, Int.reduceNeg, Nat.reduceMul, decide_false, Bool.not_true, Bool.not_false, and_true, true_or, or_true, Int.reduceMul, Int.reduceToNat, Nat.reducePow, Int.reducePow, Nat.not_lt_zero, l_addI, l_addS, l_addL, l_addT, l_sub, l_div, l_mod, l_mulI, l_mulS, l_mulL, l_eqI, l_eqS, l_neI, l_neS, l_ltI, l_leI, l_gtI, l_geI, l_ltS, l_leS, l_gtS, l_geS, l_truI, l_truB, l_truL, l_truT, l_truN, l_truS, l_lenS, l_lenL, l_lenT, l_intI, l_absI, l_tupL, l_tupT, l_itL, l_itT, l_itS, l_rg1, l_rg2, l_ixL, l_ixT, l_ixS, at_0, at_1, at_2, at_3, set_0, set_1, set_2, set_3, List.length_cons, List.length_nil, Int.cast_ofNat_Int, Int.natCast_one, tgD_n, tgD_t, tgA_nil, tgA_cons, Option.bind_some, l_isSS, l_isST, l_isSL, l_isSI, l_isTT, l_isTS, l_isTL, l_isTI, l_isII, l_isBI, l_isLL, l_ord, g1, g2, e26]
      rfl
    · have : low c = c := by unfold low; rw [if_neg fun w => z (in_great.mpr w)]
      simp only [r_lft, r_var, r_own, r_c, r_bin, r_binO, r_cmp, r_tcmp, r_tcmpO, r_tru, r_tand, r_tor, r_tnot, r_eif, r_nif, r_and, r_or, r_not, r_neg, r_cb, r_ncb, r_bm, r_bm0, r_tup, r_lst, r_anil, r_acons, r_aone, r_vnil, r_vcons, r_vslot, r_sl, r_onone, r_osome, r_chain, r_tchain, r_isi, r_iany, r_rg1, r_rg2, r_yes, r_frz, r_call, r_F, r_sif, r_snil, r_pass, r_break, r_cont, r_no, r_ret, r_retN, r_retNone, r_drop, r_dropN, r_asg, r_asgN, r_aug, r_stup, r_app, r_ext, r_setix, r_for, r_retOwn, wE_nComp, wE_ok, wS_nx, wS_rt, wS_bk, wS_ct, wS_seq, wV_d, wV_l, wO_d, wO_l, wL_some, wL_ite, wL_map, cB_true, cB_false, cB_not, wZ_d, wZ_l, wTk_some, wT_some, tk_nil, tk_v, tk_s, putA, mask, d1, d2, tyD, okS_d, okS_l, lOf, asI, Option.isSome_some, Option.getD_some, Option.map_some, List.getElem?_cons_zero, List.getElem?_cons_succ, List.set_cons_zero, List.set_cons_succ, List.replicate_succ, List.replicate_zero, List.cons_append, List.nil_append, List.not_mem_nil, List.mem_cons, or_false, not_false_eq_true, true_and, decide_true, if_true, if_false, reduceIte, Nat.reduceEqDiff, Nat.reduceAdd, Nat.reduceSub, Nat.reduceLeDiff, Nat.reduceLT, Int.reduceLT, Int.reduceLE, Int.reduceAdd, Int.reduceSub, Int.reduceEq, Int.reduceNeg, Nat.reduceMul, decide_false, Bool.not_true, Bool.not_false, and_true, true_or, or_true, Int.reduceMul, Int.reduceToNat, Nat.reducePow, Int.reducePow, Nat.not_lt_zero, l_addI, l_addS, l_addL, l_addT, l_sub, l_div, l_mod, l_mulI, l_mulS, l_mulL, l_eqI, l_eqS, l_neI, l_neS, l_ltI, l_leI, l_gtI, l_geI, l_ltS, l_leS, l_gtS, l_geS, l_truI, l_truB, l_truL, l_truT, l_truN, l_truS, l_lenS, l_lenL, l_lenT, l_intI, l_absI, l_tupL, l_tupT, l_itL, l_itT, l_itS, l_rg1, l_rg2, l_ixL, l_ixT, l_ixS, at_0, at_1, at_2, at_3, set_0, set_1, set_2, set_3, List.length_cons, List.length_nil, Int.cast_ofNat_Int, Int.natCast_one, tgD_n, tgD_t, tgA_nil, tgA_cons, Option.bind_some, l_isSS, l_isST, l_isSL, l_isSI, l_isTT, l_isTS, l_isTL, l_isTI, l_isII, l_isBI, l_isLL, l_ord, this]
      rfl
  · rw [fm_some, show (N.map fun c => PyData.str (S [low c])) = (N.map low).map fun c => .str (S [c]) by rw [List.map_map]; rfl]
    simp only [r_lft, r_var, r_own, r_c, r_bin, r_binO, r_cmp, r_tcmp, r_tcmpO, r_tru, r_tand, r_tor, r_tnot, r_eif, r_nif, r_and, r_or, r_not, r_neg, r_cb, r_ncb, r_bm, r_bm0, r_tup, r_lst, r_anil, r_acons, r_aone, r_vnil, r_vcons, r_vslot, r_sl, r_onone, r_osome, r_chain, r_tchain, r_isi, r_iany, r_rg1, r_rg2, r_yes, r_frz, r_call, r_F, r_sif, r_snil, r_pass, r_break, r_cont, r_no, r_ret, r_retN, r_retNone, r_drop, r_dropN, r_asg, r_asgN, r_aug, r_stup, r_app, r_ext, r_setix, r_for, r_retOwn, wE_nComp, wE_ok, wS_nx, wS_rt, wS_bk, wS_ct, wS_seq, wV_d, wV_l, wO_d, wO_l, wL_some, wL_ite, wL_map, cB_true, cB_false, cB_not, wZ_d, wZ_l, wTk_some, wT_some, tk_nil, tk_v, tk_s, putA, mask, d1, d2, tyD, okS_d, okS_l, lOf, asI, Option.isSome_some, Option.getD_some, Option.map_some, List.getElem?_cons_zero, List.getElem?_cons_succ, List.set_cons_zero, List.set_cons_succ, List.replicate_succ, List.replicate_zero, List.cons_append, List.nil_append, List.not_mem_nil, List.mem_cons, or_false, not_false_eq_true, true_and, decide_true, if_true, if_false, reduceIte, Nat.reduceEqDiff, Nat.reduceAdd, Nat.reduceSub, Nat.reduceLeDiff, Nat.reduceLT, Int.reduceLT, Int.reduceLE, Int.reduceAdd, Int.reduceSub, Int.reduceEq, Int.reduceNeg, Nat.reduceMul, decide_false, Bool.not_true, Bool.not_false, and_true, true_or, or_true, Int.reduceMul, Int.reduceToNat, Nat.reducePow, Int.reducePow, Nat.not_lt_zero, l_addI, l_addS, l_addL, l_addT, l_sub, l_div, l_mod, l_mulI, l_mulS, l_mulL, l_eqI, l_eqS, l_neI, l_neS, l_ltI, l_leI, l_gtI, l_geI, l_ltS, l_leS, l_gtS, l_geS, l_truI, l_truB, l_truL, l_truT, l_truN, l_truS, l_lenS, l_lenL, l_lenT, l_intI, l_absI, l_tupL, l_tupT, l_itL, l_itT, l_itS, l_rg1, l_rg2, l_ixL, l_ixT, l_ixS, at_0, at_1, at_2, at_3, set_0, set_1, set_2, set_3, List.length_cons, List.length_nil, Int.cast_ofNat_Int, Int.natCast_one, tgD_n, tgD_t, tgA_nil, tgA_cons, Option.bind_some, l_isSS, l_isST, l_isSL, l_isSI, l_isTT, l_isTS, l_isTL, l_isTI, l_isII, l_isBI, l_isLL, l_ord, S_nil]
    rw [BV.join_ones (by rw [List.length_map]; omega)]
    have e58 : decide (S [58] = S []) = false := rfl
    simp only [r_lft, r_var, r_own, r_c, r_bin, r_binO, r_cmp, r_tcmp, r_tcmpO, r_tru, r_tand, r_tor, r_tnot, r_eif, r_nif, r_and, r_or, r_not, r_neg, r_cb, r_ncb, r_bm, r_bm0, r_tup, r_lst, r_anil, r_acons, r_aone, r_vnil, r_vcons, r_vslot, r_sl, r_onone, r_osome, r_chain, r_tchain, r_isi, r_iany, r_rg1, r_rg2, r_yes, r_frz, r_call, r_F, r_sif, r_snil, r_pass, r_break, r_cont, r_no, r_ret, r_retN, r_retNone, r_drop, r_dropN, r_asg, r_asgN, r_aug, r_stup, r_app, r_ext, r_setix, r_for, r_retOwn, wE_nComp, wE_ok, wS_nx, wS_rt, wS_bk, wS_ct, wS_seq, wV_d, wV_l, wO_d, wO_l, wL_some, wL_ite, wL_map, cB_true, cB_false, cB_not, wZ_d, wZ_l, wTk_some, wT_some, tk_nil, tk_v, tk_s, putA, mask, d1, d2, tyD, okS_d, okS_l, lOf, asI, Option.isSome_some, Option.getD_some, Option.map_some, List.getElem?_cons_zero, List.getElem?_cons_succ, List.set_cons_zero, List.set_cons_succ, List.replicate_succ, List.replicate_zero, List.cons_append, List.nil_append, List.not_mem_nil, List.mem_cons, or_false, not_false_eq_true, true_and, decide_true, if_true, if_false, reduceIte, Nat.reduceEqDiff, Nat.reduceAdd, Nat.reduceSub, Nat.reduceLeDiff, Nat.reduceLT, Int.reduceLT, Int.reduceLE, Int.reduceAdd, Int.reduceSub, Int.reduceEq, Int.reduceNeg, Nat.reduceMul, decide_false, Bool.not_true, Bool.not_false, and_true, true_or, or_true, Int.reduceMul, Int.reduceToNat, Nat.reducePow, Int.reducePow, Nat.not_lt_zero, l_addI, l_addS, l_addL, l_addT, l_sub, l_div, l_mod, l_mulI, l_mulS, l_mulL, l_eqI, l_eqS, l_neI, l_neS, l_ltI, l_leI, l_gtI, l_geI, l_ltS, l_leS, l_gtS, l_geS, l_truI, l_truB, l_truL, l_truT, l_truN, l_truS, l_lenS, l_lenL, l_lenT, l_intI, l_absI, l_tupL, l_tupT, l_itL, l_itT, l_itS, l_rg1, l_rg2, l_ixL, l_ixT, l_ixS, at_0, at_1, at_2, at_3, set_0, set_1, set_2, set_3, List.length_cons, List.length_nil, Int.cast_ofNat_Int, Int.natCast_one, tgD_n, tgD_t, tgA_nil, tgA_cons, Option.bind_some, l_isSS, l_isST, l_isSL, l_isSI, l_isTT, l_isTS, l_isTL, l_isTI, l_isII, l_isBI, l_isLL, l_ord, isname h2, l_stripC, h3, S_len, e58, S_nil]
    omega
theorem okLine_nl {l : T} (h : okLine l = true) : 10 ∉ l := fun z => by
  unfold okLine at h
  rw [Bool.and_eq_true, List.all_eq_true] at h
  have := of_decide_eq_true (h.2 10 z)
  omega
theorem flat_app (a b : List T) : flat (a ++ b) = flat a ++ flat b := by simp [flat]
theorem flat_cons (a : T) (b : List T) : flat (a :: b) = a ++ 10 :: flat b := by simp [flat]
theorem l_find3 {a b : Str} {i : Int} : dFind3 (.str a) [.str b, .int i] = some (.int (Txt.find3 a b i)) := rfl
theorem l_slS {x : Str} {lo hi : Option Int} : dSl (.str x) lo hi = if x.length ≤ 16777216 then some (.str (cutS x lo hi)) else none := rfl
theorem l_app {x : D} {xs : List D} : app1 x xs = if xs.length < 16777216 then some (xs ++ [x]) else none := rfl
theorem bodyof {pre : T} {ls : List T} {at_ : Int} (hat : at_ = (pre.length : Nat)) (h1 : ls.length ≤ 200) (h2 : ∀ l ∈ ls, okLine l = true) (hl : (pre ++ flat ls).length ≤ 20000) : m_body_of [.d (.str (S (pre ++ flat ls))), .d (.int at_)] = .ok (.d (.tuple (ls.map ln))) [.un, .un] := by
  subst hat
  refine eqF (wF_run rfl ?_)
  simp only [b_body_of, r_lft, r_var, r_own, r_c, r_bin, r_binO, r_cmp, r_tcmp, r_tcmpO, r_tru, r_tand, r_tor, r_tnot, r_eif, r_nif, r_and, r_or, r_not, r_neg, r_cb, r_ncb, r_bm, r_bm0, r_tup, r_lst, r_anil, r_acons, r_aone, r_vnil, r_vcons, r_vslot, r_sl, r_onone, r_osome, r_chain, r_tchain, r_isi, r_iany, r_rg1, r_rg2, r_yes, r_frz, r_call, r_F, r_sif, r_snil, r_pass, r_break, r_cont, r_no, r_ret, r_retN, r_retNone, r_drop, r_dropN, r_asg, r_asgN, r_aug, r_stup, r_app, r_ext, r_setix, r_for, r_retOwn, wE_nComp, wE_ok, wS_nx, wS_rt, wS_bk, wS_ct, wS_seq, wV_d, wV_l, wO_d, wO_l, wL_some, wL_ite, wL_map, cB_true, cB_false, cB_not, wZ_d, wZ_l, wTk_some, wT_some, tk_nil, tk_v, tk_s, putA, mask, d1, d2, tyD, okS_d, okS_l, lOf, asI, Option.isSome_some, Option.getD_some, Option.map_some, List.getElem?_cons_zero, List.getElem?_cons_succ, List.set_cons_zero, List.set_cons_succ, List.replicate_succ, List.replicate_zero, List.cons_append, List.nil_append, List.not_mem_nil, List.mem_cons, or_false, not_false_eq_true, true_and, decide_true, if_true, if_false, reduceIte, Nat.reduceEqDiff, Nat.reduceAdd, Nat.reduceSub, Nat.reduceLeDiff, Nat.reduceLT, Int.reduceLT, Int.reduceLE, Int.reduceAdd, Int.reduceSub, Int.reduceEq, Int.reduceNeg, Nat.reduceMul, decide_false, Bool.not_true, Bool.not_false, and_true, true_or, or_true, Int.reduceMul, Int.reduceToNat, Nat.reducePow, Int.reducePow, Nat.not_lt_zero, l_addI, l_addS, l_addL, l_addT, l_sub, l_div, l_mod, l_mulI, l_mulS, l_mulL, l_eqI, l_eqS, l_neI, l_neS, l_ltI, l_leI, l_gtI, l_geI, l_ltS, l_leS, l_gtS, l_geS, l_truI, l_truB, l_truL, l_truT, l_truN, l_truS, l_lenS, l_lenL, l_lenT, l_intI, l_absI, l_tupL, l_tupT, l_itL, l_itT, l_itS, l_rg1, l_rg2, l_ixL, l_ixT, l_ixS, at_0, at_1, at_2, at_3, set_0, set_1, set_2, set_3, List.length_cons, List.length_nil, Int.cast_ofNat_Int, Int.natCast_one, tgD_n, tgD_t, tgA_nil, tgA_cons, Option.bind_some, l_isSS, l_isST, l_isSL, l_isSI, l_isTT, l_isTS, l_isTL, l_isTI, l_isII, l_isBI, l_isLL, l_ord]
  refine wS_while (fun m e => ∃ dn rest s3, ls = dn ++ rest ∧ m = rest.length ∧ e = [.d (.str (S (pre ++ flat ls))), .d (.int ((pre ++ flat dn).length : Nat)), .l (dn.map ln), s3]) ?_ _ ls.length _ ⟨[], ls, .un, rfl, rfl, by simp [flat]⟩ (by omega)
  rintro m e ⟨dn, rest, s3, hls, rfl, rfl⟩
  have hlen : (S (pre ++ flat ls)).length = (pre ++ flat ls).length := S_len _
  simp only [r_lft, r_var, r_own, r_c, r_bin, r_binO, r_cmp, r_tcmp, r_tcmpO, r_tru, r_tand, r_tor, r_tnot, r_eif, r_nif, r_and, r_or, r_not, r_neg, r_cb, r_ncb, r_bm, r_bm0, r_tup, r_lst, r_anil, r_acons, r_aone, r_vnil, r_vcons, r_vslot, r_sl, r_onone, r_osome, r_chain, r_tchain, r_isi, r_iany, r_rg1, r_rg2, r_yes, r_frz, r_call, r_F, r_sif, r_snil, r_pass, r_break, r_cont, r_no, r_ret, r_retN, r_retNone, r_drop, r_dropN, r_asg, r_asgN, r_aug, r_stup, r_app, r_ext, r_setix, r_for, r_retOwn, wE_nComp, wE_ok, wS_nx, wS_rt, wS_bk, wS_ct, wS_seq, wV_d, wV_l, wO_d, wO_l, wL_some, wL_ite, wL_map, cB_true, cB_false, cB_not, wZ_d, wZ_l, wTk_some, wT_some, tk_nil, tk_v, tk_s, putA, mask, d1, d2, tyD, okS_d, okS_l, lOf, asI, Option.isSome_some, Option.getD_some, Option.map_some, List.getElem?_cons_zero, List.getElem?_cons_succ, List.set_cons_zero, List.set_cons_succ, List.replicate_succ, List.replicate_zero, List.cons_append, List.nil_append, List.not_mem_nil, List.mem_cons, or_false, not_false_eq_true, true_and, decide_true, if_true, if_false, reduceIte, Nat.reduceEqDiff, Nat.reduceAdd, Nat.reduceSub, Nat.reduceLeDiff, Nat.reduceLT, Int.reduceLT, Int.reduceLE, Int.reduceAdd, Int.reduceSub, Int.reduceEq, Int.reduceNeg, Nat.reduceMul, decide_false, Bool.not_true, Bool.not_false, and_true, true_or, or_true, Int.reduceMul, Int.reduceToNat, Nat.reducePow, Int.reducePow, Nat.not_lt_zero, l_addI, l_addS, l_addL, l_addT, l_sub, l_div, l_mod, l_mulI, l_mulS, l_mulL, l_eqI, l_eqS, l_neI, l_neS, l_ltI, l_leI, l_gtI, l_geI, l_ltS, l_leS, l_gtS, l_geS, l_truI, l_truB, l_truL, l_truT, l_truN, l_truS, l_lenS, l_lenL, l_lenT, l_intI, l_absI, l_tupL, l_tupT, l_itL, l_itT, l_itS, l_rg1, l_rg2, l_ixL, l_ixT, l_ixS, at_0, at_1, at_2, at_3, set_0, set_1, set_2, set_3, List.length_cons, List.length_nil, Int.cast_ofNat_Int, Int.natCast_one, tgD_n, tgD_t, tgA_nil, tgA_cons, Option.bind_some, l_isSS, l_isST, l_isSL, l_isSI, l_isTT, l_isTS, l_isTL, l_isTI, l_isII, l_isBI, l_isLL, l_ord, hlen]
  refine ⟨by omega, ?_⟩
  cases rest with
  | nil =>
    rw [List.append_nil] at hls
    subst hls
    simp only [decide_eq_false (show ¬ (((pre ++ flat ls).length : Nat) : Int) < ((pre ++ flat ls).length : Nat) by omega), Bool.false_eq_true, if_false]
    (try simp only [r_lft, r_var, r_own, r_c, r_bin, r_binO, r_cmp, r_tcmp, r_tcmpO, r_tru, r_tand, r_tor, r_tnot, r_eif, r_nif, r_and, r_or, r_not, r_neg, r_cb, r_ncb, r_bm, r_bm0, r_tup, r_lst, r_anil, r_acons, r_aone, r_vnil, r_vcons, r_vslot, r_sl, r_onone, r_osome, r_chain, r_tchain, r_isi, r_iany, r_rg1, r_rg2, r_yes, r_frz, r_call, r_F, r_sif, r_snil, r_pass, r_break, r_cont, r_no, r_ret, r_retN, r_retNone, r_drop, r_dropN, r_asg, r_asgN, r_aug, r_stup, r_app, r_ext, r_setix, r_for, r_retOwn, wE_nComp, wE_ok, wS_nx, wS_rt, wS_bk, wS_ct, wS_seq, wV_d, wV_l, wO_d, wO_l, wL_some, wL_ite, wL_map, cB_true, cB_false, cB_not, wZ_d, wZ_l, wTk_some, wT_some, tk_nil, tk_v, tk_s, putA, mask, d1, d2, tyD, okS_d, okS_l, lOf, asI, Option.isSome_some, Option.getD_some, Option.map_some, List.getElem?_cons_zero, List.getElem?_cons_succ, List.set_cons_zero, List.set_cons_succ, List.replicate_succ, List.replicate_zero, List.cons_append, List.nil_append, List.not_mem_nil, List.mem_cons, or_false, not_false_eq_true, true_and, decide_true, if_true, if_false, reduceIte, Nat.reduceEqDiff, Nat.reduceAdd, Nat.reduceSub, Nat.reduceLeDiff, Nat.reduceLT, Int.reduceLT, Int.reduceLE, Int.reduceAdd, Int.reduceSub, Int.reduceEq, Int.reduceNeg, Nat.reduceMul, decide_false, Bool.not_true, Bool.not_false, and_true, true_or, or_true, Int.reduceMul, Int.reduceToNat, Nat.reducePow, Int.reducePow, Nat.not_lt_zero, l_addI, l_addS, l_addL, l_addT, l_sub, l_div, l_mod, l_mulI, l_mulS, l_mulL, l_eqI, l_eqS, l_neI, l_neS, l_ltI, l_leI, l_gtI, l_geI, l_ltS, l_leS, l_gtS, l_geS, l_truI, l_truB, l_truL, l_truT, l_truN, l_truS, l_lenS, l_lenL, l_lenT, l_intI, l_absI, l_tupL, l_tupT, l_itL, l_itT, l_itS, l_rg1, l_rg2, l_ixL, l_ixT, l_ixS, at_0, at_1, at_2, at_3, set_0, set_1, set_2, set_3, List.length_cons, List.length_nil, Int.cast_ofNat_Int, Int.natCast_one, tgD_n, tgD_t, tgA_nil, tgA_cons, Option.bind_some, l_isSS, l_isST, l_isSL, l_isSI, l_isTT, l_isTS, l_isTL, l_isTI, l_isII, l_isBI, l_isLL, l_ord])
  | cons l r =>
    have hT : pre ++ flat ls = (pre ++ flat dn) ++ (l ++ 10 :: flat r) := by rw [hls, flat_app, flat_cons, List.append_assoc]
    have hlt : (((pre ++ flat dn).length : Nat) : Int) < ((pre ++ flat ls).length : Nat) := by rw [hT, List.length_append (as := pre ++ flat dn), List.length_append (as := l), List.length_cons]; omega
    have hk : okLine l = true := h2 l (by rw [hls]; simp)
    have hfind : Txt.find3 (S (pre ++ flat ls)) ⟨#[10]⟩ ((pre ++ flat dn).length : Nat) = (((pre ++ flat dn).length + l.length : Nat) : Int) := by rw [hT]; exact find3_at (okLine_nl hk)
    have hcut : cutS (S (pre ++ flat ls)) (some ((pre ++ flat dn).length : Nat)) (some (((pre ++ flat dn).length + l.length : Nat) : Int)) = S l := by rw [hT]; exact cut_at
    have hdn : dn.length < 200 := by rw [hls, List.length_append, List.length_cons] at h1; omega
    simp only [decide_eq_true hlt, if_true]
    simp only [r_lft, r_var, r_own, r_c, r_bin, r_binO, r_cmp, r_tcmp, r_tcmpO, r_tru, r_tand, r_tor, r_tnot, r_eif, r_nif, r_and, r_or, r_not, r_neg, r_cb, r_ncb, r_bm, r_bm0, r_tup, r_lst, r_anil, r_acons, r_aone, r_vnil, r_vcons, r_vslot, r_sl, r_onone, r_osome, r_chain, r_tchain, r_isi, r_iany, r_rg1, r_rg2, r_yes, r_frz, r_call, r_F, r_sif, r_snil, r_pass, r_break, r_cont, r_no, r_ret, r_retN, r_retNone, r_drop, r_dropN, r_asg, r_asgN, r_aug, r_stup, r_app, r_ext, r_setix, r_for, r_retOwn, wE_nComp, wE_ok, wS_nx, wS_rt, wS_bk, wS_ct, wS_seq, wV_d, wV_l, wO_d, wO_l, wL_some, wL_ite, wL_map, cB_true, cB_false, cB_not, wZ_d, wZ_l, wTk_some, wT_some, tk_nil, tk_v, tk_s, putA, mask, d1, d2, tyD, okS_d, okS_l, lOf, asI, Option.isSome_some, Option.getD_some, Option.map_some, List.getElem?_cons_zero, List.getElem?_cons_succ, List.set_cons_zero, List.set_cons_succ, List.replicate_succ, List.replicate_zero, List.cons_append, List.nil_append, List.not_mem_nil, List.mem_cons, or_false, not_false_eq_true, true_and, decide_true, if_true, if_false, reduceIte, Nat.reduceEqDiff, Nat.reduceAdd, Nat.reduceSub, Nat.reduceLeDiff, Nat.reduceLT, Int.reduceLT, Int.reduceLE, Int.reduceAdd, Int.reduceSub, Int.reduceEq, Int.reduceNeg, Nat.reduceMul, decide_false, Bool.not_true, Bool.not_false, and_true, true_or, or_true, Int.reduceMul, Int.reduceToNat, Nat.reducePow, Int.reducePow, Nat.not_lt_zero, l_addI, l_addS, l_addL, l_addT, l_sub, l_div, l_mod, l_mulI, l_mulS, l_mulL, l_eqI, l_eqS, l_neI, l_neS, l_ltI, l_leI, l_gtI, l_geI, l_ltS, l_leS, l_gtS, l_geS, l_truI, l_truB, l_truL, l_truT, l_truN, l_truS, l_lenS, l_lenL, l_lenT, l_intI, l_absI, l_tupL, l_tupT, l_itL, l_itT, l_itS, l_rg1, l_rg2, l_ixL, l_ixT, l_ixS, at_0, at_1, at_2, at_3, set_0, set_1, set_2, set_3, List.length_cons, List.length_nil, Int.cast_ofNat_Int, Int.natCast_one, tgD_n, tgD_t, tgA_nil, tgA_cons, Option.bind_some, l_isSS, l_isST, l_isSL, l_isSI, l_isTT, l_isTS, l_isTL, l_isTI, l_isII, l_isBI, l_isLL, l_ord, ch_nl, l_find3, hfind]
    refine cB_dec (fun z => by omega) fun _ => ?_
    simp only [r_lft, r_var, r_own, r_c, r_bin, r_binO, r_cmp, r_tcmp, r_tcmpO, r_tru, r_tand, r_tor, r_tnot, r_eif, r_nif, r_and, r_or, r_not, r_neg, r_cb, r_ncb, r_bm, r_bm0, r_tup, r_lst, r_anil, r_acons, r_aone, r_vnil, r_vcons, r_vslot, r_sl, r_onone, r_osome, r_chain, r_tchain, r_isi, r_iany, r_rg1, r_rg2, r_yes, r_frz, r_call, r_F, r_sif, r_snil, r_pass, r_break, r_cont, r_no, r_ret, r_retN, r_retNone, r_drop, r_dropN, r_asg, r_asgN, r_aug, r_stup, r_app, r_ext, r_setix, r_for, r_retOwn, wE_nComp, wE_ok, wS_nx, wS_rt, wS_bk, wS_ct, wS_seq, wV_d, wV_l, wO_d, wO_l, wL_some, wL_ite, wL_map, cB_true, cB_false, cB_not, wZ_d, wZ_l, wTk_some, wT_some, tk_nil, tk_v, tk_s, putA, mask, d1, d2, tyD, okS_d, okS_l, lOf, asI, Option.isSome_some, Option.getD_some, Option.map_some, List.getElem?_cons_zero, List.getElem?_cons_succ, List.set_cons_zero, List.set_cons_succ, List.replicate_succ, List.replicate_zero, List.cons_append, List.nil_append, List.not_mem_nil, List.mem_cons, or_false, not_false_eq_true, true_and, decide_true, if_true, if_false, reduceIte, Nat.reduceEqDiff, Nat.reduceAdd, Nat.reduceSub, Nat.reduceLeDiff, Nat.reduceLT, Int.reduceLT, Int.reduceLE, Int.reduceAdd, Int.reduceSub, Int.reduceEq, Int.reduceNeg, Nat.reduceMul, decide_false, Bool.not_true, Bool.not_false, and_true, true_or, or_true, Int.reduceMul, Int.reduceToNat, Nat.reducePow, Int.reducePow, Nat.not_lt_zero, l_addI, l_addS, l_addL, l_addT, l_sub, l_div, l_mod, l_mulI, l_mulS, l_mulL, l_eqI, l_eqS, l_neI, l_neS, l_ltI, l_leI, l_gtI, l_geI, l_ltS, l_leS, l_gtS, l_geS, l_truI, l_truB, l_truL, l_truT, l_truN, l_truS, l_lenS, l_lenL, l_lenT, l_intI, l_absI, l_tupL, l_tupT, l_itL, l_itT, l_itS, l_rg1, l_rg2, l_ixL, l_ixT, l_ixS, at_0, at_1, at_2, at_3, set_0, set_1, set_2, set_3, List.length_cons, List.length_nil, Int.cast_ofNat_Int, Int.natCast_one, tgD_n, tgD_t, tgA_nil, tgA_cons, Option.bind_some, l_isSS, l_isST, l_isSL, l_isSI, l_isTT, l_isTS, l_isTL, l_isTI, l_isII, l_isBI, l_isLL, l_ord, l_slS, hfind, hcut, hlen, isline hk]
    refine ⟨by omega, ?_⟩
    simp only [List.length_map]
    refine cB_dec (fun z => by omega) fun _ => ?_
    simp only [r_lft, r_var, r_own, r_c, r_bin, r_binO, r_cmp, r_tcmp, r_tcmpO, r_tru, r_tand, r_tor, r_tnot, r_eif, r_nif, r_and, r_or, r_not, r_neg, r_cb, r_ncb, r_bm, r_bm0, r_tup, r_lst, r_anil, r_acons, r_aone, r_vnil, r_vcons, r_vslot, r_sl, r_onone, r_osome, r_chain, r_tchain, r_isi, r_iany, r_rg1, r_rg2, r_yes, r_frz, r_call, r_F, r_sif, r_snil, r_pass, r_break, r_cont, r_no, r_ret, r_retN, r_retNone, r_drop, r_dropN, r_asg, r_asgN, r_aug, r_stup, r_app, r_ext, r_setix, r_for, r_retOwn, wE_nComp, wE_ok, wS_nx, wS_rt, wS_bk, wS_ct, wS_seq, wV_d, wV_l, wO_d, wO_l, wL_some, wL_ite, wL_map, cB_true, cB_false, cB_not, wZ_d, wZ_l, wTk_some, wT_some, tk_nil, tk_v, tk_s, putA, mask, d1, d2, tyD, okS_d, okS_l, lOf, asI, Option.isSome_some, Option.getD_some, Option.map_some, List.getElem?_cons_zero, List.getElem?_cons_succ, List.set_cons_zero, List.set_cons_succ, List.replicate_succ, List.replicate_zero, List.cons_append, List.nil_append, List.not_mem_nil, List.mem_cons, or_false, not_false_eq_true, true_and, decide_true, if_true, if_false, reduceIte, Nat.reduceEqDiff, Nat.reduceAdd, Nat.reduceSub, Nat.reduceLeDiff, Nat.reduceLT, Int.reduceLT, Int.reduceLE, Int.reduceAdd, Int.reduceSub, Int.reduceEq, Int.reduceNeg, Nat.reduceMul, decide_false, Bool.not_true, Bool.not_false, and_true, true_or, or_true, Int.reduceMul, Int.reduceToNat, Nat.reducePow, Int.reducePow, Nat.not_lt_zero, l_addI, l_addS, l_addL, l_addT, l_sub, l_div, l_mod, l_mulI, l_mulS, l_mulL, l_eqI, l_eqS, l_neI, l_neS, l_ltI, l_leI, l_gtI, l_geI, l_ltS, l_leS, l_gtS, l_geS, l_truI, l_truB, l_truL, l_truT, l_truN, l_truS, l_lenS, l_lenL, l_lenT, l_intI, l_absI, l_tupL, l_tupT, l_itL, l_itT, l_itS, l_rg1, l_rg2, l_ixL, l_ixT, l_ixS, at_0, at_1, at_2, at_3, set_0, set_1, set_2, set_3, List.length_cons, List.length_nil, Int.cast_ofNat_Int, Int.natCast_one, tgD_n, tgD_t, tgA_nil, tgA_cons, Option.bind_some, l_isSS, l_isST, l_isSL, l_isSI, l_isTT, l_isTS, l_isTL, l_isTI, l_isII, l_isBI, l_isLL, l_ord, l_slS, hfind, hcut, hlen, l_app, List.length_map]
    refine ⟨by omega, by omega, r.length, by simp, dn ++ [l], r, .d (.int (((pre ++ flat dn).length + l.length : Nat) : Int)), by rw [hls]; simp, rfl, ?_⟩
    have e1 : (((pre ++ flat dn).length + l.length : Nat) : Int) + 1 = ((pre ++ flat (dn ++ [l])).length : Nat) := by
      rw [flat_app, ← List.append_assoc, List.length_append (as := pre ++ flat dn), show (flat [l]).length = l.length + 1 by simp [flat]]
      omega
    rw [e1]
    simp [ln]
/-- rows that are read as these heads -/
inductive Reads (fin : List (T × T)) : List (T × T) → List T → Prop
  | nil : Reads fin fin []
  | new {hs : List (T × T)} {N rest v : T} {rows : List T} : okLine (N ++ 58 :: rest) = true → 58 ∉ N → (∀ c ∈ N.head?, c ≠ 32) → okName (N.map low) = true → Txt.stripChars (S rest) (Str.ofString " ") = S v → okVal v = true → hs.length < 40 → Reads fin (hs ++ [(N.map low, v)]) rows → Reads fin hs ((N ++ 58 :: rest) :: rows)
  | more {hs : List (T × T)} {n v row w v2 : T} {rows : List T} : okLine (32 :: row) = true → Txt.stripChars (S (32 :: row)) (Str.ofString " ") = S w → w ≠ [] → w.length ≤ 200 → Txt.stripChars (S (v ++ [32] ++ w)) (Str.ofString " ") = S v2 → okVal v = true → okVal v2 = true → hs.length < 40 → Reads fin (hs ++ [(n, v2)]) rows → Reads fin (hs ++ [(n, v)]) ((32 :: row) :: rows)
theorem read_ok {rows : List T} {hs : List (T × T)} {ls : List T} (R : Reads hs [] rows) (h1 : ls.length ≤ 200) (h2 : ∀ l ∈ ls, okLine l = true) (hl : (flat rows ++ 10 :: flat ls).length ≤ 20000) : m_read [.d (.str (S (flat rows ++ 10 :: flat ls)))] = .ok (.d (LD hs ls)) [.un] := by
  have hlen : (S (flat rows ++ 10 :: flat ls)).length = (flat rows ++ 10 :: flat ls).length := S_len _
  refine eqF (wF_run rfl ?_)
  simp only [b_read, r_lft, r_var, r_own, r_c, r_bin, r_binO, r_cmp, r_tcmp, r_tcmpO, r_tru, r_tand, r_tor, r_tnot, r_eif, r_nif, r_and, r_or, r_not, r_neg, r_cb, r_ncb, r_bm, r_bm0, r_tup, r_lst, r_anil, r_acons, r_aone, r_vnil, r_vcons, r_vslot, r_sl, r_onone, r_osome, r_chain, r_tchain, r_isi, r_iany, r_rg1, r_rg2, r_yes, r_frz, r_call, r_F, r_sif, r_snil, r_pass, r_break, r_cont, r_no, r_ret, r_retN, r_retNone, r_drop, r_dropN, r_asg, r_asgN, r_aug, r_stup, r_app, r_ext, r_setix, r_for, r_retOwn, wE_nComp, wE_ok, wS_nx, wS_rt, wS_bk, wS_ct, wS_seq, wV_d, wV_l, wO_d, wO_l, wL_some, wL_ite, wL_map, cB_true, cB_false, cB_not, wZ_d, wZ_l, wTk_some, wT_some, tk_nil, tk_v, tk_s, putA, mask, d1, d2, tyD, okS_d, okS_l, lOf, asI, Option.isSome_some, Option.getD_some, Option.map_some, List.getElem?_cons_zero, List.getElem?_cons_succ, List.set_cons_zero, List.set_cons_succ, List.replicate_succ, List.replicate_zero, List.cons_append, List.nil_append, List.not_mem_nil, List.mem_cons, or_false, not_false_eq_true, true_and, decide_true, if_true, if_false, reduceIte, Nat.reduceEqDiff, Nat.reduceAdd, Nat.reduceSub, Nat.reduceLeDiff, Nat.reduceLT, Int.reduceLT, Int.reduceLE, Int.reduceAdd, Int.reduceSub, Int.reduceEq, Int.reduceNeg, Nat.reduceMul, decide_false, Bool.not_true, Bool.not_false, and_true, true_or, or_true, Int.reduceMul, Int.reduceToNat, Nat.reducePow, Int.reducePow, Nat.not_lt_zero, l_addI, l_addS, l_addL, l_addT, l_sub, l_div, l_mod, l_mulI, l_mulS, l_mulL, l_eqI, l_eqS, l_neI, l_neS, l_ltI, l_leI, l_gtI, l_geI, l_ltS, l_leS, l_gtS, l_geS, l_truI, l_truB, l_truL, l_truT, l_truN, l_truS, l_lenS, l_lenL, l_lenT, l_intI, l_absI, l_tupL, l_tupT, l_itL, l_itT, l_itS, l_rg1, l_rg2, l_ixL, l_ixT, l_ixS, at_0, at_1, at_2, at_3, set_0, set_1, set_2, set_3, List.length_cons, List.length_nil, Int.cast_ofNat_Int, Int.natCast_one, tgD_n, tgD_t, tgA_nil, tgA_cons, Option.bind_some, l_isSS, l_isST, l_isSL, l_isSI, l_isTT, l_isTS, l_isTL, l_isTI, l_isII, l_isBI, l_isLL, l_ord, hlen]
  refine ⟨by omega, cB_dec (fun z => by omega) fun _ => ?_⟩
  simp only [r_lft, r_var, r_own, r_c, r_bin, r_binO, r_cmp, r_tcmp, r_tcmpO, r_tru, r_tand, r_tor, r_tnot, r_eif, r_nif, r_and, r_or, r_not, r_neg, r_cb, r_ncb, r_bm, r_bm0, r_tup, r_lst, r_anil, r_acons, r_aone, r_vnil, r_vcons, r_vslot, r_sl, r_onone, r_osome, r_chain, r_tchain, r_isi, r_iany, r_rg1, r_rg2, r_yes, r_frz, r_call, r_F, r_sif, r_snil, r_pass, r_break, r_cont, r_no, r_ret, r_retN, r_retNone, r_drop, r_dropN, r_asg, r_asgN, r_aug, r_stup, r_app, r_ext, r_setix, r_for, r_retOwn, wE_nComp, wE_ok, wS_nx, wS_rt, wS_bk, wS_ct, wS_seq, wV_d, wV_l, wO_d, wO_l, wL_some, wL_ite, wL_map, cB_true, cB_false, cB_not, wZ_d, wZ_l, wTk_some, wT_some, tk_nil, tk_v, tk_s, putA, mask, d1, d2, tyD, okS_d, okS_l, lOf, asI, Option.isSome_some, Option.getD_some, Option.map_some, List.getElem?_cons_zero, List.getElem?_cons_succ, List.set_cons_zero, List.set_cons_succ, List.replicate_succ, List.replicate_zero, List.cons_append, List.nil_append, List.not_mem_nil, List.mem_cons, or_false, not_false_eq_true, true_and, decide_true, if_true, if_false, reduceIte, Nat.reduceEqDiff, Nat.reduceAdd, Nat.reduceSub, Nat.reduceLeDiff, Nat.reduceLT, Int.reduceLT, Int.reduceLE, Int.reduceAdd, Int.reduceSub, Int.reduceEq, Int.reduceNeg, Nat.reduceMul, decide_false, Bool.not_true, Bool.not_false, and_true, true_or, or_true, Int.reduceMul, Int.reduceToNat, Nat.reducePow, Int.reducePow, Nat.not_lt_zero, l_addI, l_addS, l_addL, l_addT, l_sub, l_div, l_mod, l_mulI, l_mulS, l_mulL, l_eqI, l_eqS, l_neI, l_neS, l_ltI, l_leI, l_gtI, l_geI, l_ltS, l_leS, l_gtS, l_geS, l_truI, l_truB, l_truL, l_truT, l_truN, l_truS, l_lenS, l_lenL, l_lenT, l_intI, l_absI, l_tupL, l_tupT, l_itL, l_itT, l_itS, l_rg1, l_rg2, l_ixL, l_ixT, l_ixS, at_0, at_1, at_2, at_3, set_0, set_1, set_2, set_3, List.length_cons, List.length_nil, Int.cast_ofNat_Int, Int.natCast_one, tgD_n, tgD_t, tgA_nil, tgA_cons, Option.bind_some, l_isSS, l_isST, l_isSL, l_isSI, l_isTT, l_isTS, l_isTL, l_isTI, l_isII, l_isBI, l_isLL, l_ord]
  have lenR : ∀ rs : List T, rs.length ≤ (flat rs).length := fun rs => by
    induction rs with
    | nil => exact Nat.zero_le _
    | cons a r ih => rw [flat_cons, List.length_append, List.length_cons, List.length_cons]; omega
  have hrl := lenR rows
  refine wS_while (fun m e => ∃ pre rest cur s3 s4, flat rows ++ 10 :: flat ls = pre ++ (flat rest ++ 10 :: flat ls) ∧ m = rest.length ∧ Reads hs cur rest ∧ e = [.d (.str (S (flat rows ++ 10 :: flat ls))), .l (cur.map hd), .d (.int (pre.length : Nat)), s3, s4]) ?_ _ rows.length _ ⟨[], rows, [], .un, .un, rfl, rfl, R, rfl⟩ (by rw [List.length_append] at hl; omega)
  rintro m e ⟨pre, rest, cur, s3, s4, hT, rfl, Rd, rfl⟩
  simp only [r_lft, r_var, r_own, r_c, r_bin, r_binO, r_cmp, r_tcmp, r_tcmpO, r_tru, r_tand, r_tor, r_tnot, r_eif, r_nif, r_and, r_or, r_not, r_neg, r_cb, r_ncb, r_bm, r_bm0, r_tup, r_lst, r_anil, r_acons, r_aone, r_vnil, r_vcons, r_vslot, r_sl, r_onone, r_osome, r_chain, r_tchain, r_isi, r_iany, r_rg1, r_rg2, r_yes, r_frz, r_call, r_F, r_sif, r_snil, r_pass, r_break, r_cont, r_no, r_ret, r_retN, r_retNone, r_drop, r_dropN, r_asg, r_asgN, r_aug, r_stup, r_app, r_ext, r_setix, r_for, r_retOwn, wE_nComp, wE_ok, wS_nx, wS_rt, wS_bk, wS_ct, wS_seq, wV_d, wV_l, wO_d, wO_l, wL_some, wL_ite, wL_map, cB_true, cB_false, cB_not, wZ_d, wZ_l, wTk_some, wT_some, tk_nil, tk_v, tk_s, putA, mask, d1, d2, tyD, okS_d, okS_l, lOf, asI, Option.isSome_some, Option.getD_some, Option.map_some, List.getElem?_cons_zero, List.getElem?_cons_succ, List.set_cons_zero, List.set_cons_succ, List.replicate_succ, List.replicate_zero, List.cons_append, List.nil_append, List.not_mem_nil, List.mem_cons, or_false, not_false_eq_true, true_and, decide_true, if_true, if_false, reduceIte, Nat.reduceEqDiff, Nat.reduceAdd, Nat.reduceSub, Nat.reduceLeDiff, Nat.reduceLT, Int.reduceLT, Int.reduceLE, Int.reduceAdd, Int.reduceSub, Int.reduceEq, Int.reduceNeg, Nat.reduceMul, decide_false, Bool.not_true, Bool.not_false, and_true, true_or, or_true, Int.reduceMul, Int.reduceToNat, Nat.reducePow, Int.reducePow, Nat.not_lt_zero, l_addI, l_addS, l_addL, l_addT, l_sub, l_div, l_mod, l_mulI, l_mulS, l_mulL, l_eqI, l_eqS, l_neI, l_neS, l_ltI, l_leI, l_gtI, l_geI, l_ltS, l_leS, l_gtS, l_geS, l_truI, l_truB, l_truL, l_truT, l_truN, l_truS, l_lenS, l_lenL, l_lenT, l_intI, l_absI, l_tupL, l_tupT, l_itL, l_itT, l_itS, l_rg1, l_rg2, l_ixL, l_ixT, l_ixS, at_0, at_1, at_2, at_3, set_0, set_1, set_2, set_3, List.length_cons, List.length_nil, Int.cast_ofNat_Int, Int.natCast_one, tgD_n, tgD_t, tgA_nil, tgA_cons, Option.bind_some, l_isSS, l_isST, l_isSL, l_isSI, l_isTT, l_isTS, l_isTL, l_isTI, l_isII, l_isBI, l_isLL, l_ord, ch_nl, l_find3, if_true]
  cases Rd with
  | nil =>
    have hfind : Txt.find3 (S (flat rows ++ 10 :: flat ls)) ⟨#[10]⟩ (pre.length : Nat) = ((pre.length + 0 : Nat) : Int) := by rw [hT]; exact find3_at (r := flat []) List.not_mem_nil
    have hcut : cutS (S (flat rows ++ 10 :: flat ls)) (some (pre.length : Nat)) (some ((pre.length + 0 : Nat) : Int)) = S [] := by rw [hT]; exact cut_at
    refine cB_dec (fun z => by rw [hfind] at z; omega) fun _ => ?_
    simp only [r_lft, r_var, r_own, r_c, r_bin, r_binO, r_cmp, r_tcmp, r_tcmpO, r_tru, r_tand, r_tor, r_tnot, r_eif, r_nif, r_and, r_or, r_not, r_neg, r_cb, r_ncb, r_bm, r_bm0, r_tup, r_lst, r_anil, r_acons, r_aone, r_vnil, r_vcons, r_vslot, r_sl, r_onone, r_osome, r_chain, r_tchain, r_isi, r_iany, r_rg1, r_rg2, r_yes, r_frz, r_call, r_F, r_sif, r_snil, r_pass, r_break, r_cont, r_no, r_ret, r_retN, r_retNone, r_drop, r_dropN, r_asg, r_asgN, r_aug, r_stup, r_app, r_ext, r_setix, r_for, r_retOwn, wE_nComp, wE_ok, wS_nx, wS_rt, wS_bk, wS_ct, wS_seq, wV_d, wV_l, wO_d, wO_l, wL_some, wL_ite, wL_map, cB_true, cB_false, cB_not, wZ_d, wZ_l, wTk_some, wT_some, tk_nil, tk_v, tk_s, putA, mask, d1, d2, tyD, okS_d, okS_l, lOf, asI, Option.isSome_some, Option.getD_some, Option.map_some, List.getElem?_cons_zero, List.getElem?_cons_succ, List.set_cons_zero, List.set_cons_succ, List.replicate_succ, List.replicate_zero, List.cons_append, List.nil_append, List.not_mem_nil, List.mem_cons, or_false, not_false_eq_true, true_and, decide_true, if_true, if_false, reduceIte, Nat.reduceEqDiff, Nat.reduceAdd, Nat.reduceSub, Nat.reduceLeDiff, Nat.reduceLT, Int.reduceLT, Int.reduceLE, Int.reduceAdd, Int.reduceSub, Int.reduceEq, Int.reduceNeg, Nat.reduceMul, decide_false, Bool.not_true, Bool.not_false, and_true, true_or, or_true, Int.reduceMul, Int.reduceToNat, Nat.reducePow, Int.reducePow, Nat.not_lt_zero, l_addI, l_addS, l_addL, l_addT, l_sub, l_div, l_mod, l_mulI, l_mulS, l_mulL, l_eqI, l_eqS, l_neI, l_neS, l_ltI, l_leI, l_gtI, l_geI, l_ltS, l_leS, l_gtS, l_geS, l_truI, l_truB, l_truL, l_truT, l_truN, l_truS, l_lenS, l_lenL, l_lenT, l_intI, l_absI, l_tupL, l_tupT, l_itL, l_itT, l_itS, l_rg1, l_rg2, l_ixL, l_ixT, l_ixS, at_0, at_1, at_2, at_3, set_0, set_1, set_2, set_3, List.length_cons, List.length_nil, Int.cast_ofNat_Int, Int.natCast_one, tgD_n, tgD_t, tgA_nil, tgA_cons, Option.bind_some, l_isSS, l_isST, l_isSL, l_isSI, l_isTT, l_isTS, l_isTL, l_isTI, l_isII, l_isBI, l_isLL, l_ord, l_slS, hfind, hcut, hlen, S_nil]
    have hb : m_body_of [.d (.str (S (flat rows ++ 10 :: flat ls))), .d (.int (((pre.length + 0 : Nat) : Int) + 1))] = .ok (.d (.tuple (ls.map ln))) [.un, .un] := by
      have e : flat rows ++ 10 :: flat ls = (pre ++ [10]) ++ flat ls := by rw [hT]; simp [flat]
      rw [e]
      exact bodyof (by simp) h1 h2 (by rw [← e]; exact hl)
    simp only [r_lft, r_var, r_own, r_c, r_bin, r_binO, r_cmp, r_tcmp, r_tcmpO, r_tru, r_tand, r_tor, r_tnot, r_eif, r_nif, r_and, r_or, r_not, r_neg, r_cb, r_ncb, r_bm, r_bm0, r_tup, r_lst, r_anil, r_acons, r_aone, r_vnil, r_vcons, r_vslot, r_sl, r_onone, r_osome, r_chain, r_tchain, r_isi, r_iany, r_rg1, r_rg2, r_yes, r_frz, r_call, r_F, r_sif, r_snil, r_pass, r_break, r_cont, r_no, r_ret, r_retN, r_retNone, r_drop, r_dropN, r_asg, r_asgN, r_aug, r_stup, r_app, r_ext, r_setix, r_for, r_retOwn, wE_nComp, wE_ok, wS_nx, wS_rt, wS_bk, wS_ct, wS_seq, wV_d, wV_l, wO_d, wO_l, wL_some, wL_ite, wL_map, cB_true, cB_false, cB_not, wZ_d, wZ_l, wTk_some, wT_some, tk_nil, tk_v, tk_s, putA, mask, d1, d2, tyD, okS_d, okS_l, lOf, asI, Option.isSome_some, Option.getD_some, Option.map_some, List.getElem?_cons_zero, List.getElem?_cons_succ, List.set_cons_zero, List.set_cons_succ, List.replicate_succ, List.replicate_zero, List.cons_append, List.nil_append, List.not_mem_nil, List.mem_cons, or_false, not_false_eq_true, true_and, decide_true, if_true, if_false, reduceIte, Nat.reduceEqDiff, Nat.reduceAdd, Nat.reduceSub, Nat.reduceLeDiff, Nat.reduceLT, Int.reduceLT, Int.reduceLE, Int.reduceAdd, Int.reduceSub, Int.reduceEq, Int.reduceNeg, Nat.reduceMul, decide_false, Bool.not_true, Bool.not_false, and_true, true_or, or_true, Int.reduceMul, Int.reduceToNat, Nat.reducePow, Int.reducePow, Nat.not_lt_zero, l_addI, l_addS, l_addL, l_addT, l_sub, l_div, l_mod, l_mulI, l_mulS, l_mulL, l_eqI, l_eqS, l_neI, l_neS, l_ltI, l_leI, l_gtI, l_geI, l_ltS, l_leS, l_gtS, l_geS, l_truI, l_truB, l_truL, l_truT, l_truN, l_truS, l_lenS, l_lenL, l_lenT, l_intI, l_absI, l_tupL, l_tupT, l_itL, l_itT, l_itS, l_rg1, l_rg2, l_ixL, l_ixT, l_ixS, at_0, at_1, at_2, at_3, set_0, set_1, set_2, set_3, List.length_cons, List.length_nil, Int.cast_ofNat_Int, Int.natCast_one, tgD_n, tgD_t, tgA_nil, tgA_cons, Option.bind_some, l_isSS, l_isST, l_isSL, l_isSI, l_isTT, l_isTS, l_isTL, l_isTI, l_isII, l_isBI, l_isLL, l_ord, hb]
    exact ⟨by omega, rfl⟩
  | new k1 k2 k3 k4 k5 k6 k7 k8 =>
    rename_i N rs v rows'
    have hT2 : flat rows ++ 10 :: flat ls = pre ++ ((N ++ 58 :: rs) ++ 10 :: (flat rows' ++ 10 :: flat ls)) := by rw [hT, flat_cons]; simp
    have hfind : Txt.find3 (S (flat rows ++ 10 :: flat ls)) ⟨#[10]⟩ (pre.length : Nat) = ((pre.length + (N ++ 58 :: rs).length : Nat) : Int) := by rw [hT2]; exact find3_at (okLine_nl k1)
    have hcut : cutS (S (flat rows ++ 10 :: flat ls)) (some (pre.length : Nat)) (some ((pre.length + (N ++ 58 :: rs).length : Nat) : Int)) = S (N ++ 58 :: rs) := by rw [hT2]; exact cut_at
    have hrow := okLine_len k1
    have hne : decide (S (N ++ 58 :: rs) = S []) = false := decide_eq_false fun z => by have := S_inj.mp z; simp at this
    have hh := headof (at_ := .int (pre.length : Nat)) k2 k4 k5 hrow
    refine cB_dec (fun z => by rw [hfind] at z; omega) fun _ => ?_
    simp only [r_lft, r_var, r_own, r_c, r_bin, r_binO, r_cmp, r_tcmp, r_tcmpO, r_tru, r_tand, r_tor, r_tnot, r_eif, r_nif, r_and, r_or, r_not, r_neg, r_cb, r_ncb, r_bm, r_bm0, r_tup, r_lst, r_anil, r_acons, r_aone, r_vnil, r_vcons, r_vslot, r_sl, r_onone, r_osome, r_chain, r_tchain, r_isi, r_iany, r_rg1, r_rg2, r_yes, r_frz, r_call, r_F, r_sif, r_snil, r_pass, r_break, r_cont, r_no, r_ret, r_retN, r_retNone, r_drop, r_dropN, r_asg, r_asgN, r_aug, r_stup, r_app, r_ext, r_setix, r_for, r_retOwn, wE_nComp, wE_ok, wS_nx, wS_rt, wS_bk, wS_ct, wS_seq, wV_d, wV_l, wO_d, wO_l, wL_some, wL_ite, wL_map, cB_true, cB_false, cB_not, wZ_d, wZ_l, wTk_some, wT_some, tk_nil, tk_v, tk_s, putA, mask, d1, d2, tyD, okS_d, okS_l, lOf, asI, Option.isSome_some, Option.getD_some, Option.map_some, List.getElem?_cons_zero, List.getElem?_cons_succ, List.set_cons_zero, List.set_cons_succ, List.replicate_succ, List.replicate_zero, List.cons_append, List.nil_append, List.not_mem_nil, List.mem_cons, or_false, not_false_eq_true, true_and, decide_true, if_true, if_false, reduceIte, Nat.reduceEqDiff, Nat.reduceAdd, Nat.reduceSub, Nat.reduceLeDiff, Nat.reduceLT, Int.reduceLT, Int.reduceLE, Int.reduceAdd, Int.reduceSub, Int.reduceEq, Int.reduceNeg, Nat.reduceMul, decide_false, Bool.not_true, Bool.not_false, and_true, true_or, or_true, Int.reduceMul, Int.reduceToNat, Nat.reducePow, Int.reducePow, Nat.not_lt_zero, l_addI, l_addS, l_addL, l_addT, l_sub, l_div, l_mod, l_mulI, l_mulS, l_mulL, l_eqI, l_eqS, l_neI, l_neS, l_ltI, l_leI, l_gtI, l_geI, l_ltS, l_leS, l_gtS, l_geS, l_truI, l_truB, l_truL, l_truT, l_truN, l_truS, l_lenS, l_lenL, l_lenT, l_intI, l_absI, l_tupL, l_tupT, l_itL, l_itT, l_itS, l_rg1, l_rg2, l_ixL, l_ixT, l_ixS, at_0, at_1, at_2, at_3, set_0, set_1, set_2, set_3, List.length_cons, List.length_nil, Int.cast_ofNat_Int, Int.natCast_one, tgD_n, tgD_t, tgA_nil, tgA_cons, Option.bind_some, l_isSS, l_isST, l_isSL, l_isSI, l_isTT, l_isTS, l_isTL, l_isTI, l_isII, l_isBI, l_isLL, l_ord, l_slS, hfind, hcut, hlen, S_nil, hne, isline k1, S_len]
    cases N with
    | nil => simp [okName] at k4
    | cons c N =>
      have hc : decide ((⟨#[c]⟩ : Str) = ⟨#[32]⟩) = false := decide_eq_false fun z => k3 c (by simp) (by have := congrArg (fun x : Str => x.cps.toList) z; simpa using this)
      simp only [List.cons_append] at hh hrow ⊢
      simp only [r_lft, r_var, r_own, r_c, r_bin, r_binO, r_cmp, r_tcmp, r_tcmpO, r_tru, r_tand, r_tor, r_tnot, r_eif, r_nif, r_and, r_or, r_not, r_neg, r_cb, r_ncb, r_bm, r_bm0, r_tup, r_lst, r_anil, r_acons, r_aone, r_vnil, r_vcons, r_vslot, r_sl, r_onone, r_osome, r_chain, r_tchain, r_isi, r_iany, r_rg1, r_rg2, r_yes, r_frz, r_call, r_F, r_sif, r_snil, r_pass, r_break, r_cont, r_no, r_ret, r_retN, r_retNone, r_drop, r_dropN, r_asg, r_asgN, r_aug, r_stup, r_app, r_ext, r_setix, r_for, r_retOwn, wE_nComp, wE_ok, wS_nx, wS_rt, wS_bk, wS_ct, wS_seq, wV_d, wV_l, wO_d, wO_l, wL_some, wL_ite, wL_map, cB_true, cB_false, cB_not, wZ_d, wZ_l, wTk_some, wT_some, tk_nil, tk_v, tk_s, putA, mask, d1, d2, tyD, okS_d, okS_l, lOf, asI, Option.isSome_some, Option.getD_some, Option.map_some, List.getElem?_cons_zero, List.getElem?_cons_succ, List.set_cons_zero, List.set_cons_succ, List.replicate_succ, List.replicate_zero, List.cons_append, List.nil_append, List.not_mem_nil, List.mem_cons, or_false, not_false_eq_true, true_and, decide_true, if_true, if_false, reduceIte, Nat.reduceEqDiff, Nat.reduceAdd, Nat.reduceSub, Nat.reduceLeDiff, Nat.reduceLT, Int.reduceLT, Int.reduceLE, Int.reduceAdd, Int.reduceSub, Int.reduceEq, Int.reduceNeg, Nat.reduceMul, decide_false, Bool.not_true, Bool.not_false, and_true, true_or, or_true, Int.reduceMul, Int.reduceToNat, Nat.reducePow, Int.reducePow, Nat.not_lt_zero, l_addI, l_addS, l_addL, l_addT, l_sub, l_div, l_mod, l_mulI, l_mulS, l_mulL, l_eqI, l_eqS, l_neI, l_neS, l_ltI, l_leI, l_gtI, l_geI, l_ltS, l_leS, l_gtS, l_geS, l_truI, l_truB, l_truL, l_truT, l_truN, l_truS, l_lenS, l_lenL, l_lenT, l_intI, l_absI, l_tupL, l_tupT, l_itL, l_itT, l_itS, l_rg1, l_rg2, l_ixL, l_ixT, l_ixS, at_0, at_1, at_2, at_3, set_0, set_1, set_2, set_3, List.length_cons, List.length_nil, Int.cast_ofNat_Int, Int.natCast_one, tgD_n, tgD_t, tgA_nil, tgA_cons, Option.bind_some, l_isSS, l_isST, l_isSL, l_isSI, l_isTT, l_isTS, l_isTL, l_isTI, l_isII, l_isBI, l_isLL, l_ord, ch_sp, hc, hh, l_app, List.length_map, at_last, isvalue k6, List.length_append]
      have hl2 := hl
      rw [List.length_append, List.length_cons] at hl2
      rw [List.length_cons, List.length_append, List.length_cons] at hrow
      refine ⟨by omega, by omega, by omega, cB_dec (fun z => by omega) fun _ => ?_⟩
      simp only [r_lft, r_var, r_own, r_c, r_bin, r_binO, r_cmp, r_tcmp, r_tcmpO, r_tru, r_tand, r_tor, r_tnot, r_eif, r_nif, r_and, r_or, r_not, r_neg, r_cb, r_ncb, r_bm, r_bm0, r_tup, r_lst, r_anil, r_acons, r_aone, r_vnil, r_vcons, r_vslot, r_sl, r_onone, r_osome, r_chain, r_tchain, r_isi, r_iany, r_rg1, r_rg2, r_yes, r_frz, r_call, r_F, r_sif, r_snil, r_pass, r_break, r_cont, r_no, r_ret, r_retN, r_retNone, r_drop, r_dropN, r_asg, r_asgN, r_aug, r_stup, r_app, r_ext, r_setix, r_for, r_retOwn, wE_nComp, wE_ok, wS_nx, wS_rt, wS_bk, wS_ct, wS_seq, wV_d, wV_l, wO_d, wO_l, wL_some, wL_ite, wL_map, cB_true, cB_false, cB_not, wZ_d, wZ_l, wTk_some, wT_some, tk_nil, tk_v, tk_s, putA, mask, d1, d2, tyD, okS_d, okS_l, lOf, asI, Option.isSome_some, Option.getD_some, Option.map_some, List.getElem?_cons_zero, List.getElem?_cons_succ, List.set_cons_zero, List.set_cons_succ, List.replicate_succ, List.replicate_zero, List.cons_append, List.nil_append, List.not_mem_nil, List.mem_cons, or_false, not_false_eq_true, true_and, decide_true, if_true, if_false, reduceIte, Nat.reduceEqDiff, Nat.reduceAdd, Nat.reduceSub, Nat.reduceLeDiff, Nat.reduceLT, Int.reduceLT, Int.reduceLE, Int.reduceAdd, Int.reduceSub, Int.reduceEq, Int.reduceNeg, Nat.reduceMul, decide_false, Bool.not_true, Bool.not_false, and_true, true_or, or_true, Int.reduceMul, Int.reduceToNat, Nat.reducePow, Int.reducePow, Nat.not_lt_zero, l_addI, l_addS, l_addL, l_addT, l_sub, l_div, l_mod, l_mulI, l_mulS, l_mulL, l_eqI, l_eqS, l_neI, l_neS, l_ltI, l_leI, l_gtI, l_geI, l_ltS, l_leS, l_gtS, l_geS, l_truI, l_truB, l_truL, l_truT, l_truN, l_truS, l_lenS, l_lenL, l_lenT, l_intI, l_absI, l_tupL, l_tupT, l_itL, l_itT, l_itS, l_rg1, l_rg2, l_ixL, l_ixT, l_ixS, at_0, at_1, at_2, at_3, set_0, set_1, set_2, set_3, List.length_cons, List.length_nil, Int.cast_ofNat_Int, Int.natCast_one, tgD_n, tgD_t, tgA_nil, tgA_cons, Option.bind_some, l_isSS, l_isST, l_isSL, l_isSI, l_isTT, l_isTS, l_isTL, l_isTI, l_isII, l_isBI, l_isLL, l_ord]
      refine ⟨_, by omega, pre ++ (c :: (N ++ 58 :: rs)) ++ [10], rows', cur ++ [((c :: N).map low, v)], .d (.int ((pre.length + (N.length + (rs.length + 1) + 1) : Nat) : Int)), .d (.str (S (c :: (N ++ 58 :: rs)))), by rw [hT2]; simp, rfl, k8, ?_⟩
      have e1 : ((pre.length + (N.length + (rs.length + 1) + 1) : Nat) : Int) + 1 = ((pre ++ (c :: (N ++ 58 :: rs)) ++ [10]).length : Nat) := by
        simp only [List.length_append, List.length_cons, List.length_nil]
        omega
      rw [e1]
      simp only [List.map_append, List.map_cons, List.map_nil, hd]
  | more k1 k2 k3 k9 k4 k5 k6 k7 k8 =>
    rename_i hs' n v row w v2 rows'
    have hT2 : flat rows ++ 10 :: flat ls = pre ++ ((32 :: row) ++ 10 :: (flat rows' ++ 10 :: flat ls)) := by rw [hT, flat_cons]; simp
    have hfind : Txt.find3 (S (flat rows ++ 10 :: flat ls)) ⟨#[10]⟩ (pre.length : Nat) = ((pre.length + (row.length + 1) : Nat) : Int) := by rw [hT2]; exact find3_at (okLine_nl k1)
    have hcut : cutS (S (flat rows ++ 10 :: flat ls)) (some (pre.length : Nat)) (some ((pre.length + (row.length + 1) : Nat) : Int)) = S (32 :: row) := by rw [hT2]; exact cut_at
    have hrow := okLine_len k1
    have hne : decide (S (32 :: row) = S []) = false := decide_eq_false fun z => by have := S_inj.mp z; simp at this
    have hw : decide (S w = S []) = false := decide_eq_false fun z => k3 (S_inj.mp z)
    refine cB_dec (fun z => by rw [hfind] at z; omega) fun _ => ?_
    simp only [r_lft, r_var, r_own, r_c, r_bin, r_binO, r_cmp, r_tcmp, r_tcmpO, r_tru, r_tand, r_tor, r_tnot, r_eif, r_nif, r_and, r_or, r_not, r_neg, r_cb, r_ncb, r_bm, r_bm0, r_tup, r_lst, r_anil, r_acons, r_aone, r_vnil, r_vcons, r_vslot, r_sl, r_onone, r_osome, r_chain, r_tchain, r_isi, r_iany, r_rg1, r_rg2, r_yes, r_frz, r_call, r_F, r_sif, r_snil, r_pass, r_break, r_cont, r_no, r_ret, r_retN, r_retNone, r_drop, r_dropN, r_asg, r_asgN, r_aug, r_stup, r_app, r_ext, r_setix, r_for, r_retOwn, wE_nComp, wE_ok, wS_nx, wS_rt, wS_bk, wS_ct, wS_seq, wV_d, wV_l, wO_d, wO_l, wL_some, wL_ite, wL_map, cB_true, cB_false, cB_not, wZ_d, wZ_l, wTk_some, wT_some, tk_nil, tk_v, tk_s, putA, mask, d1, d2, tyD, okS_d, okS_l, lOf, asI, Option.isSome_some, Option.getD_some, Option.map_some, List.getElem?_cons_zero, List.getElem?_cons_succ, List.set_cons_zero, List.set_cons_succ, List.replicate_succ, List.replicate_zero, List.cons_append, List.nil_append, List.not_mem_nil, List.mem_cons, or_false, not_false_eq_true, true_and, decide_true, if_true, if_false, reduceIte, Nat.reduceEqDiff, Nat.reduceAdd, Nat.reduceSub, Nat.reduceLeDiff, Nat.reduceLT, Int.reduceLT, Int.reduceLE, Int.reduceAdd, Int.reduceSub, Int.reduceEq, Int.reduceNeg, Nat.reduceMul, decide_false, Bool.not_true, Bool.not_false, and_true, true_or, or_true, Int.reduceMul, Int.reduceToNat, Nat.reducePow, Int.reducePow, Nat.not_lt_zero, l_addI, l_addS, l_addL, l_addT, l_sub, l_div, l_mod, l_mulI, l_mulS, l_mulL, l_eqI, l_eqS, l_neI, l_neS, l_ltI, l_leI, l_gtI, l_geI, l_ltS, l_leS, l_gtS, l_geS, l_truI, l_truB, l_truL, l_truT, l_truN, l_truS, l_lenS, l_lenL, l_lenT, l_intI, l_absI, l_tupL, l_tupT, l_itL, l_itT, l_itS, l_rg1, l_rg2, l_ixL, l_ixT, l_ixS, at_0, at_1, at_2, at_3, set_0, set_1, set_2, set_3, List.length_cons, List.length_nil, Int.cast_ofNat_Int, Int.natCast_one, tgD_n, tgD_t, tgA_nil, tgA_cons, Option.bind_some, l_isSS, l_isST, l_isSL, l_isSI, l_isTT, l_isTS, l_isTL, l_isTI, l_isII, l_isBI, l_isLL, l_ord, l_slS, hfind, hcut, hlen, S_nil, hne, isline k1, S_len, ch_sp]
    have hl2 := hl
    rw [List.length_append, List.length_cons] at hl2
    rw [List.length_cons] at hrow
    have hv := val_len k5
    have hem : ((hs' ++ [(n, v)]).map hd).isEmpty = false := by simp
    have e32 : (⟨#[32]⟩ : Str) = S [32] := rfl
    rw [ch_sp] at k2 k4
    simp only [r_lft, r_var, r_own, r_c, r_bin, r_binO, r_cmp, r_tcmp, r_tcmpO, r_tru, r_tand, r_tor, r_tnot, r_eif, r_nif, r_and, r_or, r_not, r_neg, r_cb, r_ncb, r_bm, r_bm0, r_tup, r_lst, r_anil, r_acons, r_aone, r_vnil, r_vcons, r_vslot, r_sl, r_onone, r_osome, r_chain, r_tchain, r_isi, r_iany, r_rg1, r_rg2, r_yes, r_frz, r_call, r_F, r_sif, r_snil, r_pass, r_break, r_cont, r_no, r_ret, r_retN, r_retNone, r_drop, r_dropN, r_asg, r_asgN, r_aug, r_stup, r_app, r_ext, r_setix, r_for, r_retOwn, wE_nComp, wE_ok, wS_nx, wS_rt, wS_bk, wS_ct, wS_seq, wV_d, wV_l, wO_d, wO_l, wL_some, wL_ite, wL_map, cB_true, cB_false, cB_not, wZ_d, wZ_l, wTk_some, wT_some, tk_nil, tk_v, tk_s, putA, mask, d1, d2, tyD, okS_d, okS_l, lOf, asI, Option.isSome_some, Option.getD_some, Option.map_some, List.getElem?_cons_zero, List.getElem?_cons_succ, List.set_cons_zero, List.set_cons_succ, List.replicate_succ, List.replicate_zero, List.cons_append, List.nil_append, List.not_mem_nil, List.mem_cons, or_false, not_false_eq_true, true_and, decide_true, if_true, if_false, reduceIte, Nat.reduceEqDiff, Nat.reduceAdd, Nat.reduceSub, Nat.reduceLeDiff, Nat.reduceLT, Int.reduceLT, Int.reduceLE, Int.reduceAdd, Int.reduceSub, Int.reduceEq, Int.reduceNeg, Nat.reduceMul, decide_false, Bool.not_true, Bool.not_false, and_true, true_or, or_true, Int.reduceMul, Int.reduceToNat, Nat.reducePow, Int.reducePow, Nat.not_lt_zero, l_addI, l_addS, l_addL, l_addT, l_sub, l_div, l_mod, l_mulI, l_mulS, l_mulL, l_eqI, l_eqS, l_neI, l_neS, l_ltI, l_leI, l_gtI, l_geI, l_ltS, l_leS, l_gtS, l_geS, l_truI, l_truB, l_truL, l_truT, l_truN, l_truS, l_lenS, l_lenL, l_lenT, l_intI, l_absI, l_tupL, l_tupT, l_itL, l_itT, l_itS, l_rg1, l_rg2, l_ixL, l_ixT, l_ixS, at_0, at_1, at_2, at_3, set_0, set_1, set_2, set_3, List.length_cons, List.length_nil, Int.cast_ofNat_Int, Int.natCast_one, tgD_n, tgD_t, tgA_nil, tgA_cons, Option.bind_some, l_isSS, l_isST, l_isSL, l_isSI, l_isTT, l_isTS, l_isTL, l_isTI, l_isII, l_isBI, l_isLL, l_ord, hem, l_stripC, k2, hw, S_len, S_nil, ch_sp]
    simp only [List.map_append, List.map_cons, List.map_nil]
    simp only [hd, r_lft, r_var, r_own, r_c, r_bin, r_binO, r_cmp, r_tcmp, r_tcmpO, r_tru, r_tand, r_tor, r_tnot, r_eif, r_nif, r_and, r_or, r_not, r_neg, r_cb, r_ncb, r_bm, r_bm0, r_tup, r_lst, r_anil, r_acons, r_aone, r_vnil, r_vcons, r_vslot, r_sl, r_onone, r_osome, r_chain, r_tchain, r_isi, r_iany, r_rg1, r_rg2, r_yes, r_frz, r_call, r_F, r_sif, r_snil, r_pass, r_break, r_cont, r_no, r_ret, r_retN, r_retNone, r_drop, r_dropN, r_asg, r_asgN, r_aug, r_stup, r_app, r_ext, r_setix, r_for, r_retOwn, wE_nComp, wE_ok, wS_nx, wS_rt, wS_bk, wS_ct, wS_seq, wV_d, wV_l, wO_d, wO_l, wL_some, wL_ite, wL_map, cB_true, cB_false, cB_not, wZ_d, wZ_l, wTk_some, wT_some, tk_nil, tk_v, tk_s, putA, mask, d1, d2, tyD, okS_d, okS_l, lOf, asI, Option.isSome_some, Option.getD_some, Option.map_some, List.getElem?_cons_zero, List.getElem?_cons_succ, List.set_cons_zero, List.set_cons_succ, List.replicate_succ, List.replicate_zero, List.cons_append, List.nil_append, List.not_mem_nil, List.mem_cons, or_false, not_false_eq_true, true_and, decide_true, if_true, if_false, reduceIte, Nat.reduceEqDiff, Nat.reduceAdd, Nat.reduceSub, Nat.reduceLeDiff, Nat.reduceLT, Int.reduceLT, Int.reduceLE, Int.reduceAdd, Int.reduceSub, Int.reduceEq, Int.reduceNeg, Nat.reduceMul, decide_false, Bool.not_true, Bool.not_false, and_true, true_or, or_true, Int.reduceMul, Int.reduceToNat, Nat.reducePow, Int.reducePow, Nat.not_lt_zero, l_addI, l_addS, l_addL, l_addT, l_sub, l_div, l_mod, l_mulI, l_mulS, l_mulL, l_eqI, l_eqS, l_neI, l_neS, l_ltI, l_leI, l_gtI, l_geI, l_ltS, l_leS, l_gtS, l_geS, l_truI, l_truB, l_truL, l_truT, l_truN, l_truS, l_lenS, l_lenL, l_lenT, l_intI, l_absI, l_tupL, l_tupT, l_itL, l_itT, l_itS, l_rg1, l_rg2, l_ixL, l_ixT, l_ixS, at_0, at_1, at_2, at_3, set_0, set_1, set_2, set_3, List.length_cons, List.length_nil, Int.cast_ofNat_Int, Int.natCast_one, tgD_n, tgD_t, tgA_nil, tgA_cons, Option.bind_some, l_isSS, l_isST, l_isSL, l_isSI, l_isTT, l_isTS, l_isTL, l_isTI, l_isII, l_isBI, l_isLL, l_ord, at_last, set_last, l_stripC, k2, S_len, e32, S_app, k4, isvalue k6, List.length_append, List.length_map]
    refine ⟨by omega, by omega, by omega, by omega, by omega, by omega, by omega, cB_dec (fun z => by omega) fun _ => ?_⟩
    simp only [r_lft, r_var, r_own, r_c, r_bin, r_binO, r_cmp, r_tcmp, r_tcmpO, r_tru, r_tand, r_tor, r_tnot, r_eif, r_nif, r_and, r_or, r_not, r_neg, r_cb, r_ncb, r_bm, r_bm0, r_tup, r_lst, r_anil, r_acons, r_aone, r_vnil, r_vcons, r_vslot, r_sl, r_onone, r_osome, r_chain, r_tchain, r_isi, r_iany, r_rg1, r_rg2, r_yes, r_frz, r_call, r_F, r_sif, r_snil, r_pass, r_break, r_cont, r_no, r_ret, r_retN, r_retNone, r_drop, r_dropN, r_asg, r_asgN, r_aug, r_stup, r_app, r_ext, r_setix, r_for, r_retOwn, wE_nComp, wE_ok, wS_nx, wS_rt, wS_bk, wS_ct, wS_seq, wV_d, wV_l, wO_d, wO_l, wL_some, wL_ite, wL_map, cB_true, cB_false, cB_not, wZ_d, wZ_l, wTk_some, wT_some, tk_nil, tk_v, tk_s, putA, mask, d1, d2, tyD, okS_d, okS_l, lOf, asI, Option.isSome_some, Option.getD_some, Option.map_some, List.getElem?_cons_zero, List.getElem?_cons_succ, List.set_cons_zero, List.set_cons_succ, List.replicate_succ, List.replicate_zero, List.cons_append, List.nil_append, List.not_mem_nil, List.mem_cons, or_false, not_false_eq_true, true_and, decide_true, if_true, if_false, reduceIte, Nat.reduceEqDiff, Nat.reduceAdd, Nat.reduceSub, Nat.reduceLeDiff, Nat.reduceLT, Int.reduceLT, Int.reduceLE, Int.reduceAdd, Int.reduceSub, Int.reduceEq, Int.reduceNeg, Nat.reduceMul, decide_false, Bool.not_true, Bool.not_false, and_true, true_or, or_true, Int.reduceMul, Int.reduceToNat, Nat.reducePow, Int.reducePow, Nat.not_lt_zero, l_addI, l_addS, l_addL, l_addT, l_sub, l_div, l_mod, l_mulI, l_mulS, l_mulL, l_eqI, l_eqS, l_neI, l_neS, l_ltI, l_leI, l_gtI, l_geI, l_ltS, l_leS, l_gtS, l_geS, l_truI, l_truB, l_truL, l_truT, l_truN, l_truS, l_lenS, l_lenL, l_lenT, l_intI, l_absI, l_tupL, l_tupT, l_itL, l_itT, l_itS, l_rg1, l_rg2, l_ixL, l_ixT, l_ixS, at_0, at_1, at_2, at_3, set_0, set_1, set_2, set_3, List.length_cons, List.length_nil, Int.cast_ofNat_Int, Int.natCast_one, tgD_n, tgD_t, tgA_nil, tgA_cons, Option.bind_some, l_isSS, l_isST, l_isSL, l_isSI, l_isTT, l_isTS, l_isTL, l_isTI, l_isII, l_isBI, l_isLL, l_ord]
    refine ⟨_, by omega, pre ++ (32 :: row) ++ [10], rows', hs' ++ [(n, v2)], .d (.int ((pre.length + (row.length + 1) : Nat) : Int)), .d (.str (S (32 :: row))), by rw [hT2]; simp, rfl, k8, ?_⟩
    have e1 : ((pre.length + (row.length + 1) : Nat) : Int) + 1 = ((pre ++ (32 :: row) ++ [10]).length : Nat) := by
      simp only [List.length_append, List.length_cons, List.length_nil]
      omega
    rw [e1]
    simp only [List.map_append, List.map_cons, List.map_nil, hd]
end K01

/-! law_k01_letters: the draws, the law. -/
namespace K01
open PySem PySem.Spec PyProof.Rows L2 BV
theorem draw_eq : m__law_draw = mDraw := rfl
theorem pick_eq : m__law_pick = mPick := rfl
theorem same_eq : m__law_same = mSame := rfl
def tx (s : Str) : T := s.cps.toList
def NAMES : List T := [tx "to", tx "from", tx "subject", tx "a", tx "x-y", tx "abcdefghijklmnopqrst"]
def SVALS : List T := [tx "", tx "a", tx "a b", tx "x:y", tx "~", tx "A  b", tx "b c d"]
def VALUES : List T := SVALS ++ [List.replicate 200 118]
def LINES : List T := [tx "", tx "a", tx " b ", tx "To: x", tx ".", tx "  ", List.replicate 200 119, tx "From me"]
structure From (hs : List (T × T)) (ls : List T) : Prop where
  h1 : hs.length ≤ 40
  h2 : ∀ p ∈ hs, p.1 ∈ NAMES ∧ p.2 ∈ VALUES
  h3 : ls.length ≤ 40
  h4 : ∀ l ∈ ls, l ∈ LINES
theorem names_ok : NAMES.all okName = true := by decide +kernel
theorem values_ok : VALUES.all okVal = true := by decide +kernel
theorem lines_ok : LINES.all okLine = true := by decide +kernel
theorem From.good {hs : List (T × T)} {ls : List T} (f : From hs ls) : Good hs ls := ⟨f.h1, fun p hp => ⟨List.all_eq_true.mp names_ok _ (f.h2 p hp).1, List.all_eq_true.mp values_ok _ (f.h2 p hp).2⟩, Nat.le_trans f.h3 (by decide), fun l hl => List.all_eq_true.mp lines_ok _ (f.h4 l hl)⟩
theorem n_eq : [PyData.str "to", .str "from", .str "subject", .str "a", .str "x-y", .str "abcdefghijklmnopqrst"] = NAMES.map ln := rfl
theorem v_eq : [PyData.str "", .str "a", .str "a b", .str "x:y", .str "~", .str "A  b", .str "b c d", .str (repS "v" 200)] = VALUES.map ln := by kernel_rfl
theorem l_eq : [PyData.str "", .str "a", .str " b ", .str "To: x", .str ".", .str "  ", .str (repS "w" 200), .str "From me"] = LINES.map ln := by kernel_rfl
theorem letter_ok {s : Sl} {most : Int} (hs : Stt s) (h0 : 0 ≤ most) (h1 : most ≤ 40) {Q : Sl → List Sl → Prop} (k : ∀ hs ls s', From hs ls → Stt s' → Q (.d (LD hs ls)) [s', .un]) : wF (m__law_letter [s, .d (.int most)]) Q := by
  refine wF_run rfl ?_
  have e1 : (Str.ofString "v").length = 1 := rfl
  have e2 : (Str.ofString "w").length = 1 := rfl
  simp only [b__law_letter, r_lft, r_var, r_own, r_c, r_bin, r_binO, r_cmp, r_tcmp, r_tcmpO, r_tru, r_tand, r_tor, r_tnot, r_eif, r_nif, r_and, r_or, r_not, r_neg, r_cb, r_ncb, r_bm, r_bm0, r_tup, r_lst, r_anil, r_acons, r_aone, r_vnil, r_vcons, r_vslot, r_sl, r_onone, r_osome, r_chain, r_tchain, r_isi, r_iany, r_rg1, r_rg2, r_yes, r_frz, r_call, r_F, r_sif, r_snil, r_pass, r_break, r_cont, r_no, r_ret, r_retN, r_retNone, r_drop, r_dropN, r_asg, r_asgN, r_aug, r_stup, r_app, r_ext, r_setix, r_for, r_retOwn, wE_nComp, wE_ok, wS_nx, wS_rt, wS_bk, wS_ct, wS_seq, wV_d, wV_l, wO_d, wO_l, wL_some, wL_ite, wL_map, cB_true, cB_false, cB_not, wZ_d, wZ_l, wTk_some, wT_some, wipeE, tk_nil, tk_v, tk_s, putA, mask, d1, d2, tyD, okS_d, okS_l, lOf, asI, Option.isSome_some, Option.getD_some, Option.map_some, List.getElem?_cons_zero, List.getElem?_cons_succ, List.set_cons_zero, List.set_cons_succ, List.replicate_succ, List.replicate_zero, List.cons_append, List.nil_append, List.not_mem_nil, List.mem_cons, or_false, not_false_eq_true, true_and, decide_true, if_true, if_false, reduceIte, Nat.reduceEqDiff, Nat.reduceAdd, Nat.reduceSub, Nat.reduceLeDiff, Nat.reduceLT, Int.reduceLT, Int.reduceLE, Int.reduceAdd, Int.reduceSub, Int.reduceEq, Int.reduceNeg, Nat.reduceMul, decide_false, Bool.not_true, Bool.not_false, and_true, true_or, or_true, Int.reduceMul, Int.reduceToNat, Nat.reducePow, Int.reducePow, Nat.not_lt_zero, l_addI, l_addS, l_addL, l_addT, l_sub, l_div, l_mod, l_mulI, l_mulS, l_mulL, l_eqI, l_eqS, l_neI, l_neS, l_ltI, l_leI, l_gtI, l_geI, l_ltS, l_leS, l_gtS, l_geS, l_truI, l_truB, l_truL, l_truT, l_truN, l_truS, l_lenS, l_lenL, l_lenT, l_intI, l_absI, l_tupL, l_tupT, l_itL, l_itT, l_itS, l_rg1, l_rg2, l_ixL, l_ixT, l_ixS, at_0, at_1, at_2, at_3, set_0, set_1, set_2, set_3, List.length_cons, List.length_nil, Int.cast_ofNat_Int, Int.natCast_one, tgD_n, tgD_t, tgA_nil, tgA_cons, Option.bind_some, l_isSS, l_isST, l_isSL, l_isSI, l_isTT, l_isTS, l_isTL, l_isTI, l_isII, l_isBI, l_isLL, l_ord, draw_eq, pick_eq, okS_stt hs, e1]
  rw [n_eq, v_eq]
  have hR : ∀ v : Int, v < 41 → (rng 0 v).length ≤ 40 := fun v h => by unfold rng; rw [List.length_map, List.length_range]; omega
  refine draw_ok hs (by omega) (by omega) fun v s1 v0 v1 hs1 => ?_
  simp only [r_lft, r_var, r_own, r_c, r_bin, r_binO, r_cmp, r_tcmp, r_tcmpO, r_tru, r_tand, r_tor, r_tnot, r_eif, r_nif, r_and, r_or, r_not, r_neg, r_cb, r_ncb, r_bm, r_bm0, r_tup, r_lst, r_anil, r_acons, r_aone, r_vnil, r_vcons, r_vslot, r_sl, r_onone, r_osome, r_chain, r_tchain, r_isi, r_iany, r_rg1, r_rg2, r_yes, r_frz, r_call, r_F, r_sif, r_snil, r_pass, r_break, r_cont, r_no, r_ret, r_retN, r_retNone, r_drop, r_dropN, r_asg, r_asgN, r_aug, r_stup, r_app, r_ext, r_setix, r_for, r_retOwn, wE_nComp, wE_ok, wS_nx, wS_rt, wS_bk, wS_ct, wS_seq, wV_d, wV_l, wO_d, wO_l, wL_some, wL_ite, wL_map, cB_true, cB_false, cB_not, wZ_d, wZ_l, wTk_some, wT_some, wipeE, tk_nil, tk_v, tk_s, putA, mask, d1, d2, tyD, okS_d, okS_l, lOf, asI, Option.isSome_some, Option.getD_some, Option.map_some, List.getElem?_cons_zero, List.getElem?_cons_succ, List.set_cons_zero, List.set_cons_succ, List.replicate_succ, List.replicate_zero, List.cons_append, List.nil_append, List.not_mem_nil, List.mem_cons, or_false, not_false_eq_true, true_and, decide_true, if_true, if_false, reduceIte, Nat.reduceEqDiff, Nat.reduceAdd, Nat.reduceSub, Nat.reduceLeDiff, Nat.reduceLT, Int.reduceLT, Int.reduceLE, Int.reduceAdd, Int.reduceSub, Int.reduceEq, Int.reduceNeg, Nat.reduceMul, decide_false, Bool.not_true, Bool.not_false, and_true, true_or, or_true, Int.reduceMul, Int.reduceToNat, Nat.reducePow, Int.reducePow, Nat.not_lt_zero, l_addI, l_addS, l_addL, l_addT, l_sub, l_div, l_mod, l_mulI, l_mulS, l_mulL, l_eqI, l_eqS, l_neI, l_neS, l_ltI, l_leI, l_gtI, l_geI, l_ltS, l_leS, l_gtS, l_geS, l_truI, l_truB, l_truL, l_truT, l_truN, l_truS, l_lenS, l_lenL, l_lenT, l_intI, l_absI, l_tupL, l_tupT, l_itL, l_itT, l_itS, l_rg1, l_rg2, l_ixL, l_ixT, l_ixS, at_0, at_1, at_2, at_3, set_0, set_1, set_2, set_3, List.length_cons, List.length_nil, Int.cast_ofNat_Int, Int.natCast_one, tgD_n, tgD_t, tgA_nil, tgA_cons, Option.bind_some, l_isSS, l_isST, l_isSL, l_isSI, l_isTT, l_isTS, l_isTL, l_isTI, l_isII, l_isBI, l_isLL, l_ord]
  refine ⟨by omega, ?_⟩
  refine wE_compL (fun xs acc e => ∃ (hs : List (T × T)) (s q : Sl), acc = hs.map hd ∧ hs.length + xs.length ≤ 40 ∧ (∀ p ∈ hs, p.1 ∈ NAMES ∧ p.2 ∈ VALUES) ∧ Stt s ∧ e = [s, .d (.int most), .d (.list (NAMES.map ln)), .d (.list (VALUES.map ln)), .un, q, .un]) ?_ ?_ ?_ _ _ _ ⟨[], s1, .un, rfl, by have := hR v (by omega); simpa using this, fun _ z => (nomatch z), hs1, rfl⟩
  · rintro x r acc e ⟨hs, s2, q, rfl, g1, g2, g3, rfl⟩
    refine ⟨_, rfl, ?_⟩
    simp only [r_lft, r_var, r_own, r_c, r_bin, r_binO, r_cmp, r_tcmp, r_tcmpO, r_tru, r_tand, r_tor, r_tnot, r_eif, r_nif, r_and, r_or, r_not, r_neg, r_cb, r_ncb, r_bm, r_bm0, r_tup, r_lst, r_anil, r_acons, r_aone, r_vnil, r_vcons, r_vslot, r_sl, r_onone, r_osome, r_chain, r_tchain, r_isi, r_iany, r_rg1, r_rg2, r_yes, r_frz, r_call, r_F, r_sif, r_snil, r_pass, r_break, r_cont, r_no, r_ret, r_retN, r_retNone, r_drop, r_dropN, r_asg, r_asgN, r_aug, r_stup, r_app, r_ext, r_setix, r_for, r_retOwn, wE_nComp, wE_ok, wS_nx, wS_rt, wS_bk, wS_ct, wS_seq, wV_d, wV_l, wO_d, wO_l, wL_some, wL_ite, wL_map, cB_true, cB_false, cB_not, wZ_d, wZ_l, wTk_some, wT_some, wipeE, tk_nil, tk_v, tk_s, putA, mask, d1, d2, tyD, okS_d, okS_l, lOf, asI, Option.isSome_some, Option.getD_some, Option.map_some, List.getElem?_cons_zero, List.getElem?_cons_succ, List.set_cons_zero, List.set_cons_succ, List.replicate_succ, List.replicate_zero, List.cons_append, List.nil_append, List.not_mem_nil, List.mem_cons, or_false, not_false_eq_true, true_and, decide_true, if_true, if_false, reduceIte, Nat.reduceEqDiff, Nat.reduceAdd, Nat.reduceSub, Nat.reduceLeDiff, Nat.reduceLT, Int.reduceLT, Int.reduceLE, Int.reduceAdd, Int.reduceSub, Int.reduceEq, Int.reduceNeg, Nat.reduceMul, decide_false, Bool.not_true, Bool.not_false, and_true, true_or, or_true, Int.reduceMul, Int.reduceToNat, Nat.reducePow, Int.reducePow, Nat.not_lt_zero, l_addI, l_addS, l_addL, l_addT, l_sub, l_div, l_mod, l_mulI, l_mulS, l_mulL, l_eqI, l_eqS, l_neI, l_neS, l_ltI, l_leI, l_gtI, l_geI, l_ltS, l_leS, l_gtS, l_geS, l_truI, l_truB, l_truL, l_truT, l_truN, l_truS, l_lenS, l_lenL, l_lenT, l_intI, l_absI, l_tupL, l_tupT, l_itL, l_itT, l_itS, l_rg1, l_rg2, l_ixL, l_ixT, l_ixS, at_0, at_1, at_2, at_3, set_0, set_1, set_2, set_3, List.length_cons, List.length_nil, Int.cast_ofNat_Int, Int.natCast_one, tgD_n, tgD_t, tgA_nil, tgA_cons, Option.bind_some, l_isSS, l_isST, l_isSL, l_isSI, l_isTT, l_isTS, l_isTL, l_isTI, l_isII, l_isBI, l_isLL, l_ord, okS_stt g3]
    refine pick_ok (xs := NAMES.map ln) g3 (by simp [NAMES]) (by rw [List.length_map]; decide) fun v1 s3 hv1 g4 => ?_
    obtain ⟨n, hn, rfl⟩ := List.mem_map.mp hv1
    simp only [r_lft, r_var, r_own, r_c, r_bin, r_binO, r_cmp, r_tcmp, r_tcmpO, r_tru, r_tand, r_tor, r_tnot, r_eif, r_nif, r_and, r_or, r_not, r_neg, r_cb, r_ncb, r_bm, r_bm0, r_tup, r_lst, r_anil, r_acons, r_aone, r_vnil, r_vcons, r_vslot, r_sl, r_onone, r_osome, r_chain, r_tchain, r_isi, r_iany, r_rg1, r_rg2, r_yes, r_frz, r_call, r_F, r_sif, r_snil, r_pass, r_break, r_cont, r_no, r_ret, r_retN, r_retNone, r_drop, r_dropN, r_asg, r_asgN, r_aug, r_stup, r_app, r_ext, r_setix, r_for, r_retOwn, wE_nComp, wE_ok, wS_nx, wS_rt, wS_bk, wS_ct, wS_seq, wV_d, wV_l, wO_d, wO_l, wL_some, wL_ite, wL_map, cB_true, cB_false, cB_not, wZ_d, wZ_l, wTk_some, wT_some, wipeE, tk_nil, tk_v, tk_s, putA, mask, d1, d2, tyD, okS_d, okS_l, lOf, asI, Option.isSome_some, Option.getD_some, Option.map_some, List.getElem?_cons_zero, List.getElem?_cons_succ, List.set_cons_zero, List.set_cons_succ, List.replicate_succ, List.replicate_zero, List.cons_append, List.nil_append, List.not_mem_nil, List.mem_cons, or_false, not_false_eq_true, true_and, decide_true, if_true, if_false, reduceIte, Nat.reduceEqDiff, Nat.reduceAdd, Nat.reduceSub, Nat.reduceLeDiff, Nat.reduceLT, Int.reduceLT, Int.reduceLE, Int.reduceAdd, Int.reduceSub, Int.reduceEq, Int.reduceNeg, Nat.reduceMul, decide_false, Bool.not_true, Bool.not_false, and_true, true_or, or_true, Int.reduceMul, Int.reduceToNat, Nat.reducePow, Int.reducePow, Nat.not_lt_zero, l_addI, l_addS, l_addL, l_addT, l_sub, l_div, l_mod, l_mulI, l_mulS, l_mulL, l_eqI, l_eqS, l_neI, l_neS, l_ltI, l_leI, l_gtI, l_geI, l_ltS, l_leS, l_gtS, l_geS, l_truI, l_truB, l_truL, l_truT, l_truN, l_truS, l_lenS, l_lenL, l_lenT, l_intI, l_absI, l_tupL, l_tupT, l_itL, l_itT, l_itS, l_rg1, l_rg2, l_ixL, l_ixT, l_ixS, at_0, at_1, at_2, at_3, set_0, set_1, set_2, set_3, List.length_cons, List.length_nil, Int.cast_ofNat_Int, Int.natCast_one, tgD_n, tgD_t, tgA_nil, tgA_cons, Option.bind_some, l_isSS, l_isST, l_isSL, l_isSI, l_isTT, l_isTS, l_isTL, l_isTI, l_isII, l_isBI, l_isLL, l_ord, okS_stt g4]
    refine pick_ok (xs := VALUES.map ln) g4 (by simp [VALUES]) (by rw [List.length_map]; decide) fun v2 s4 hv2 g5 => ?_
    obtain ⟨w, hw, rfl⟩ := List.mem_map.mp hv2
    simp only [r_lft, r_var, r_own, r_c, r_bin, r_binO, r_cmp, r_tcmp, r_tcmpO, r_tru, r_tand, r_tor, r_tnot, r_eif, r_nif, r_and, r_or, r_not, r_neg, r_cb, r_ncb, r_bm, r_bm0, r_tup, r_lst, r_anil, r_acons, r_aone, r_vnil, r_vcons, r_vslot, r_sl, r_onone, r_osome, r_chain, r_tchain, r_isi, r_iany, r_rg1, r_rg2, r_yes, r_frz, r_call, r_F, r_sif, r_snil, r_pass, r_break, r_cont, r_no, r_ret, r_retN, r_retNone, r_drop, r_dropN, r_asg, r_asgN, r_aug, r_stup, r_app, r_ext, r_setix, r_for, r_retOwn, wE_nComp, wE_ok, wS_nx, wS_rt, wS_bk, wS_ct, wS_seq, wV_d, wV_l, wO_d, wO_l, wL_some, wL_ite, wL_map, cB_true, cB_false, cB_not, wZ_d, wZ_l, wTk_some, wT_some, wipeE, tk_nil, tk_v, tk_s, putA, mask, d1, d2, tyD, okS_d, okS_l, lOf, asI, Option.isSome_some, Option.getD_some, Option.map_some, List.getElem?_cons_zero, List.getElem?_cons_succ, List.set_cons_zero, List.set_cons_succ, List.replicate_succ, List.replicate_zero, List.cons_append, List.nil_append, List.not_mem_nil, List.mem_cons, or_false, not_false_eq_true, true_and, decide_true, if_true, if_false, reduceIte, Nat.reduceEqDiff, Nat.reduceAdd, Nat.reduceSub, Nat.reduceLeDiff, Nat.reduceLT, Int.reduceLT, Int.reduceLE, Int.reduceAdd, Int.reduceSub, Int.reduceEq, Int.reduceNeg, Nat.reduceMul, decide_false, Bool.not_true, Bool.not_false, and_true, true_or, or_true, Int.reduceMul, Int.reduceToNat, Nat.reducePow, Int.reducePow, Nat.not_lt_zero, l_addI, l_addS, l_addL, l_addT, l_sub, l_div, l_mod, l_mulI, l_mulS, l_mulL, l_eqI, l_eqS, l_neI, l_neS, l_ltI, l_leI, l_gtI, l_geI, l_ltS, l_leS, l_gtS, l_geS, l_truI, l_truB, l_truL, l_truT, l_truN, l_truS, l_lenS, l_lenL, l_lenT, l_intI, l_absI, l_tupL, l_tupT, l_itL, l_itT, l_itS, l_rg1, l_rg2, l_ixL, l_ixT, l_ixS, at_0, at_1, at_2, at_3, set_0, set_1, set_2, set_3, List.length_cons, List.length_nil, Int.cast_ofNat_Int, Int.natCast_one, tgD_n, tgD_t, tgA_nil, tgA_cons, Option.bind_some, l_isSS, l_isST, l_isSL, l_isSI, l_isTT, l_isTS, l_isTL, l_isTI, l_isII, l_isBI, l_isLL, l_ord]
    refine ⟨hs ++ [(n, w)], s4, _, by simp [hd, ln], by simp at g1 ⊢; omega, fun p hp => ?_, g5, rfl⟩
    rcases List.mem_append.mp hp with z | z
    · exact g2 p z
    · rw [List.mem_singleton.mp z]; exact ⟨hn, hw⟩
  · rintro x r acc e ⟨hs, s2, q, rfl, g1, g2, g3, rfl⟩
    rw [List.length_map]; omega
  · rintro acc e ⟨hs, s2, q, rfl, g1, g2, g3, rfl⟩
    simp only [r_lft, r_var, r_own, r_c, r_bin, r_binO, r_cmp, r_tcmp, r_tcmpO, r_tru, r_tand, r_tor, r_tnot, r_eif, r_nif, r_and, r_or, r_not, r_neg, r_cb, r_ncb, r_bm, r_bm0, r_tup, r_lst, r_anil, r_acons, r_aone, r_vnil, r_vcons, r_vslot, r_sl, r_onone, r_osome, r_chain, r_tchain, r_isi, r_iany, r_rg1, r_rg2, r_yes, r_frz, r_call, r_F, r_sif, r_snil, r_pass, r_break, r_cont, r_no, r_ret, r_retN, r_retNone, r_drop, r_dropN, r_asg, r_asgN, r_aug, r_stup, r_app, r_ext, r_setix, r_for, r_retOwn, wE_nComp, wE_ok, wS_nx, wS_rt, wS_bk, wS_ct, wS_seq, wV_d, wV_l, wO_d, wO_l, wL_some, wL_ite, wL_map, cB_true, cB_false, cB_not, wZ_d, wZ_l, wTk_some, wT_some, wipeE, tk_nil, tk_v, tk_s, putA, mask, d1, d2, tyD, okS_d, okS_l, lOf, asI, Option.isSome_some, Option.getD_some, Option.map_some, List.getElem?_cons_zero, List.getElem?_cons_succ, List.set_cons_zero, List.set_cons_succ, List.replicate_succ, List.replicate_zero, List.cons_append, List.nil_append, List.not_mem_nil, List.mem_cons, or_false, not_false_eq_true, true_and, decide_true, if_true, if_false, reduceIte, Nat.reduceEqDiff, Nat.reduceAdd, Nat.reduceSub, Nat.reduceLeDiff, Nat.reduceLT, Int.reduceLT, Int.reduceLE, Int.reduceAdd, Int.reduceSub, Int.reduceEq, Int.reduceNeg, Nat.reduceMul, decide_false, Bool.not_true, Bool.not_false, and_true, true_or, or_true, Int.reduceMul, Int.reduceToNat, Nat.reducePow, Int.reducePow, Nat.not_lt_zero, l_addI, l_addS, l_addL, l_addT, l_sub, l_div, l_mod, l_mulI, l_mulS, l_mulL, l_eqI, l_eqS, l_neI, l_neS, l_ltI, l_leI, l_gtI, l_geI, l_ltS, l_leS, l_gtS, l_geS, l_truI, l_truB, l_truL, l_truT, l_truN, l_truS, l_lenS, l_lenL, l_lenT, l_intI, l_absI, l_tupL, l_tupT, l_itL, l_itT, l_itS, l_rg1, l_rg2, l_ixL, l_ixT, l_ixS, at_0, at_1, at_2, at_3, set_0, set_1, set_2, set_3, List.length_cons, List.length_nil, Int.cast_ofNat_Int, Int.natCast_one, tgD_n, tgD_t, tgA_nil, tgA_cons, Option.bind_some, l_isSS, l_isST, l_isSL, l_isSI, l_isTT, l_isTS, l_isTL, l_isTI, l_isII, l_isBI, l_isLL, l_ord, e2]
    rw [l_eq]
    simp only [wipeE, r_lft, r_var, r_own, r_c, r_bin, r_binO, r_cmp, r_tcmp, r_tcmpO, r_tru, r_tand, r_tor, r_tnot, r_eif, r_nif, r_and, r_or, r_not, r_neg, r_cb, r_ncb, r_bm, r_bm0, r_tup, r_lst, r_anil, r_acons, r_aone, r_vnil, r_vcons, r_vslot, r_sl, r_onone, r_osome, r_chain, r_tchain, r_isi, r_iany, r_rg1, r_rg2, r_yes, r_frz, r_call, r_F, r_sif, r_snil, r_pass, r_break, r_cont, r_no, r_ret, r_retN, r_retNone, r_drop, r_dropN, r_asg, r_asgN, r_aug, r_stup, r_app, r_ext, r_setix, r_for, r_retOwn, wE_nComp, wE_ok, wS_nx, wS_rt, wS_bk, wS_ct, wS_seq, wV_d, wV_l, wO_d, wO_l, wL_some, wL_ite, wL_map, cB_true, cB_false, cB_not, wZ_d, wZ_l, wTk_some, wT_some, wipeE, tk_nil, tk_v, tk_s, putA, mask, d1, d2, tyD, okS_d, okS_l, lOf, asI, Option.isSome_some, Option.getD_some, Option.map_some, List.getElem?_cons_zero, List.getElem?_cons_succ, List.set_cons_zero, List.set_cons_succ, List.replicate_succ, List.replicate_zero, List.cons_append, List.nil_append, List.not_mem_nil, List.mem_cons, or_false, not_false_eq_true, true_and, decide_true, if_true, if_false, reduceIte, Nat.reduceEqDiff, Nat.reduceAdd, Nat.reduceSub, Nat.reduceLeDiff, Nat.reduceLT, Int.reduceLT, Int.reduceLE, Int.reduceAdd, Int.reduceSub, Int.reduceEq, Int.reduceNeg, Nat.reduceMul, decide_false, Bool.not_true, Bool.not_false, and_true, true_or, or_true, Int.reduceMul, Int.reduceToNat, Nat.reducePow, Int.reducePow, Nat.not_lt_zero, l_addI, l_addS, l_addL, l_addT, l_sub, l_div, l_mod, l_mulI, l_mulS, l_mulL, l_eqI, l_eqS, l_neI, l_neS, l_ltI, l_leI, l_gtI, l_geI, l_ltS, l_leS, l_gtS, l_geS, l_truI, l_truB, l_truL, l_truT, l_truN, l_truS, l_lenS, l_lenL, l_lenT, l_intI, l_absI, l_tupL, l_tupT, l_itL, l_itT, l_itS, l_rg1, l_rg2, l_ixL, l_ixT, l_ixS, at_0, at_1, at_2, at_3, set_0, set_1, set_2, set_3, List.length_cons, List.length_nil, Int.cast_ofNat_Int, Int.natCast_one, tgD_n, tgD_t, tgA_nil, tgA_cons, Option.bind_some, l_isSS, l_isST, l_isSL, l_isSI, l_isTT, l_isTS, l_isTL, l_isTI, l_isII, l_isBI, l_isLL, l_ord, okS_stt g3]
    refine draw_ok g3 (by omega) (by omega) fun v s5 v0 v1 hs5 => ?_
    simp only [r_lft, r_var, r_own, r_c, r_bin, r_binO, r_cmp, r_tcmp, r_tcmpO, r_tru, r_tand, r_tor, r_tnot, r_eif, r_nif, r_and, r_or, r_not, r_neg, r_cb, r_ncb, r_bm, r_bm0, r_tup, r_lst, r_anil, r_acons, r_aone, r_vnil, r_vcons, r_vslot, r_sl, r_onone, r_osome, r_chain, r_tchain, r_isi, r_iany, r_rg1, r_rg2, r_yes, r_frz, r_call, r_F, r_sif, r_snil, r_pass, r_break, r_cont, r_no, r_ret, r_retN, r_retNone, r_drop, r_dropN, r_asg, r_asgN, r_aug, r_stup, r_app, r_ext, r_setix, r_for, r_retOwn, wE_nComp, wE_ok, wS_nx, wS_rt, wS_bk, wS_ct, wS_seq, wV_d, wV_l, wO_d, wO_l, wL_some, wL_ite, wL_map, cB_true, cB_false, cB_not, wZ_d, wZ_l, wTk_some, wT_some, wipeE, tk_nil, tk_v, tk_s, putA, mask, d1, d2, tyD, okS_d, okS_l, lOf, asI, Option.isSome_some, Option.getD_some, Option.map_some, List.getElem?_cons_zero, List.getElem?_cons_succ, List.set_cons_zero, List.set_cons_succ, List.replicate_succ, List.replicate_zero, List.cons_append, List.nil_append, List.not_mem_nil, List.mem_cons, or_false, not_false_eq_true, true_and, decide_true, if_true, if_false, reduceIte, Nat.reduceEqDiff, Nat.reduceAdd, Nat.reduceSub, Nat.reduceLeDiff, Nat.reduceLT, Int.reduceLT, Int.reduceLE, Int.reduceAdd, Int.reduceSub, Int.reduceEq, Int.reduceNeg, Nat.reduceMul, decide_false, Bool.not_true, Bool.not_false, and_true, true_or, or_true, Int.reduceMul, Int.reduceToNat, Nat.reducePow, Int.reducePow, Nat.not_lt_zero, l_addI, l_addS, l_addL, l_addT, l_sub, l_div, l_mod, l_mulI, l_mulS, l_mulL, l_eqI, l_eqS, l_neI, l_neS, l_ltI, l_leI, l_gtI, l_geI, l_ltS, l_leS, l_gtS, l_geS, l_truI, l_truB, l_truL, l_truT, l_truN, l_truS, l_lenS, l_lenL, l_lenT, l_intI, l_absI, l_tupL, l_tupT, l_itL, l_itT, l_itS, l_rg1, l_rg2, l_ixL, l_ixT, l_ixS, at_0, at_1, at_2, at_3, set_0, set_1, set_2, set_3, List.length_cons, List.length_nil, Int.cast_ofNat_Int, Int.natCast_one, tgD_n, tgD_t, tgA_nil, tgA_cons, Option.bind_some, l_isSS, l_isST, l_isSL, l_isSI, l_isTT, l_isTS, l_isTL, l_isTI, l_isII, l_isBI, l_isLL, l_ord]
    refine ⟨by omega, ?_⟩
    refine wE_compL (fun xs acc e => ∃ (ls : List T) (s q : Sl), acc = ls.map ln ∧ ls.length + xs.length ≤ 40 ∧ (∀ l ∈ ls, l ∈ LINES) ∧ Stt s ∧ e = [s, .d (.int most), .d (.list (NAMES.map ln)), .d (.list (VALUES.map ln)), .d (.tuple (hs.map hd)), q, .d (.list (LINES.map ln))]) ?_ ?_ ?_ _ _ _ ⟨[], s5, .un, rfl, by have := hR v (by omega); simpa using this, fun _ z => (nomatch z), hs5, rfl⟩
    · rintro x r acc e ⟨ls, s2, q, rfl, k1, k2, k3, rfl⟩
      refine ⟨_, rfl, ?_⟩
      simp only [r_lft, r_var, r_own, r_c, r_bin, r_binO, r_cmp, r_tcmp, r_tcmpO, r_tru, r_tand, r_tor, r_tnot, r_eif, r_nif, r_and, r_or, r_not, r_neg, r_cb, r_ncb, r_bm, r_bm0, r_tup, r_lst, r_anil, r_acons, r_aone, r_vnil, r_vcons, r_vslot, r_sl, r_onone, r_osome, r_chain, r_tchain, r_isi, r_iany, r_rg1, r_rg2, r_yes, r_frz, r_call, r_F, r_sif, r_snil, r_pass, r_break, r_cont, r_no, r_ret, r_retN, r_retNone, r_drop, r_dropN, r_asg, r_asgN, r_aug, r_stup, r_app, r_ext, r_setix, r_for, r_retOwn, wE_nComp, wE_ok, wS_nx, wS_rt, wS_bk, wS_ct, wS_seq, wV_d, wV_l, wO_d, wO_l, wL_some, wL_ite, wL_map, cB_true, cB_false, cB_not, wZ_d, wZ_l, wTk_some, wT_some, wipeE, tk_nil, tk_v, tk_s, putA, mask, d1, d2, tyD, okS_d, okS_l, lOf, asI, Option.isSome_some, Option.getD_some, Option.map_some, List.getElem?_cons_zero, List.getElem?_cons_succ, List.set_cons_zero, List.set_cons_succ, List.replicate_succ, List.replicate_zero, List.cons_append, List.nil_append, List.not_mem_nil, List.mem_cons, or_false, not_false_eq_true, true_and, decide_true, if_true, if_false, reduceIte, Nat.reduceEqDiff, Nat.reduceAdd, Nat.reduceSub, Nat.reduceLeDiff, Nat.reduceLT, Int.reduceLT, Int.reduceLE, Int.reduceAdd, Int.reduceSub, Int.reduceEq, Int.reduceNeg, Nat.reduceMul, decide_false, Bool.not_true, Bool.not_false, and_true, true_or, or_true, Int.reduceMul, Int.reduceToNat, Nat.reducePow, Int.reducePow, Nat.not_lt_zero, l_addI, l_addS, l_addL, l_addT, l_sub, l_div, l_mod, l_mulI, l_mulS, l_mulL, l_eqI, l_eqS, l_neI, l_neS, l_ltI, l_leI, l_gtI, l_geI, l_ltS, l_leS, l_gtS, l_geS, l_truI, l_truB, l_truL, l_truT, l_truN, l_truS, l_lenS, l_lenL, l_lenT, l_intI, l_absI, l_tupL, l_tupT, l_itL, l_itT, l_itS, l_rg1, l_rg2, l_ixL, l_ixT, l_ixS, at_0, at_1, at_2, at_3, set_0, set_1, set_2, set_3, List.length_cons, List.length_nil, Int.cast_ofNat_Int, Int.natCast_one, tgD_n, tgD_t, tgA_nil, tgA_cons, Option.bind_some, l_isSS, l_isST, l_isSL, l_isSI, l_isTT, l_isTS, l_isTL, l_isTI, l_isII, l_isBI, l_isLL, l_ord, okS_stt k3]
      refine pick_ok (xs := LINES.map ln) k3 (by simp [LINES]) (by rw [List.length_map]; decide) fun v1 s3 hv1 k4 => ?_
      obtain ⟨l, hl, rfl⟩ := List.mem_map.mp hv1
      simp only [r_lft, r_var, r_own, r_c, r_bin, r_binO, r_cmp, r_tcmp, r_tcmpO, r_tru, r_tand, r_tor, r_tnot, r_eif, r_nif, r_and, r_or, r_not, r_neg, r_cb, r_ncb, r_bm, r_bm0, r_tup, r_lst, r_anil, r_acons, r_aone, r_vnil, r_vcons, r_vslot, r_sl, r_onone, r_osome, r_chain, r_tchain, r_isi, r_iany, r_rg1, r_rg2, r_yes, r_frz, r_call, r_F, r_sif, r_snil, r_pass, r_break, r_cont, r_no, r_ret, r_retN, r_retNone, r_drop, r_dropN, r_asg, r_asgN, r_aug, r_stup, r_app, r_ext, r_setix, r_for, r_retOwn, wE_nComp, wE_ok, wS_nx, wS_rt, wS_bk, wS_ct, wS_seq, wV_d, wV_l, wO_d, wO_l, wL_some, wL_ite, wL_map, cB_true, cB_false, cB_not, wZ_d, wZ_l, wTk_some, wT_some, wipeE, tk_nil, tk_v, tk_s, putA, mask, d1, d2, tyD, okS_d, okS_l, lOf, asI, Option.isSome_some, Option.getD_some, Option.map_some, List.getElem?_cons_zero, List.getElem?_cons_succ, List.set_cons_zero, List.set_cons_succ, List.replicate_succ, List.replicate_zero, List.cons_append, List.nil_append, List.not_mem_nil, List.mem_cons, or_false, not_false_eq_true, true_and, decide_true, if_true, if_false, reduceIte, Nat.reduceEqDiff, Nat.reduceAdd, Nat.reduceSub, Nat.reduceLeDiff, Nat.reduceLT, Int.reduceLT, Int.reduceLE, Int.reduceAdd, Int.reduceSub, Int.reduceEq, Int.reduceNeg, Nat.reduceMul, decide_false, Bool.not_true, Bool.not_false, and_true, true_or, or_true, Int.reduceMul, Int.reduceToNat, Nat.reducePow, Int.reducePow, Nat.not_lt_zero, l_addI, l_addS, l_addL, l_addT, l_sub, l_div, l_mod, l_mulI, l_mulS, l_mulL, l_eqI, l_eqS, l_neI, l_neS, l_ltI, l_leI, l_gtI, l_geI, l_ltS, l_leS, l_gtS, l_geS, l_truI, l_truB, l_truL, l_truT, l_truN, l_truS, l_lenS, l_lenL, l_lenT, l_intI, l_absI, l_tupL, l_tupT, l_itL, l_itT, l_itS, l_rg1, l_rg2, l_ixL, l_ixT, l_ixS, at_0, at_1, at_2, at_3, set_0, set_1, set_2, set_3, List.length_cons, List.length_nil, Int.cast_ofNat_Int, Int.natCast_one, tgD_n, tgD_t, tgA_nil, tgA_cons, Option.bind_some, l_isSS, l_isST, l_isSL, l_isSI, l_isTT, l_isTS, l_isTL, l_isTI, l_isII, l_isBI, l_isLL, l_ord]
      refine ⟨ls ++ [l], s3, _, by simp [ln], by simp at k1 ⊢; omega, fun p hp => ?_, k4, rfl⟩
      rcases List.mem_append.mp hp with z | z
      · exact k2 p z
      · rw [List.mem_singleton.mp z]; exact hl
    · rintro x r acc e ⟨ls, s2, q, rfl, k1, k2, k3, rfl⟩
      rw [List.length_map]; omega
    · rintro acc e ⟨ls, s2, q, rfl, k1, k2, k3, rfl⟩
      simp only [wipeE, r_lft, r_var, r_own, r_c, r_bin, r_binO, r_cmp, r_tcmp, r_tcmpO, r_tru, r_tand, r_tor, r_tnot, r_eif, r_nif, r_and, r_or, r_not, r_neg, r_cb, r_ncb, r_bm, r_bm0, r_tup, r_lst, r_anil, r_acons, r_aone, r_vnil, r_vcons, r_vslot, r_sl, r_onone, r_osome, r_chain, r_tchain, r_isi, r_iany, r_rg1, r_rg2, r_yes, r_frz, r_call, r_F, r_sif, r_snil, r_pass, r_break, r_cont, r_no, r_ret, r_retN, r_retNone, r_drop, r_dropN, r_asg, r_asgN, r_aug, r_stup, r_app, r_ext, r_setix, r_for, r_retOwn, wE_nComp, wE_ok, wS_nx, wS_rt, wS_bk, wS_ct, wS_seq, wV_d, wV_l, wO_d, wO_l, wL_some, wL_ite, wL_map, cB_true, cB_false, cB_not, wZ_d, wZ_l, wTk_some, wT_some, wipeE, tk_nil, tk_v, tk_s, putA, mask, d1, d2, tyD, okS_d, okS_l, lOf, asI, Option.isSome_some, Option.getD_some, Option.map_some, List.getElem?_cons_zero, List.getElem?_cons_succ, List.set_cons_zero, List.set_cons_succ, List.replicate_succ, List.replicate_zero, List.cons_append, List.nil_append, List.not_mem_nil, List.mem_cons, or_false, not_false_eq_true, true_and, decide_true, if_true, if_false, reduceIte, Nat.reduceEqDiff, Nat.reduceAdd, Nat.reduceSub, Nat.reduceLeDiff, Nat.reduceLT, Int.reduceLT, Int.reduceLE, Int.reduceAdd, Int.reduceSub, Int.reduceEq, Int.reduceNeg, Nat.reduceMul, decide_false, Bool.not_true, Bool.not_false, and_true, true_or, or_true, Int.reduceMul, Int.reduceToNat, Nat.reducePow, Int.reducePow, Nat.not_lt_zero, l_addI, l_addS, l_addL, l_addT, l_sub, l_div, l_mod, l_mulI, l_mulS, l_mulL, l_eqI, l_eqS, l_neI, l_neS, l_ltI, l_leI, l_gtI, l_geI, l_ltS, l_leS, l_gtS, l_geS, l_truI, l_truB, l_truL, l_truT, l_truN, l_truS, l_lenS, l_lenL, l_lenT, l_intI, l_absI, l_tupL, l_tupT, l_itL, l_itT, l_itS, l_rg1, l_rg2, l_ixL, l_ixT, l_ixS, at_0, at_1, at_2, at_3, set_0, set_1, set_2, set_3, List.length_cons, List.length_nil, Int.cast_ofNat_Int, Int.natCast_one, tgD_n, tgD_t, tgA_nil, tgA_cons, Option.bind_some, l_isSS, l_isST, l_isSL, l_isSI, l_isTT, l_isTS, l_isTL, l_isTI, l_isII, l_isBI, l_isLL, l_ord]
      exact k hs ls s2 ⟨by simpa using g1, g2, by simpa using k1, k2⟩ k3
/-! ### short letters -/
def shortH (hs : List (T × T)) : List (T × T) := hs.filter fun p => decide (p.1.length + p.2.length < 190)
theorem short_ok {hs : List (T × T)} {ls : List T} (f : From hs ls) : m__law_short [.d (LD hs ls)] = .ok (.d (LD (shortH hs) ls)) [.un] := by
  have g := f.good
  have h1 := g.h1
  refine eqF (wF_run rfl ?_)
  simp only [b__law_short, LD, r_lft, r_var, r_own, r_c, r_bin, r_binO, r_cmp, r_tcmp, r_tcmpO, r_tru, r_tand, r_tor, r_tnot, r_eif, r_nif, r_and, r_or, r_not, r_neg, r_cb, r_ncb, r_bm, r_bm0, r_tup, r_lst, r_anil, r_acons, r_aone, r_vnil, r_vcons, r_vslot, r_sl, r_onone, r_osome, r_chain, r_tchain, r_isi, r_iany, r_rg1, r_rg2, r_yes, r_frz, r_call, r_F, r_sif, r_snil, r_pass, r_break, r_cont, r_no, r_ret, r_retN, r_retNone, r_drop, r_dropN, r_asg, r_asgN, r_aug, r_stup, r_app, r_ext, r_setix, r_for, r_retOwn, wE_nComp, wE_ok, wS_nx, wS_rt, wS_bk, wS_ct, wS_seq, wV_d, wV_l, wO_d, wO_l, wL_some, wL_ite, wL_map, cB_true, cB_false, cB_not, wZ_d, wZ_l, wTk_some, wT_some, wipeE, tk_nil, tk_v, tk_s, putA, mask, d1, d2, tyD, okS_d, okS_l, lOf, asI, Option.isSome_some, Option.getD_some, Option.map_some, List.getElem?_cons_zero, List.getElem?_cons_succ, List.set_cons_zero, List.set_cons_succ, List.replicate_succ, List.replicate_zero, List.cons_append, List.nil_append, List.not_mem_nil, List.mem_cons, or_false, not_false_eq_true, true_and, decide_true, if_true, if_false, reduceIte, Nat.reduceEqDiff, Nat.reduceAdd, Nat.reduceSub, Nat.reduceLeDiff, Nat.reduceLT, Int.reduceLT, Int.reduceLE, Int.reduceAdd, Int.reduceSub, Int.reduceEq, Int.reduceNeg, Nat.reduceMul, decide_false, Bool.not_true, Bool.not_false, and_true, true_or, or_true, Int.reduceMul, Int.reduceToNat, Nat.reducePow, Int.reducePow, Nat.not_lt_zero, l_addI, l_addS, l_addL, l_addT, l_sub, l_div, l_mod, l_mulI, l_mulS, l_mulL, l_eqI, l_eqS, l_neI, l_neS, l_ltI, l_leI, l_gtI, l_geI, l_ltS, l_leS, l_gtS, l_geS, l_truI, l_truB, l_truL, l_truT, l_truN, l_truS, l_lenS, l_lenL, l_lenT, l_intI, l_absI, l_tupL, l_tupT, l_itL, l_itT, l_itS, l_rg1, l_rg2, l_ixL, l_ixT, l_ixS, at_0, at_1, at_2, at_3, set_0, set_1, set_2, set_3, List.length_cons, List.length_nil, Int.cast_ofNat_Int, Int.natCast_one, tgD_n, tgD_t, tgA_nil, tgA_cons, Option.bind_some, l_isSS, l_isST, l_isSL, l_isSI, l_isTT, l_isTS, l_isTL, l_isTI, l_isII, l_isBI, l_isLL, l_ord]
  refine wE_compG [.d (LD hs ls), .un, .un] hd (fun p => if p.1.length + p.2.length < 190 then some (hd p) else none) hs rfl (by omega) (fun p hp => ?_) ?_
  · have a := name_len (g.h2 p hp).1
    have b := val_len (g.h2 p hp).2
    refine ⟨_, rfl, ?_⟩
    simp only [r_lft, r_var, r_own, r_c, r_bin, r_binO, r_cmp, r_tcmp, r_tcmpO, r_tru, r_tand, r_tor, r_tnot, r_eif, r_nif, r_and, r_or, r_not, r_neg, r_cb, r_ncb, r_bm, r_bm0, r_tup, r_lst, r_anil, r_acons, r_aone, r_vnil, r_vcons, r_vslot, r_sl, r_onone, r_osome, r_chain, r_tchain, r_isi, r_iany, r_rg1, r_rg2, r_yes, r_frz, r_call, r_F, r_sif, r_snil, r_pass, r_break, r_cont, r_no, r_ret, r_retN, r_retNone, r_drop, r_dropN, r_asg, r_asgN, r_aug, r_stup, r_app, r_ext, r_setix, r_for, r_retOwn, wE_nComp, wE_ok, wS_nx, wS_rt, wS_bk, wS_ct, wS_seq, wV_d, wV_l, wO_d, wO_l, wL_some, wL_ite, wL_map, cB_true, cB_false, cB_not, wZ_d, wZ_l, wTk_some, wT_some, wipeE, tk_nil, tk_v, tk_s, putA, mask, d1, d2, tyD, okS_d, okS_l, lOf, asI, Option.isSome_some, Option.getD_some, Option.map_some, List.getElem?_cons_zero, List.getElem?_cons_succ, List.set_cons_zero, List.set_cons_succ, List.replicate_succ, List.replicate_zero, List.cons_append, List.nil_append, List.not_mem_nil, List.mem_cons, or_false, not_false_eq_true, true_and, decide_true, if_true, if_false, reduceIte, Nat.reduceEqDiff, Nat.reduceAdd, Nat.reduceSub, Nat.reduceLeDiff, Nat.reduceLT, Int.reduceLT, Int.reduceLE, Int.reduceAdd, Int.reduceSub, Int.reduceEq, Int.reduceNeg, Nat.reduceMul, decide_false, Bool.not_true, Bool.not_false, and_true, true_or, or_true, Int.reduceMul, Int.reduceToNat, Nat.reducePow, Int.reducePow, Nat.not_lt_zero, l_addI, l_addS, l_addL, l_addT, l_sub, l_div, l_mod, l_mulI, l_mulS, l_mulL, l_eqI, l_eqS, l_neI, l_neS, l_ltI, l_leI, l_gtI, l_geI, l_ltS, l_leS, l_gtS, l_geS, l_truI, l_truB, l_truL, l_truT, l_truN, l_truS, l_lenS, l_lenL, l_lenT, l_intI, l_absI, l_tupL, l_tupT, l_itL, l_itT, l_itS, l_rg1, l_rg2, l_ixL, l_ixT, l_ixS, at_0, at_1, at_2, at_3, set_0, set_1, set_2, set_3, List.length_cons, List.length_nil, Int.cast_ofNat_Int, Int.natCast_one, tgD_n, tgD_t, tgA_nil, tgA_cons, Option.bind_some, l_isSS, l_isST, l_isSL, l_isSI, l_isTT, l_isTS, l_isTL, l_isTI, l_isII, l_isBI, l_isLL, l_ord, S_len]
    refine ⟨by omega, by omega, ?_⟩
    by_cases h : p.1.length + p.2.length < 190
    · rw [if_pos h, decide_eq_true (by omega)]
      simp only [r_lft, r_var, r_own, r_c, r_bin, r_binO, r_cmp, r_tcmp, r_tcmpO, r_tru, r_tand, r_tor, r_tnot, r_eif, r_nif, r_and, r_or, r_not, r_neg, r_cb, r_ncb, r_bm, r_bm0, r_tup, r_lst, r_anil, r_acons, r_aone, r_vnil, r_vcons, r_vslot, r_sl, r_onone, r_osome, r_chain, r_tchain, r_isi, r_iany, r_rg1, r_rg2, r_yes, r_frz, r_call, r_F, r_sif, r_snil, r_pass, r_break, r_cont, r_no, r_ret, r_retN, r_retNone, r_drop, r_dropN, r_asg, r_asgN, r_aug, r_stup, r_app, r_ext, r_setix, r_for, r_retOwn, wE_nComp, wE_ok, wS_nx, wS_rt, wS_bk, wS_ct, wS_seq, wV_d, wV_l, wO_d, wO_l, wL_some, wL_ite, wL_map, cB_true, cB_false, cB_not, wZ_d, wZ_l, wTk_some, wT_some, wipeE, tk_nil, tk_v, tk_s, putA, mask, d1, d2, tyD, okS_d, okS_l, lOf, asI, Option.isSome_some, Option.getD_some, Option.map_some, List.getElem?_cons_zero, List.getElem?_cons_succ, List.set_cons_zero, List.set_cons_succ, List.replicate_succ, List.replicate_zero, List.cons_append, List.nil_append, List.not_mem_nil, List.mem_cons, or_false, not_false_eq_true, true_and, decide_true, if_true, if_false, reduceIte, Nat.reduceEqDiff, Nat.reduceAdd, Nat.reduceSub, Nat.reduceLeDiff, Nat.reduceLT, Int.reduceLT, Int.reduceLE, Int.reduceAdd, Int.reduceSub, Int.reduceEq, Int.reduceNeg, Nat.reduceMul, decide_false, Bool.not_true, Bool.not_false, and_true, true_or, or_true, Int.reduceMul, Int.reduceToNat, Nat.reducePow, Int.reducePow, Nat.not_lt_zero, l_addI, l_addS, l_addL, l_addT, l_sub, l_div, l_mod, l_mulI, l_mulS, l_mulL, l_eqI, l_eqS, l_neI, l_neS, l_ltI, l_leI, l_gtI, l_geI, l_ltS, l_leS, l_gtS, l_geS, l_truI, l_truB, l_truL, l_truT, l_truN, l_truS, l_lenS, l_lenL, l_lenT, l_intI, l_absI, l_tupL, l_tupT, l_itL, l_itT, l_itS, l_rg1, l_rg2, l_ixL, l_ixT, l_ixS, at_0, at_1, at_2, at_3, set_0, set_1, set_2, set_3, List.length_cons, List.length_nil, Int.cast_ofNat_Int, Int.natCast_one, tgD_n, tgD_t, tgA_nil, tgA_cons, Option.bind_some, l_isSS, l_isST, l_isSL, l_isSI, l_isTT, l_isTS, l_isTL, l_isTI, l_isII, l_isBI, l_isLL, l_ord]
      (first | rfl | exact ⟨rfl, rfl⟩ | (simp; done))
    · rw [if_neg h, decide_eq_false (by omega)]
      simp only [r_lft, r_var, r_own, r_c, r_bin, r_binO, r_cmp, r_tcmp, r_tcmpO, r_tru, r_tand, r_tor, r_tnot, r_eif, r_nif, r_and, r_or, r_not, r_neg, r_cb, r_ncb, r_bm, r_bm0, r_tup, r_lst, r_anil, r_acons, r_aone, r_vnil, r_vcons, r_vslot, r_sl, r_onone, r_osome, r_chain, r_tchain, r_isi, r_iany, r_rg1, r_rg2, r_yes, r_frz, r_call, r_F, r_sif, r_snil, r_pass, r_break, r_cont, r_no, r_ret, r_retN, r_retNone, r_drop, r_dropN, r_asg, r_asgN, r_aug, r_stup, r_app, r_ext, r_setix, r_for, r_retOwn, wE_nComp, wE_ok, wS_nx, wS_rt, wS_bk, wS_ct, wS_seq, wV_d, wV_l, wO_d, wO_l, wL_some, wL_ite, wL_map, cB_true, cB_false, cB_not, wZ_d, wZ_l, wTk_some, wT_some, wipeE, tk_nil, tk_v, tk_s, putA, mask, d1, d2, tyD, okS_d, okS_l, lOf, asI, Option.isSome_some, Option.getD_some, Option.map_some, List.getElem?_cons_zero, List.getElem?_cons_succ, List.set_cons_zero, List.set_cons_succ, List.replicate_succ, List.replicate_zero, List.cons_append, List.nil_append, List.not_mem_nil, List.mem_cons, or_false, not_false_eq_true, true_and, decide_true, if_true, if_false, reduceIte, Nat.reduceEqDiff, Nat.reduceAdd, Nat.reduceSub, Nat.reduceLeDiff, Nat.reduceLT, Int.reduceLT, Int.reduceLE, Int.reduceAdd, Int.reduceSub, Int.reduceEq, Int.reduceNeg, Nat.reduceMul, decide_false, Bool.not_true, Bool.not_false, and_true, true_or, or_true, Int.reduceMul, Int.reduceToNat, Nat.reducePow, Int.reducePow, Nat.not_lt_zero, l_addI, l_addS, l_addL, l_addT, l_sub, l_div, l_mod, l_mulI, l_mulS, l_mulL, l_eqI, l_eqS, l_neI, l_neS, l_ltI, l_leI, l_gtI, l_geI, l_ltS, l_leS, l_gtS, l_geS, l_truI, l_truB, l_truL, l_truT, l_truN, l_truS, l_lenS, l_lenL, l_lenT, l_intI, l_absI, l_tupL, l_tupT, l_itL, l_itT, l_itS, l_rg1, l_rg2, l_ixL, l_ixT, l_ixS, at_0, at_1, at_2, at_3, set_0, set_1, set_2, set_3, List.length_cons, List.length_nil, Int.cast_ofNat_Int, Int.natCast_one, tgD_n, tgD_t, tgA_nil, tgA_cons, Option.bind_some, l_isSS, l_isST, l_isSL, l_isSI, l_isTT, l_isTS, l_isTL, l_isTI, l_isII, l_isBI, l_isLL, l_ord]
      (first | rfl | exact ⟨rfl, rfl⟩ | (simp; done))
  · have e : ∀ l : List (T × T), l.filterMap (fun p => if p.1.length + p.2.length < 190 then some (hd p) else none) = (shortH l).map hd := fun l => by
      unfold shortH
      induction l with
      | nil => rfl
      | cons a r ih =>
        by_cases h : a.1.length + a.2.length < 190
        · rw [List.filterMap_cons, if_pos h, List.filter_cons_of_pos (by simpa using h), List.map_cons, ih]
        · rw [List.filterMap_cons, if_neg h, List.filter_cons_of_neg (by simpa using h), ih]
    rw [e]
    simp only [LD, r_lft, r_var, r_own, r_c, r_bin, r_binO, r_cmp, r_tcmp, r_tcmpO, r_tru, r_tand, r_tor, r_tnot, r_eif, r_nif, r_and, r_or, r_not, r_neg, r_cb, r_ncb, r_bm, r_bm0, r_tup, r_lst, r_anil, r_acons, r_aone, r_vnil, r_vcons, r_vslot, r_sl, r_onone, r_osome, r_chain, r_tchain, r_isi, r_iany, r_rg1, r_rg2, r_yes, r_frz, r_call, r_F, r_sif, r_snil, r_pass, r_break, r_cont, r_no, r_ret, r_retN, r_retNone, r_drop, r_dropN, r_asg, r_asgN, r_aug, r_stup, r_app, r_ext, r_setix, r_for, r_retOwn, wE_nComp, wE_ok, wS_nx, wS_rt, wS_bk, wS_ct, wS_seq, wV_d, wV_l, wO_d, wO_l, wL_some, wL_ite, wL_map, cB_true, cB_false, cB_not, wZ_d, wZ_l, wTk_some, wT_some, wipeE, tk_nil, tk_v, tk_s, putA, mask, d1, d2, tyD, okS_d, okS_l, lOf, asI, Option.isSome_some, Option.getD_some, Option.map_some, List.getElem?_cons_zero, List.getElem?_cons_succ, List.set_cons_zero, List.set_cons_succ, List.replicate_succ, List.replicate_zero, List.cons_append, List.nil_append, List.not_mem_nil, List.mem_cons, or_false, not_false_eq_true, true_and, decide_true, if_true, if_false, reduceIte, Nat.reduceEqDiff, Nat.reduceAdd, Nat.reduceSub, Nat.reduceLeDiff, Nat.reduceLT, Int.reduceLT, Int.reduceLE, Int.reduceAdd, Int.reduceSub, Int.reduceEq, Int.reduceNeg, Nat.reduceMul, decide_false, Bool.not_true, Bool.not_false, and_true, true_or, or_true, Int.reduceMul, Int.reduceToNat, Nat.reducePow, Int.reducePow, Nat.not_lt_zero, l_addI, l_addS, l_addL, l_addT, l_sub, l_div, l_mod, l_mulI, l_mulS, l_mulL, l_eqI, l_eqS, l_neI, l_neS, l_ltI, l_leI, l_gtI, l_geI, l_ltS, l_leS, l_gtS, l_geS, l_truI, l_truB, l_truL, l_truT, l_truN, l_truS, l_lenS, l_lenL, l_lenT, l_intI, l_absI, l_tupL, l_tupT, l_itL, l_itT, l_itS, l_rg1, l_rg2, l_ixL, l_ixT, l_ixS, at_0, at_1, at_2, at_3, set_0, set_1, set_2, set_3, List.length_cons, List.length_nil, Int.cast_ofNat_Int, Int.natCast_one, tgD_n, tgD_t, tgA_nil, tgA_cons, Option.bind_some, l_isSS, l_isST, l_isSL, l_isSI, l_isTT, l_isTS, l_isTL, l_isTI, l_isII, l_isBI, l_isLL, l_ord]
/-! ### great letters -/
theorem great_ok {s : Sl} {n : T} (hs : Stt s) (hn : okName n = true) {Q : Sl → List Sl → Prop} (k : ∀ N s', N.map low = n → (∀ c ∈ N, (65 ≤ c ∧ c ≤ 90) ∨ (97 ≤ c ∧ c ≤ 122) ∨ c = 45) → Stt s' → Q (.d (.str (S N))) [s', .un]) : wF (m__law_great [s, .d (.str (S n))]) Q := by
  have hl := name_len hn
  have hc : ∀ c ∈ n, (97 ≤ c ∧ c ≤ 122) ∨ c = 45 := by
    unfold okName at hn
    simp only [Bool.and_eq_true, decide_eq_true_eq, List.all_eq_true] at hn
    exact hn.2.2
  refine wF_run rfl ?_
  simp only [b__law_great, r_lft, r_var, r_own, r_c, r_bin, r_binO, r_cmp, r_tcmp, r_tcmpO, r_tru, r_tand, r_tor, r_tnot, r_eif, r_nif, r_and, r_or, r_not, r_neg, r_cb, r_ncb, r_bm, r_bm0, r_tup, r_lst, r_anil, r_acons, r_aone, r_vnil, r_vcons, r_vslot, r_sl, r_onone, r_osome, r_chain, r_tchain, r_isi, r_iany, r_rg1, r_rg2, r_yes, r_frz, r_call, r_F, r_sif, r_snil, r_pass, r_break, r_cont, r_no, r_ret, r_retN, r_retNone, r_drop, r_dropN, r_asg, r_asgN, r_aug, r_stup, r_app, r_ext, r_setix, r_for, r_retOwn, wE_nComp, wE_ok, wS_nx, wS_rt, wS_bk, wS_ct, wS_seq, wV_d, wV_l, wO_d, wO_l, wL_some, wL_ite, wL_map, cB_true, cB_false, cB_not, wZ_d, wZ_l, wTk_some, wT_some, wipeE, tk_nil, tk_v, tk_s, putA, mask, d1, d2, tyD, okS_d, okS_l, lOf, asI, Option.isSome_some, Option.getD_some, Option.map_some, List.getElem?_cons_zero, List.getElem?_cons_succ, List.set_cons_zero, List.set_cons_succ, List.replicate_succ, List.replicate_zero, List.cons_append, List.nil_append, List.not_mem_nil, List.mem_cons, or_false, not_false_eq_true, true_and, decide_true, if_true, if_false, reduceIte, Nat.reduceEqDiff, Nat.reduceAdd, Nat.reduceSub, Nat.reduceLeDiff, Nat.reduceLT, Int.reduceLT, Int.reduceLE, Int.reduceAdd, Int.reduceSub, Int.reduceEq, Int.reduceNeg, Nat.reduceMul, decide_false, Bool.not_true, Bool.not_false, and_true, true_or, or_true, Int.reduceMul, Int.reduceToNat, Nat.reducePow, Int.reducePow, Nat.not_lt_zero, l_addI, l_addS, l_addL, l_addT, l_sub, l_div, l_mod, l_mulI, l_mulS, l_mulL, l_eqI, l_eqS, l_neI, l_neS, l_ltI, l_leI, l_gtI, l_geI, l_ltS, l_leS, l_gtS, l_geS, l_truI, l_truB, l_truL, l_truT, l_truN, l_truS, l_lenS, l_lenL, l_lenT, l_intI, l_absI, l_tupL, l_tupT, l_itL, l_itT, l_itS, l_rg1, l_rg2, l_ixL, l_ixT, l_ixS, at_0, at_1, at_2, at_3, set_0, set_1, set_2, set_3, List.length_cons, List.length_nil, Int.cast_ofNat_Int, Int.natCast_one, tgD_n, tgD_t, tgA_nil, tgA_cons, Option.bind_some, l_isSS, l_isST, l_isSL, l_isSI, l_isTT, l_isTS, l_isTL, l_isTI, l_isII, l_isBI, l_isLL, l_ord, S_nil]
  refine wS_for (fun xs e => ∃ (dn rest N : T) (s s3 : Sl), n = dn ++ rest ∧ xs = rest.map (fun c => .str ⟨#[c]⟩) ∧ N.map low = dn ∧ (∀ c ∈ N, (65 ≤ c ∧ c ≤ 90) ∨ (97 ≤ c ∧ c ≤ 122) ∨ c = 45) ∧ Stt s ∧ e = [s, .d (.str (S n)), .d (.str (S N)), s3]) ?_ ?_ _ _ ⟨[], n, [], s, .un, rfl, rfl, rfl, fun _ z => (nomatch z), hs, rfl⟩
  · rintro x r e ⟨dn, rest, N, s2, s3, h1, h2, h3, h4, h5, rfl⟩
    cases rest with
    | nil => cases h2
    | cons c rest =>
      cases h2
      have hcc := hc c (by rw [h1]; simp)
      have hNl : N.length ≤ 20 := by
        have : N.length = dn.length := by rw [← h3, List.length_map]
        rw [h1, List.length_append] at hl; omega
      refine ⟨_, rfl, ?_⟩
      simp only [r_lft, r_var, r_own, r_c, r_bin, r_binO, r_cmp, r_tcmp, r_tcmpO, r_tru, r_tand, r_tor, r_tnot, r_eif, r_nif, r_and, r_or, r_not, r_neg, r_cb, r_ncb, r_bm, r_bm0, r_tup, r_lst, r_anil, r_acons, r_aone, r_vnil, r_vcons, r_vslot, r_sl, r_onone, r_osome, r_chain, r_tchain, r_isi, r_iany, r_rg1, r_rg2, r_yes, r_frz, r_call, r_F, r_sif, r_snil, r_pass, r_break, r_cont, r_no, r_ret, r_retN, r_retNone, r_drop, r_dropN, r_asg, r_asgN, r_aug, r_stup, r_app, r_ext, r_setix, r_for, r_retOwn, wE_nComp, wE_ok, wS_nx, wS_rt, wS_bk, wS_ct, wS_seq, wV_d, wV_l, wO_d, wO_l, wL_some, wL_ite, wL_map, cB_true, cB_false, cB_not, wZ_d, wZ_l, wTk_some, wT_some, wipeE, tk_nil, tk_v, tk_s, putA, mask, d1, d2, tyD, okS_d, okS_l, lOf, asI, Option.isSome_some, Option.getD_some, Option.map_some, List.getElem?_cons_zero, List.getElem?_cons_succ, List.set_cons_zero, List.set_cons_succ, List.replicate_succ, List.replicate_zero, List.cons_append, List.nil_append, List.not_mem_nil, List.mem_cons, or_false, not_false_eq_true, true_and, decide_true, if_true, if_false, reduceIte, Nat.reduceEqDiff, Nat.reduceAdd, Nat.reduceSub, Nat.reduceLeDiff, Nat.reduceLT, Int.reduceLT, Int.reduceLE, Int.reduceAdd, Int.reduceSub, Int.reduceEq, Int.reduceNeg, Nat.reduceMul, decide_false, Bool.not_true, Bool.not_false, and_true, true_or, or_true, Int.reduceMul, Int.reduceToNat, Nat.reducePow, Int.reducePow, Nat.not_lt_zero, l_addI, l_addS, l_addL, l_addT, l_sub, l_div, l_mod, l_mulI, l_mulS, l_mulL, l_eqI, l_eqS, l_neI, l_neS, l_ltI, l_leI, l_gtI, l_geI, l_ltS, l_leS, l_gtS, l_geS, l_truI, l_truB, l_truL, l_truT, l_truN, l_truS, l_lenS, l_lenL, l_lenT, l_intI, l_absI, l_tupL, l_tupT, l_itL, l_itT, l_itS, l_rg1, l_rg2, l_ixL, l_ixT, l_ixS, at_0, at_1, at_2, at_3, set_0, set_1, set_2, set_3, List.length_cons, List.length_nil, Int.cast_ofNat_Int, Int.natCast_one, tgD_n, tgD_t, tgA_nil, tgA_cons, Option.bind_some, l_isSS, l_isST, l_isSL, l_isSI, l_isTT, l_isTS, l_isTL, l_isTI, l_isII, l_isBI, l_isLL, l_ord, draw_eq, okS_stt h5]
      refine draw_ok h5 (by omega) (by omega) fun v s4 v0 v1 h6 => ?_
      simp only [r_lft, r_var, r_own, r_c, r_bin, r_binO, r_cmp, r_tcmp, r_tcmpO, r_tru, r_tand, r_tor, r_tnot, r_eif, r_nif, r_and, r_or, r_not, r_neg, r_cb, r_ncb, r_bm, r_bm0, r_tup, r_lst, r_anil, r_acons, r_aone, r_vnil, r_vcons, r_vslot, r_sl, r_onone, r_osome, r_chain, r_tchain, r_isi, r_iany, r_rg1, r_rg2, r_yes, r_frz, r_call, r_F, r_sif, r_snil, r_pass, r_break, r_cont, r_no, r_ret, r_retN, r_retNone, r_drop, r_dropN, r_asg, r_asgN, r_aug, r_stup, r_app, r_ext, r_setix, r_for, r_retOwn, wE_nComp, wE_ok, wS_nx, wS_rt, wS_bk, wS_ct, wS_seq, wV_d, wV_l, wO_d, wO_l, wL_some, wL_ite, wL_map, cB_true, cB_false, cB_not, wZ_d, wZ_l, wTk_some, wT_some, wipeE, tk_nil, tk_v, tk_s, putA, mask, d1, d2, tyD, okS_d, okS_l, lOf, asI, Option.isSome_some, Option.getD_some, Option.map_some, List.getElem?_cons_zero, List.getElem?_cons_succ, List.set_cons_zero, List.set_cons_succ, List.replicate_succ, List.replicate_zero, List.cons_append, List.nil_append, List.not_mem_nil, List.mem_cons, or_false, not_false_eq_true, true_and, decide_true, if_true, if_false, reduceIte, Nat.reduceEqDiff, Nat.reduceAdd, Nat.reduceSub, Nat.reduceLeDiff, Nat.reduceLT, Int.reduceLT, Int.reduceLE, Int.reduceAdd, Int.reduceSub, Int.reduceEq, Int.reduceNeg, Nat.reduceMul, decide_false, Bool.not_true, Bool.not_false, and_true, true_or, or_true, Int.reduceMul, Int.reduceToNat, Nat.reducePow, Int.reducePow, Nat.not_lt_zero, l_addI, l_addS, l_addL, l_addT, l_sub, l_div, l_mod, l_mulI, l_mulS, l_mulL, l_eqI, l_eqS, l_neI, l_neS, l_ltI, l_leI, l_gtI, l_geI, l_ltS, l_leS, l_gtS, l_geS, l_truI, l_truB, l_truL, l_truT, l_truN, l_truS, l_lenS, l_lenL, l_lenT, l_intI, l_absI, l_tupL, l_tupT, l_itL, l_itT, l_itS, l_rg1, l_rg2, l_ixL, l_ixT, l_ixS, at_0, at_1, at_2, at_3, set_0, set_1, set_2, set_3, List.length_cons, List.length_nil, Int.cast_ofNat_Int, Int.natCast_one, tgD_n, tgD_t, tgA_nil, tgA_cons, Option.bind_some, l_isSS, l_isST, l_isSL, l_isSI, l_isTT, l_isTS, l_isTL, l_isTI, l_isII, l_isBI, l_isLL, l_ord]
      have up : Txt.upper ⟨#[c]⟩ = S [PyProof.Rows.up1 c] := SX.upper_S (a := [c]) (by simp; omega)
      have hu : low (PyProof.Rows.up1 c) = c ∧ ((65 ≤ PyProof.Rows.up1 c ∧ PyProof.Rows.up1 c ≤ 90) ∨ (97 ≤ PyProof.Rows.up1 c ∧ PyProof.Rows.up1 c ≤ 122) ∨ PyProof.Rows.up1 c = 45) := by
        rcases hcc with h | h
        · have e : PyProof.Rows.up1 c = c - 32 := if_pos h
          rw [e]
          exact ⟨by unfold low; rw [if_pos (by omega)]; omega, by omega⟩
        · subst h; exact ⟨rfl, .inr (.inr rfl)⟩
      have hc2 : low c = c := by unfold low; rw [if_neg (by omega)]
      refine cB_dec (fun z => ?_) fun z => ?_
      · have e0 : dUpper (.str ⟨#[c]⟩) [] = some (.str (Txt.upper ⟨#[c]⟩)) := rfl
        simp only [r_lft, r_var, r_own, r_c, r_bin, r_binO, r_cmp, r_tcmp, r_tcmpO, r_tru, r_tand, r_tor, r_tnot, r_eif, r_nif, r_and, r_or, r_not, r_neg, r_cb, r_ncb, r_bm, r_bm0, r_tup, r_lst, r_anil, r_acons, r_aone, r_vnil, r_vcons, r_vslot, r_sl, r_onone, r_osome, r_chain, r_tchain, r_isi, r_iany, r_rg1, r_rg2, r_yes, r_frz, r_call, r_F, r_sif, r_snil, r_pass, r_break, r_cont, r_no, r_ret, r_retN, r_retNone, r_drop, r_dropN, r_asg, r_asgN, r_aug, r_stup, r_app, r_ext, r_setix, r_for, r_retOwn, wE_nComp, wE_ok, wS_nx, wS_rt, wS_bk, wS_ct, wS_seq, wV_d, wV_l, wO_d, wO_l, wL_some, wL_ite, wL_map, cB_true, cB_false, cB_not, wZ_d, wZ_l, wTk_some, wT_some, wipeE, tk_nil, tk_v, tk_s, putA, mask, d1, d2, tyD, okS_d, okS_l, lOf, asI, Option.isSome_some, Option.getD_some, Option.map_some, List.getElem?_cons_zero, List.getElem?_cons_succ, List.set_cons_zero, List.set_cons_succ, List.replicate_succ, List.replicate_zero, List.cons_append, List.nil_append, List.not_mem_nil, List.mem_cons, or_false, not_false_eq_true, true_and, decide_true, if_true, if_false, reduceIte, Nat.reduceEqDiff, Nat.reduceAdd, Nat.reduceSub, Nat.reduceLeDiff, Nat.reduceLT, Int.reduceLT, Int.reduceLE, Int.reduceAdd, Int.reduceSub, Int.reduceEq, Int.reduceNeg, Nat.reduceMul, decide_false, Bool.not_true, Bool.not_false, and_true, true_or, or_true, Int.reduceMul, Int.reduceToNat, Nat.reducePow, Int.reducePow, Nat.not_lt_zero, l_addI, l_addS, l_addL, l_addT, l_sub, l_div, l_mod, l_mulI, l_mulS, l_mulL, l_eqI, l_eqS, l_neI, l_neS, l_ltI, l_leI, l_gtI, l_geI, l_ltS, l_leS, l_gtS, l_geS, l_truI, l_truB, l_truL, l_truT, l_truN, l_truS, l_lenS, l_lenL, l_lenT, l_intI, l_absI, l_tupL, l_tupT, l_itL, l_itT, l_itS, l_rg1, l_rg2, l_ixL, l_ixT, l_ixS, at_0, at_1, at_2, at_3, set_0, set_1, set_2, set_3, List.length_cons, List.length_nil, Int.cast_ofNat_Int, Int.natCast_one, tgD_n, tgD_t, tgA_nil, tgA_cons, Option.bind_some, l_isSS, l_isST, l_isSL, l_isSI, l_isTT, l_isTS, l_isTL, l_isTI, l_isII, l_isBI, l_isLL, l_ord, e0, up, S_app, S_len]
        refine ⟨by omega, dn ++ [c], rest, N ++ [PyProof.Rows.up1 c], s4, _, by rw [h1]; simp, rfl, by rw [List.map_append, h3, List.map_cons, hu.1]; rfl, fun d hd => ?_, h6, rfl⟩
        rcases List.mem_append.mp hd with w | w
        · exact h4 d w
        · rw [List.mem_singleton.mp w]; exact hu.2
      · simp only [r_lft, r_var, r_own, r_c, r_bin, r_binO, r_cmp, r_tcmp, r_tcmpO, r_tru, r_tand, r_tor, r_tnot, r_eif, r_nif, r_and, r_or, r_not, r_neg, r_cb, r_ncb, r_bm, r_bm0, r_tup, r_lst, r_anil, r_acons, r_aone, r_vnil, r_vcons, r_vslot, r_sl, r_onone, r_osome, r_chain, r_tchain, r_isi, r_iany, r_rg1, r_rg2, r_yes, r_frz, r_call, r_F, r_sif, r_snil, r_pass, r_break, r_cont, r_no, r_ret, r_retN, r_retNone, r_drop, r_dropN, r_asg, r_asgN, r_aug, r_stup, r_app, r_ext, r_setix, r_for, r_retOwn, wE_nComp, wE_ok, wS_nx, wS_rt, wS_bk, wS_ct, wS_seq, wV_d, wV_l, wO_d, wO_l, wL_some, wL_ite, wL_map, cB_true, cB_false, cB_not, wZ_d, wZ_l, wTk_some, wT_some, wipeE, tk_nil, tk_v, tk_s, putA, mask, d1, d2, tyD, okS_d, okS_l, lOf, asI, Option.isSome_some, Option.getD_some, Option.map_some, List.getElem?_cons_zero, List.getElem?_cons_succ, List.set_cons_zero, List.set_cons_succ, List.replicate_succ, List.replicate_zero, List.cons_append, List.nil_append, List.not_mem_nil, List.mem_cons, or_false, not_false_eq_true, true_and, decide_true, if_true, if_false, reduceIte, Nat.reduceEqDiff, Nat.reduceAdd, Nat.reduceSub, Nat.reduceLeDiff, Nat.reduceLT, Int.reduceLT, Int.reduceLE, Int.reduceAdd, Int.reduceSub, Int.reduceEq, Int.reduceNeg, Nat.reduceMul, decide_false, Bool.not_true, Bool.not_false, and_true, true_or, or_true, Int.reduceMul, Int.reduceToNat, Nat.reducePow, Int.reducePow, Nat.not_lt_zero, l_addI, l_addS, l_addL, l_addT, l_sub, l_div, l_mod, l_mulI, l_mulS, l_mulL, l_eqI, l_eqS, l_neI, l_neS, l_ltI, l_leI, l_gtI, l_geI, l_ltS, l_leS, l_gtS, l_geS, l_truI, l_truB, l_truL, l_truT, l_truN, l_truS, l_lenS, l_lenL, l_lenT, l_intI, l_absI, l_tupL, l_tupT, l_itL, l_itT, l_itS, l_rg1, l_rg2, l_ixL, l_ixT, l_ixS, at_0, at_1, at_2, at_3, set_0, set_1, set_2, set_3, List.length_cons, List.length_nil, Int.cast_ofNat_Int, Int.natCast_one, tgD_n, tgD_t, tgA_nil, tgA_cons, Option.bind_some, l_isSS, l_isST, l_isSL, l_isSI, l_isTT, l_isTS, l_isTL, l_isTI, l_isII, l_isBI, l_isLL, l_ord, S_len, show (⟨#[c]⟩ : Str) = S [c] from rfl, S_app]
        refine ⟨by omega, dn ++ [c], rest, N ++ [c], s4, _, by rw [h1]; simp, rfl, by rw [List.map_append, h3, List.map_cons, hc2]; rfl, fun d hd => ?_, h6, rfl⟩
        rcases List.mem_append.mp hd with w | w
        · exact h4 d w
        · rw [List.mem_singleton.mp w]; exact .inr hcc
  · rintro e ⟨dn, rest, N, s2, s3, h1, h2, h3, h4, h5, rfl⟩
    have hr : rest = [] := by cases rest with
      | nil => rfl
      | cons c r => cases h2
    subst hr
    rw [List.append_nil] at h1
    subst h1
    simp only [r_lft, r_var, r_own, r_c, r_bin, r_binO, r_cmp, r_tcmp, r_tcmpO, r_tru, r_tand, r_tor, r_tnot, r_eif, r_nif, r_and, r_or, r_not, r_neg, r_cb, r_ncb, r_bm, r_bm0, r_tup, r_lst, r_anil, r_acons, r_aone, r_vnil, r_vcons, r_vslot, r_sl, r_onone, r_osome, r_chain, r_tchain, r_isi, r_iany, r_rg1, r_rg2, r_yes, r_frz, r_call, r_F, r_sif, r_snil, r_pass, r_break, r_cont, r_no, r_ret, r_retN, r_retNone, r_drop, r_dropN, r_asg, r_asgN, r_aug, r_stup, r_app, r_ext, r_setix, r_for, r_retOwn, wE_nComp, wE_ok, wS_nx, wS_rt, wS_bk, wS_ct, wS_seq, wV_d, wV_l, wO_d, wO_l, wL_some, wL_ite, wL_map, cB_true, cB_false, cB_not, wZ_d, wZ_l, wTk_some, wT_some, wipeE, tk_nil, tk_v, tk_s, putA, mask, d1, d2, tyD, okS_d, okS_l, lOf, asI, Option.isSome_some, Option.getD_some, Option.map_some, List.getElem?_cons_zero, List.getElem?_cons_succ, List.set_cons_zero, List.set_cons_succ, List.replicate_succ, List.replicate_zero, List.cons_append, List.nil_append, List.not_mem_nil, List.mem_cons, or_false, not_false_eq_true, true_and, decide_true, if_true, if_false, reduceIte, Nat.reduceEqDiff, Nat.reduceAdd, Nat.reduceSub, Nat.reduceLeDiff, Nat.reduceLT, Int.reduceLT, Int.reduceLE, Int.reduceAdd, Int.reduceSub, Int.reduceEq, Int.reduceNeg, Nat.reduceMul, decide_false, Bool.not_true, Bool.not_false, and_true, true_or, or_true, Int.reduceMul, Int.reduceToNat, Nat.reducePow, Int.reducePow, Nat.not_lt_zero, l_addI, l_addS, l_addL, l_addT, l_sub, l_div, l_mod, l_mulI, l_mulS, l_mulL, l_eqI, l_eqS, l_neI, l_neS, l_ltI, l_leI, l_gtI, l_geI, l_ltS, l_leS, l_gtS, l_geS, l_truI, l_truB, l_truL, l_truT, l_truN, l_truS, l_lenS, l_lenL, l_lenT, l_intI, l_absI, l_tupL, l_tupT, l_itL, l_itT, l_itS, l_rg1, l_rg2, l_ixL, l_ixT, l_ixS, at_0, at_1, at_2, at_3, set_0, set_1, set_2, set_3, List.length_cons, List.length_nil, Int.cast_ofNat_Int, Int.natCast_one, tgD_n, tgD_t, tgA_nil, tgA_cons, Option.bind_some, l_isSS, l_isST, l_isSL, l_isSI, l_isTT, l_isTS, l_isTL, l_isTI, l_isII, l_isBI, l_isLL, l_ord]
    exact k N s2 h3 h4 h5
/-! ### looser texts -/
theorem Reads.trans {a b c : List (T × T)} {r1 r2 : List T} (h : Reads b a r1) (k : Reads c b r2) : Reads c a (r1 ++ r2) := by
  induction h with
  | nil => exact k
  | new h1 h2 h3 h4 h5 h6 h7 h8 ih => exact .new h1 h2 h3 h4 h5 h6 h7 ih
  | more h1 h2 h3 h9 h4 h5 h6 h7 h8 ih => exact .more h1 h2 h3 h9 h4 h5 h6 h7 ih
def bl (k : Nat) : T := List.replicate k 32
theorem rep_bl (v : Int) : repS (Str.ofString " ") v = S (bl v.toNat) := by
  unfold repS bl
  rw [show (Str.ofString " ").cps.toList = [32] from rfl]
  refine congrArg Str.mk (congrArg List.toArray ?_)
  generalize v.toNat = k
  induction k with
  | zero => rfl
  | succ k ih => rw [List.replicate_succ, List.replicate_succ, List.flatten_cons, ih]; rfl
def strip1 (l : T) : T := (Txt.stripChars (S l) (Str.ofString " ")).cps.toList
/-- one row: all blanks that may stand around a value; two rows: a value parted at its first blank -/
def oneAll : Bool := SVALS.all fun v => (List.range 3).all fun i => (List.range 2).all fun j => decide (Txt.stripChars (S (bl i ++ v ++ bl j)) (Str.ofString " ") = S v) && (bl i ++ v ++ bl j).all fun c => decide (32 ≤ c ∧ c ≤ 126 ∧ c ≠ 37)
theorem oneAll_ok : oneAll = true := by decide +kernel
def cutOf (v : T) : Nat := (v.takeWhile (· ≠ 32)).length
def twoAll : Bool := SVALS.all fun v => !(decide (0 < cutOf v ∧ cutOf v < v.length) && decide (v[cutOf v + 1]? ≠ some 32)) || ((List.range 3).all fun i => (List.range 2).all fun j => (List.range 2).all fun k => (List.range 2).all fun m =>
  let a := v.take (cutOf v)
  let b := v.drop (cutOf v + 1)
  decide (Txt.stripChars (S (bl i ++ a ++ bl j)) (Str.ofString " ") = S a) && (okVal a && (decide (Txt.stripChars (S (bl (1 + k) ++ b ++ bl m)) (Str.ofString " ") = S b) && (decide (b ≠ []) && (decide (Txt.stripChars (S (a ++ [32] ++ b)) (Str.ofString " ") = S v) && ((bl i ++ a ++ bl j).all (fun c => decide (32 ≤ c ∧ c ≤ 126 ∧ c ≠ 37)) && okLine (bl (1 + k) ++ b ++ bl m)))))))
theorem twoAll_ok : twoAll = true := by decide +kernel
def findAll : Bool := SVALS.all fun v => decide (Txt.find (S v) (Str.ofString " ") = if cutOf v < v.length then (cutOf v : Int) else -1)
theorem findAll_ok : findAll = true := by decide +kernel
def ixAll : Bool := SVALS.all fun v => !decide (cutOf v < v.length) || decide (cutOf v + 1 < v.length)
theorem ixAll_ok : ixAll = true := by decide +kernel
theorem svals_len : SVALS.all (fun v => decide (v.length ≤ 5)) = true := by decide +kernel
theorem cut_to {l : T} {k : Nat} (h : k ≤ l.length) : cutS (S l) none (some (k : Int)) = S (l.take k) := by
  unfold cutS
  rw [HT.sIx_none, HT.sIx_nat, S_len, Nat.min_eq_left h]
  simp
theorem cut_from {l : T} {k : Nat} (h : k ≤ l.length) : cutS (S l) (some (k : Int)) none = S (l.drop k) := by
  unfold cutS
  rw [HT.sIx_none, HT.sIx_nat, S_len, Nat.min_eq_left h]
  refine congrArg Str.mk (congrArg List.toArray ?_)
  show List.take (l.length - k) (List.drop k l) = List.drop k l
  rw [List.take_of_length_le (by rw [List.length_drop]; omega)]
def elseSt : BV.Env → RS := (sApp 2 (eBin dAdd (eBin dAdd (eBin dAdd (eVar 5) (eBin dMul (eC (.str " ")) (fun env => frz ((eCall false m__law_draw (vSlot 0 (vCons (eC (.int 3)) vNil))) env)))) (eOwn 4)) (eBin dMul (eC (.str " ")) (fun env => frz ((eCall false m__law_draw (vSlot 0 (vCons (eC (.int 2)) vNil))) env)))))
theorem sp_len : (Str.ofString " ").length = 1 := rfl
theorem bl_len (k : Nat) : (bl k).length = k := List.length_replicate
theorem nat_of {v b : Int} (h0 : 0 ≤ v) (h1 : v < b) : ∃ i : Nat, v = (i : Int) ∧ (i : Int) < b := ⟨v.toNat, by omega, by omega⟩
end K01

namespace K01
open PySem PySem.Spec PyProof.Rows L2 BV
theorem else_ok {s L q3 : Sl} {at_ : D} {rows : List T} {N v : T} {Nn B C : BV.Env → Prop} {R : Sl → BV.Env → Prop} (hs : Stt s) (hN : N.length ≤ 20) (hv : v.length ≤ 5) (hr : rows.length ≤ 80)
    (k : ∀ (i j : Nat) s', i < 3 → j < 2 → Stt s' → Nn [s', L, .l ((rows ++ [N ++ 58 :: (bl i ++ v ++ bl j)]).map ln), q3, .d (.str (S v)), .d (.str (S (N ++ [58]))), .d at_]) :
    wS (elseSt [s, L, .l (rows.map ln), q3, .d (.str (S v)), .d (.str (S (N ++ [58]))), .d at_]) Nn R B C := by
  simp only [elseSt, r_lft, r_var, r_own, r_c, r_bin, r_binO, r_cmp, r_tcmp, r_tcmpO, r_tru, r_tand, r_tor, r_tnot, r_eif, r_nif, r_and, r_or, r_not, r_neg, r_cb, r_ncb, r_bm, r_bm0, r_tup, r_lst, r_anil, r_acons, r_aone, r_vnil, r_vcons, r_vslot, r_sl, r_onone, r_osome, r_chain, r_tchain, r_isi, r_iany, r_rg1, r_rg2, r_yes, r_frz, r_call, r_F, r_sif, r_snil, r_pass, r_break, r_cont, r_no, r_ret, r_retN, r_retNone, r_drop, r_dropN, r_asg, r_asgN, r_aug, r_stup, r_app, r_ext, r_setix, r_for, r_retOwn, wE_nComp, wE_ok, wS_nx, wS_rt, wS_bk, wS_ct, wS_seq, wV_d, wV_l, wO_d, wO_l, wL_some, wL_ite, wL_map, cB_true, cB_false, cB_not, wZ_d, wZ_l, wTk_some, wT_some, wipeE, tk_nil, tk_v, tk_s, putA, mask, d1, d2, tyD, okS_d, okS_l, lOf, asI, Option.isSome_some, Option.getD_some, Option.map_some, List.getElem?_cons_zero, List.getElem?_cons_succ, List.set_cons_zero, List.set_cons_succ, List.replicate_succ, List.replicate_zero, List.cons_append, List.nil_append, List.not_mem_nil, List.mem_cons, or_false, not_false_eq_true, true_and, decide_true, if_true, if_false, reduceIte, Nat.reduceEqDiff, Nat.reduceAdd, Nat.reduceSub, Nat.reduceLeDiff, Nat.reduceLT, Int.reduceLT, Int.reduceLE, Int.reduceAdd, Int.reduceSub, Int.reduceEq, Int.reduceNeg, Nat.reduceMul, decide_false, Bool.not_true, Bool.not_false, and_true, true_or, or_true, Int.reduceMul, Int.reduceToNat, Nat.reducePow, Int.reducePow, Nat.not_lt_zero, l_addI, l_addS, l_addL, l_addT, l_sub, l_div, l_mod, l_mulI, l_mulS, l_mulL, l_eqI, l_eqS, l_neI, l_neS, l_ltI, l_leI, l_gtI, l_geI, l_ltS, l_leS, l_gtS, l_geS, l_truI, l_truB, l_truL, l_truT, l_truN, l_truS, l_lenS, l_lenL, l_lenT, l_intI, l_absI, l_tupL, l_tupT, l_itL, l_itT, l_itS, l_rg1, l_rg2, l_ixL, l_ixT, l_ixS, at_0, at_1, at_2, at_3, set_0, set_1, set_2, set_3, List.length_cons, List.length_nil, Int.cast_ofNat_Int, Int.natCast_one, tgD_n, tgD_t, tgA_nil, tgA_cons, Option.bind_some, l_isSS, l_isST, l_isSL, l_isSI, l_isTT, l_isTS, l_isTL, l_isTI, l_isII, l_isBI, l_isLL, l_ord, draw_eq, okS_stt hs]
  refine draw_ok hs (by omega) (by omega) fun u1 s1 a0 a1 hs1 => ?_
  simp only [r_lft, r_var, r_own, r_c, r_bin, r_binO, r_cmp, r_tcmp, r_tcmpO, r_tru, r_tand, r_tor, r_tnot, r_eif, r_nif, r_and, r_or, r_not, r_neg, r_cb, r_ncb, r_bm, r_bm0, r_tup, r_lst, r_anil, r_acons, r_aone, r_vnil, r_vcons, r_vslot, r_sl, r_onone, r_osome, r_chain, r_tchain, r_isi, r_iany, r_rg1, r_rg2, r_yes, r_frz, r_call, r_F, r_sif, r_snil, r_pass, r_break, r_cont, r_no, r_ret, r_retN, r_retNone, r_drop, r_dropN, r_asg, r_asgN, r_aug, r_stup, r_app, r_ext, r_setix, r_for, r_retOwn, wE_nComp, wE_ok, wS_nx, wS_rt, wS_bk, wS_ct, wS_seq, wV_d, wV_l, wO_d, wO_l, wL_some, wL_ite, wL_map, cB_true, cB_false, cB_not, wZ_d, wZ_l, wTk_some, wT_some, wipeE, tk_nil, tk_v, tk_s, putA, mask, d1, d2, tyD, okS_d, okS_l, lOf, asI, Option.isSome_some, Option.getD_some, Option.map_some, List.getElem?_cons_zero, List.getElem?_cons_succ, List.set_cons_zero, List.set_cons_succ, List.replicate_succ, List.replicate_zero, List.cons_append, List.nil_append, List.not_mem_nil, List.mem_cons, or_false, not_false_eq_true, true_and, decide_true, if_true, if_false, reduceIte, Nat.reduceEqDiff, Nat.reduceAdd, Nat.reduceSub, Nat.reduceLeDiff, Nat.reduceLT, Int.reduceLT, Int.reduceLE, Int.reduceAdd, Int.reduceSub, Int.reduceEq, Int.reduceNeg, Nat.reduceMul, decide_false, Bool.not_true, Bool.not_false, and_true, true_or, or_true, Int.reduceMul, Int.reduceToNat, Nat.reducePow, Int.reducePow, Nat.not_lt_zero, l_addI, l_addS, l_addL, l_addT, l_sub, l_div, l_mod, l_mulI, l_mulS, l_mulL, l_eqI, l_eqS, l_neI, l_neS, l_ltI, l_leI, l_gtI, l_geI, l_ltS, l_leS, l_gtS, l_geS, l_truI, l_truB, l_truL, l_truT, l_truN, l_truS, l_lenS, l_lenL, l_lenT, l_intI, l_absI, l_tupL, l_tupT, l_itL, l_itT, l_itS, l_rg1, l_rg2, l_ixL, l_ixT, l_ixS, at_0, at_1, at_2, at_3, set_0, set_1, set_2, set_3, List.length_cons, List.length_nil, Int.cast_ofNat_Int, Int.natCast_one, tgD_n, tgD_t, tgA_nil, tgA_cons, Option.bind_some, l_isSS, l_isST, l_isSL, l_isSI, l_isTT, l_isTS, l_isTL, l_isTI, l_isII, l_isBI, l_isLL, l_ord, okS_stt hs1, rep_bl, S_app, S_len, sp_len, bl_len, List.length_append]
  refine ⟨by omega, by omega, by omega, ?_⟩
  refine draw_ok hs1 (by omega) (by omega) fun u2 s2 b0 b1 hs2 => ?_
  simp only [r_lft, r_var, r_own, r_c, r_bin, r_binO, r_cmp, r_tcmp, r_tcmpO, r_tru, r_tand, r_tor, r_tnot, r_eif, r_nif, r_and, r_or, r_not, r_neg, r_cb, r_ncb, r_bm, r_bm0, r_tup, r_lst, r_anil, r_acons, r_aone, r_vnil, r_vcons, r_vslot, r_sl, r_onone, r_osome, r_chain, r_tchain, r_isi, r_iany, r_rg1, r_rg2, r_yes, r_frz, r_call, r_F, r_sif, r_snil, r_pass, r_break, r_cont, r_no, r_ret, r_retN, r_retNone, r_drop, r_dropN, r_asg, r_asgN, r_aug, r_stup, r_app, r_ext, r_setix, r_for, r_retOwn, wE_nComp, wE_ok, wS_nx, wS_rt, wS_bk, wS_ct, wS_seq, wV_d, wV_l, wO_d, wO_l, wL_some, wL_ite, wL_map, cB_true, cB_false, cB_not, wZ_d, wZ_l, wTk_some, wT_some, wipeE, tk_nil, tk_v, tk_s, putA, mask, d1, d2, tyD, okS_d, okS_l, lOf, asI, Option.isSome_some, Option.getD_some, Option.map_some, List.getElem?_cons_zero, List.getElem?_cons_succ, List.set_cons_zero, List.set_cons_succ, List.replicate_succ, List.replicate_zero, List.cons_append, List.nil_append, List.not_mem_nil, List.mem_cons, or_false, not_false_eq_true, true_and, decide_true, if_true, if_false, reduceIte, Nat.reduceEqDiff, Nat.reduceAdd, Nat.reduceSub, Nat.reduceLeDiff, Nat.reduceLT, Int.reduceLT, Int.reduceLE, Int.reduceAdd, Int.reduceSub, Int.reduceEq, Int.reduceNeg, Nat.reduceMul, decide_false, Bool.not_true, Bool.not_false, and_true, true_or, or_true, Int.reduceMul, Int.reduceToNat, Nat.reducePow, Int.reducePow, Nat.not_lt_zero, l_addI, l_addS, l_addL, l_addT, l_sub, l_div, l_mod, l_mulI, l_mulS, l_mulL, l_eqI, l_eqS, l_neI, l_neS, l_ltI, l_leI, l_gtI, l_geI, l_ltS, l_leS, l_gtS, l_geS, l_truI, l_truB, l_truL, l_truT, l_truN, l_truS, l_lenS, l_lenL, l_lenT, l_intI, l_absI, l_tupL, l_tupT, l_itL, l_itT, l_itS, l_rg1, l_rg2, l_ixL, l_ixT, l_ixS, at_0, at_1, at_2, at_3, set_0, set_1, set_2, set_3, List.length_cons, List.length_nil, Int.cast_ofNat_Int, Int.natCast_one, tgD_n, tgD_t, tgA_nil, tgA_cons, Option.bind_some, l_isSS, l_isST, l_isSL, l_isSI, l_isTT, l_isTS, l_isTL, l_isTI, l_isII, l_isBI, l_isLL, l_ord, rep_bl, S_app, S_len, sp_len, bl_len, List.length_append, l_app, List.length_map]
  refine ⟨by omega, by omega, by omega, ?_⟩
  have e : rows.map ln ++ [PyData.str (S (N ++ [58] ++ bl u1.toNat ++ v ++ bl u2.toNat))] = (rows ++ [N ++ 58 :: (bl u1.toNat ++ v ++ bl u2.toNat)]).map ln := by simp [ln]
  rw [e]
  exact k u1.toNat u2.toNat s2 (by omega) (by omega) hs2
theorem okLine_of {l : T} (h1 : l.length ≤ 200) (h2 : ∀ c ∈ l, 32 ≤ c ∧ c ≤ 126 ∧ c ≠ 37) : okLine l = true := by
  unfold okLine
  rw [decide_eq_true h1, Bool.true_and, List.all_eq_true]
  exact fun c hc => decide_eq_true (h2 c hc)
structure NameAs (N n : T) : Prop where
  m : N.map low = n
  c : ∀ c ∈ N, (65 ≤ c ∧ c ≤ 90) ∨ (97 ≤ c ∧ c ≤ 122) ∨ c = 45
  o : okName n = true
theorem NameAs.len {N n : T} (h : NameAs N n) : N.length ≤ 20 := by
  have := name_len h.o
  rw [← h.m, List.length_map] at this
  exact this
theorem one_row {cur : List (T × T)} {N n a : T} {i j : Nat} (h : NameAs N n) (hi : i < 3) (hj : j < 2) (ha : a.length ≤ 5) (h1 : Txt.stripChars (S (bl i ++ a ++ bl j)) (Str.ofString " ") = S a) (h2 : okVal a = true) (h3 : ∀ c ∈ bl i ++ a ++ bl j, 32 ≤ c ∧ c ≤ 126 ∧ c ≠ 37) (hc : cur.length < 40) : Reads (cur ++ [(n, a)]) cur [N ++ 58 :: (bl i ++ a ++ bl j)] := by
  have hl := h.len
  have hm := h.m
  subst hm
  refine .new (okLine_of ?_ fun c hcc => ?_) (fun z => ?_) (fun c hcc => ?_) h.o h1 h2 hc .nil
  · simp only [List.length_append, List.length_cons, bl_len]; omega
  · rcases List.mem_append.mp hcc with z | z
    · have := h.c c z; omega
    · rcases List.mem_cons.mp z with rfl | z
      · omega
      · exact h3 c z
  · have := h.c 58 z; omega
  · have := h.c c (List.mem_of_mem_head? hcc); omega
theorem two_rows {cur : List (T × T)} {N n a b v : T} {i j k m : Nat} (h : NameAs N n) (hi : i < 3) (hj : j < 2) (ha : a.length ≤ 5) (hb : b.length ≤ 5) (h1 : Txt.stripChars (S (bl i ++ a ++ bl j)) (Str.ofString " ") = S a) (h2 : okVal a = true) (h3 : ∀ c ∈ bl i ++ a ++ bl j, 32 ≤ c ∧ c ≤ 126 ∧ c ≠ 37)
    (h4 : Txt.stripChars (S (bl (1 + k) ++ b ++ bl m)) (Str.ofString " ") = S b) (h5 : b ≠ []) (h6 : Txt.stripChars (S (a ++ [32] ++ b)) (Str.ofString " ") = S v) (h7 : okVal v = true) (h8 : okLine (bl (1 + k) ++ b ++ bl m) = true) (hc : cur.length < 40) : Reads (cur ++ [(n, v)]) cur [N ++ 58 :: (bl i ++ a ++ bl j), bl (1 + k) ++ b ++ bl m] := by
  have r1 := one_row (cur := cur) h hi hj ha h1 h2 h3 hc
  have e : bl (1 + k) ++ b ++ bl m = 32 :: (bl k ++ b ++ bl m) := by unfold bl; rw [Nat.add_comm, List.replicate_succ]; rfl
  rw [e] at h4 h8 ⊢
  exact r1.trans (.more h8 h4 h5 (by omega) h6 h2 h7 hc .nil)
theorem l_find {a b : Str} : dFind (.str a) [.str b] = some (.int (Txt.find a b)) := rfl
theorem S_one (c : Nat) : (⟨#[c]⟩ : Str) = S [c] := rfl
theorem loose_ok {s : Sl} {hs : List (T × T)} {ls : List T} (hs0 : Stt s) (hn : ∀ p ∈ hs, p.1 ∈ NAMES ∧ p.2 ∈ SVALS) (hl : hs.length ≤ 40) (h3 : ls.length ≤ 40) (h4 : ∀ l ∈ ls, l ∈ LINES) {Q : Sl → List Sl → Prop}
    (k : ∀ rows s', Reads hs [] rows → (flat rows).length ≤ 1600 → Stt s' → Q (.d (.str (S (flat rows ++ 10 :: flat ls)))) [s', .un]) : wF (m__law_loose [s, .d (LD hs ls)]) Q := by
  refine wF_run rfl ?_
  simp only [b__law_loose, LD, r_lft, r_var, r_own, r_c, r_bin, r_binO, r_cmp, r_tcmp, r_tcmpO, r_tru, r_tand, r_tor, r_tnot, r_eif, r_nif, r_and, r_or, r_not, r_neg, r_cb, r_ncb, r_bm, r_bm0, r_tup, r_lst, r_anil, r_acons, r_aone, r_vnil, r_vcons, r_vslot, r_sl, r_onone, r_osome, r_chain, r_tchain, r_isi, r_iany, r_rg1, r_rg2, r_yes, r_frz, r_call, r_F, r_sif, r_snil, r_pass, r_break, r_cont, r_no, r_ret, r_retN, r_retNone, r_drop, r_dropN, r_asg, r_asgN, r_aug, r_stup, r_app, r_ext, r_setix, r_for, r_retOwn, wE_nComp, wE_ok, wS_nx, wS_rt, wS_bk, wS_ct, wS_seq, wV_d, wV_l, wO_d, wO_l, wL_some, wL_ite, wL_map, cB_true, cB_false, cB_not, wZ_d, wZ_l, wTk_some, wT_some, wipeE, tk_nil, tk_v, tk_s, putA, mask, d1, d2, tyD, okS_d, okS_l, lOf, asI, Option.isSome_some, Option.getD_some, Option.map_some, List.getElem?_cons_zero, List.getElem?_cons_succ, List.set_cons_zero, List.set_cons_succ, List.replicate_succ, List.replicate_zero, List.cons_append, List.nil_append, List.not_mem_nil, List.mem_cons, or_false, not_false_eq_true, true_and, decide_true, if_true, if_false, reduceIte, Nat.reduceEqDiff, Nat.reduceAdd, Nat.reduceSub, Nat.reduceLeDiff, Nat.reduceLT, Int.reduceLT, Int.reduceLE, Int.reduceAdd, Int.reduceSub, Int.reduceEq, Int.reduceNeg, Nat.reduceMul, decide_false, Bool.not_true, Bool.not_false, and_true, true_or, or_true, Int.reduceMul, Int.reduceToNat, Nat.reducePow, Int.reducePow, Nat.not_lt_zero, l_addI, l_addS, l_addL, l_addT, l_sub, l_div, l_mod, l_mulI, l_mulS, l_mulL, l_eqI, l_eqS, l_neI, l_neS, l_ltI, l_leI, l_gtI, l_geI, l_ltS, l_leS, l_gtS, l_geS, l_truI, l_truB, l_truL, l_truT, l_truN, l_truS, l_lenS, l_lenL, l_lenT, l_intI, l_absI, l_tupL, l_tupT, l_itL, l_itT, l_itS, l_rg1, l_rg2, l_ixL, l_ixT, l_ixS, at_0, at_1, at_2, at_3, set_0, set_1, set_2, set_3, List.length_cons, List.length_nil, Int.cast_ofNat_Int, Int.natCast_one, tgD_n, tgD_t, tgA_nil, tgA_cons, Option.bind_some, l_isSS, l_isST, l_isSL, l_isSI, l_isTT, l_isTS, l_isTL, l_isTI, l_isII, l_isBI, l_isLL, l_ord]
  refine wS_for (fun xs e => ∃ (dn rest : List (T × T)) (rows : List T) (s s3 s4 s5 s6 : Sl), hs = dn ++ rest ∧ xs = rest.map hd ∧ Reads dn [] rows ∧ rows.length ≤ 2 * dn.length ∧ (flat rows).length ≤ 40 * dn.length ∧ Stt s ∧ e = [s, .d (LD hs ls), .l (rows.map ln), s3, s4, s5, s6]) ?_ ?_ _ _ ⟨[], hs, [], s, .un, .un, .un, .un, rfl, rfl, .nil, Nat.le_refl _, Nat.le_refl _, hs0, rfl⟩
  · rintro x r e ⟨dn, rest, rows, s2, q3, q4, q5, q6, e1, e2, e3, e4, e5, e6, rfl⟩
    cases rest with
    | nil => cases e2
    | cons p rest =>
      obtain ⟨n, v⟩ := p
      cases e2
      obtain ⟨pn, pv⟩ := hn (n, v) (by rw [e1]; simp)
      have hdn : dn.length < 40 := by rw [e1, List.length_append, List.length_cons] at hl; omega
      have on : okName n = true := List.all_eq_true.mp names_ok n pn
      have lv := of_decide_eq_true (List.all_eq_true.mp svals_len v pv)
      have f1 := List.all_eq_true.mp oneAll_ok v pv
      have f2 := List.all_eq_true.mp twoAll_ok v pv
      have f3 := of_decide_eq_true (List.all_eq_true.mp findAll_ok v pv)
      have f4 := List.all_eq_true.mp ixAll_ok v pv
      have ov : okVal v = true := List.all_eq_true.mp values_ok v (by unfold VALUES; exact List.mem_append_left _ pv)
      refine ⟨_, rfl, ?_⟩
      simp only [hd, r_lft, r_var, r_own, r_c, r_bin, r_binO, r_cmp, r_tcmp, r_tcmpO, r_tru, r_tand, r_tor, r_tnot, r_eif, r_nif, r_and, r_or, r_not, r_neg, r_cb, r_ncb, r_bm, r_bm0, r_tup, r_lst, r_anil, r_acons, r_aone, r_vnil, r_vcons, r_vslot, r_sl, r_onone, r_osome, r_chain, r_tchain, r_isi, r_iany, r_rg1, r_rg2, r_yes, r_frz, r_call, r_F, r_sif, r_snil, r_pass, r_break, r_cont, r_no, r_ret, r_retN, r_retNone, r_drop, r_dropN, r_asg, r_asgN, r_aug, r_stup, r_app, r_ext, r_setix, r_for, r_retOwn, wE_nComp, wE_ok, wS_nx, wS_rt, wS_bk, wS_ct, wS_seq, wV_d, wV_l, wO_d, wO_l, wL_some, wL_ite, wL_map, cB_true, cB_false, cB_not, wZ_d, wZ_l, wTk_some, wT_some, wipeE, tk_nil, tk_v, tk_s, putA, mask, d1, d2, tyD, okS_d, okS_l, lOf, asI, Option.isSome_some, Option.getD_some, Option.map_some, List.getElem?_cons_zero, List.getElem?_cons_succ, List.set_cons_zero, List.set_cons_succ, List.replicate_succ, List.replicate_zero, List.cons_append, List.nil_append, List.not_mem_nil, List.mem_cons, or_false, not_false_eq_true, true_and, decide_true, if_true, if_false, reduceIte, Nat.reduceEqDiff, Nat.reduceAdd, Nat.reduceSub, Nat.reduceLeDiff, Nat.reduceLT, Int.reduceLT, Int.reduceLE, Int.reduceAdd, Int.reduceSub, Int.reduceEq, Int.reduceNeg, Nat.reduceMul, decide_false, Bool.not_true, Bool.not_false, and_true, true_or, or_true, Int.reduceMul, Int.reduceToNat, Nat.reducePow, Int.reducePow, Nat.not_lt_zero, l_addI, l_addS, l_addL, l_addT, l_sub, l_div, l_mod, l_mulI, l_mulS, l_mulL, l_eqI, l_eqS, l_neI, l_neS, l_ltI, l_leI, l_gtI, l_geI, l_ltS, l_leS, l_gtS, l_geS, l_truI, l_truB, l_truL, l_truT, l_truN, l_truS, l_lenS, l_lenL, l_lenT, l_intI, l_absI, l_tupL, l_tupT, l_itL, l_itT, l_itS, l_rg1, l_rg2, l_ixL, l_ixT, l_ixS, at_0, at_1, at_2, at_3, set_0, set_1, set_2, set_3, List.length_cons, List.length_nil, Int.cast_ofNat_Int, Int.natCast_one, tgD_n, tgD_t, tgA_nil, tgA_cons, Option.bind_some, l_isSS, l_isST, l_isSL, l_isSI, l_isTT, l_isTS, l_isTL, l_isTI, l_isII, l_isBI, l_isLL, l_ord, okS_stt e6]
      refine great_ok e6 on fun N s4 g1 g2 g3 => ?_
      have NA : NameAs N n := ⟨g1, g2, on⟩
      have hN := NA.len
      have els : ∀ {R : Sl → BV.Env → Prop} {B C : BV.Env → Prop} (s5 : Sl) (a_ : D), Stt s5 → wS (elseSt [s5, .d (LD hs ls), .l (rows.map ln), .d (.str (S n)), .d (.str (S v)), .d (.str (S (N ++ [58]))), .d a_]) (fun e => ∃ (dn rest' : List (T × T)) (rows : List T) (s s3 s4 s5 s6 : Sl), hs = dn ++ rest' ∧ rest.map hd = rest'.map hd ∧ Reads dn [] rows ∧ rows.length ≤ 2 * dn.length ∧ (flat rows).length ≤ 40 * dn.length ∧ Stt s ∧ e = [s, .d (LD hs ls), .l (rows.map ln), s3, s4, s5, s6]) R B C := fun s5 a_ hs5 => by
        refine else_ok hs5 hN lv (by omega) fun i j s6 hi hj hs6 => ?_
        have w1 := List.all_eq_true.mp (List.all_eq_true.mp f1 i (List.mem_range.mpr hi)) j (List.mem_range.mpr hj)
        rw [Bool.and_eq_true, decide_eq_true_eq, List.all_eq_true] at w1
        refine ⟨dn ++ [(n, v)], rest, _, s6, _, _, _, _, by rw [e1]; simp, rfl, e3.trans (one_row NA hi hj lv w1.1 ov (fun c hc => of_decide_eq_true (w1.2 c hc)) hdn), ?_, ?_, hs6, rfl⟩
        · simp only [List.length_append, List.length_cons, List.length_nil]; omega
        · rw [flat_app]
          simp only [List.length_append, List.length_cons, List.length_nil, flat, List.flatMap_cons, List.flatMap_nil, bl_len] at e5 ⊢
          omega
      simp only [r_lft, r_var, r_own, r_c, r_bin, r_binO, r_cmp, r_tcmp, r_tcmpO, r_tru, r_tand, r_tor, r_tnot, r_eif, r_nif, r_and, r_or, r_not, r_neg, r_cb, r_ncb, r_bm, r_bm0, r_tup, r_lst, r_anil, r_acons, r_aone, r_vnil, r_vcons, r_vslot, r_sl, r_onone, r_osome, r_chain, r_tchain, r_isi, r_iany, r_rg1, r_rg2, r_yes, r_frz, r_call, r_F, r_sif, r_snil, r_pass, r_break, r_cont, r_no, r_ret, r_retN, r_retNone, r_drop, r_dropN, r_asg, r_asgN, r_aug, r_stup, r_app, r_ext, r_setix, r_for, r_retOwn, wE_nComp, wE_ok, wS_nx, wS_rt, wS_bk, wS_ct, wS_seq, wV_d, wV_l, wO_d, wO_l, wL_some, wL_ite, wL_map, cB_true, cB_false, cB_not, wZ_d, wZ_l, wTk_some, wT_some, wipeE, tk_nil, tk_v, tk_s, putA, mask, d1, d2, tyD, okS_d, okS_l, lOf, asI, Option.isSome_some, Option.getD_some, Option.map_some, List.getElem?_cons_zero, List.getElem?_cons_succ, List.set_cons_zero, List.set_cons_succ, List.replicate_succ, List.replicate_zero, List.cons_append, List.nil_append, List.not_mem_nil, List.mem_cons, or_false, not_false_eq_true, true_and, decide_true, if_true, if_false, reduceIte, Nat.reduceEqDiff, Nat.reduceAdd, Nat.reduceSub, Nat.reduceLeDiff, Nat.reduceLT, Int.reduceLT, Int.reduceLE, Int.reduceAdd, Int.reduceSub, Int.reduceEq, Int.reduceNeg, Nat.reduceMul, decide_false, Bool.not_true, Bool.not_false, and_true, true_or, or_true, Int.reduceMul, Int.reduceToNat, Nat.reducePow, Int.reducePow, Nat.not_lt_zero, l_addI, l_addS, l_addL, l_addT, l_sub, l_div, l_mod, l_mulI, l_mulS, l_mulL, l_eqI, l_eqS, l_neI, l_neS, l_ltI, l_leI, l_gtI, l_geI, l_ltS, l_leS, l_gtS, l_geS, l_truI, l_truB, l_truL, l_truT, l_truN, l_truS, l_lenS, l_lenL, l_lenT, l_intI, l_absI, l_tupL, l_tupT, l_itL, l_itT, l_itS, l_rg1, l_rg2, l_ixL, l_ixT, l_ixS, at_0, at_1, at_2, at_3, set_0, set_1, set_2, set_3, List.length_cons, List.length_nil, Int.cast_ofNat_Int, Int.natCast_one, tgD_n, tgD_t, tgA_nil, tgA_cons, Option.bind_some, l_isSS, l_isST, l_isSL, l_isSI, l_isTT, l_isTS, l_isTL, l_isTI, l_isII, l_isBI, l_isLL, l_ord, co, S_app, S_len, List.length_append, l_find]
      refine ⟨by omega, cB_dec (fun z0 => ?_) fun z0 => els _ _ g3⟩
      by_cases hk : cutOf v < v.length
      · rw [if_pos hk] at f3
        rw [Bool.or_eq_true, decide_eq_true_eq, Bool.not_eq_true', decide_eq_false_iff_not] at f4
        have f5 : cutOf v + 1 < v.length := f4.resolve_left fun w => w hk
        rw [f3] at z0
        have e7 : atI v ((cutOf v : Int) + 1) = some v[cutOf v + 1] := at_nat (by omega) (by rw [show ((cutOf v : Int) + 1).toNat = cutOf v + 1 by omega]; exact List.getElem?_eq_getElem f5)
        simp only [r_lft, r_var, r_own, r_c, r_bin, r_binO, r_cmp, r_tcmp, r_tcmpO, r_tru, r_tand, r_tor, r_tnot, r_eif, r_nif, r_and, r_or, r_not, r_neg, r_cb, r_ncb, r_bm, r_bm0, r_tup, r_lst, r_anil, r_acons, r_aone, r_vnil, r_vcons, r_vslot, r_sl, r_onone, r_osome, r_chain, r_tchain, r_isi, r_iany, r_rg1, r_rg2, r_yes, r_frz, r_call, r_F, r_sif, r_snil, r_pass, r_break, r_cont, r_no, r_ret, r_retN, r_retNone, r_drop, r_dropN, r_asg, r_asgN, r_aug, r_stup, r_app, r_ext, r_setix, r_for, r_retOwn, wE_nComp, wE_ok, wS_nx, wS_rt, wS_bk, wS_ct, wS_seq, wV_d, wV_l, wO_d, wO_l, wL_some, wL_ite, wL_map, cB_true, cB_false, cB_not, wZ_d, wZ_l, wTk_some, wT_some, wipeE, tk_nil, tk_v, tk_s, putA, mask, d1, d2, tyD, okS_d, okS_l, lOf, asI, Option.isSome_some, Option.getD_some, Option.map_some, List.getElem?_cons_zero, List.getElem?_cons_succ, List.set_cons_zero, List.set_cons_succ, List.replicate_succ, List.replicate_zero, List.cons_append, List.nil_append, List.not_mem_nil, List.mem_cons, or_false, not_false_eq_true, true_and, decide_true, if_true, if_false, reduceIte, Nat.reduceEqDiff, Nat.reduceAdd, Nat.reduceSub, Nat.reduceLeDiff, Nat.reduceLT, Int.reduceLT, Int.reduceLE, Int.reduceAdd, Int.reduceSub, Int.reduceEq, Int.reduceNeg, Nat.reduceMul, decide_false, Bool.not_true, Bool.not_false, and_true, true_or, or_true, Int.reduceMul, Int.reduceToNat, Nat.reducePow, Int.reducePow, Nat.not_lt_zero, l_addI, l_addS, l_addL, l_addT, l_sub, l_div, l_mod, l_mulI, l_mulS, l_mulL, l_eqI, l_eqS, l_neI, l_neS, l_ltI, l_leI, l_gtI, l_geI, l_ltS, l_leS, l_gtS, l_geS, l_truI, l_truB, l_truL, l_truT, l_truN, l_truS, l_lenS, l_lenL, l_lenT, l_intI, l_absI, l_tupL, l_tupT, l_itL, l_itT, l_itS, l_rg1, l_rg2, l_ixL, l_ixT, l_ixS, at_0, at_1, at_2, at_3, set_0, set_1, set_2, set_3, List.length_cons, List.length_nil, Int.cast_ofNat_Int, Int.natCast_one, tgD_n, tgD_t, tgA_nil, tgA_cons, Option.bind_some, l_isSS, l_isST, l_isSL, l_isSI, l_isTT, l_isTS, l_isTL, l_isTI, l_isII, l_isBI, l_isLL, l_ord, S_len, f3, e7]
        refine ⟨by omega, cB_dec (fun w => els _ _ g3) fun w => ?_⟩
        have hb : v[cutOf v + 1]? ≠ some 32 := fun q => w (by rw [List.getElem?_eq_getElem f5] at q; rw [Option.some.inj q]; rfl)
        simp only [r_lft, r_var, r_own, r_c, r_bin, r_binO, r_cmp, r_tcmp, r_tcmpO, r_tru, r_tand, r_tor, r_tnot, r_eif, r_nif, r_and, r_or, r_not, r_neg, r_cb, r_ncb, r_bm, r_bm0, r_tup, r_lst, r_anil, r_acons, r_aone, r_vnil, r_vcons, r_vslot, r_sl, r_onone, r_osome, r_chain, r_tchain, r_isi, r_iany, r_rg1, r_rg2, r_yes, r_frz, r_call, r_F, r_sif, r_snil, r_pass, r_break, r_cont, r_no, r_ret, r_retN, r_retNone, r_drop, r_dropN, r_asg, r_asgN, r_aug, r_stup, r_app, r_ext, r_setix, r_for, r_retOwn, wE_nComp, wE_ok, wS_nx, wS_rt, wS_bk, wS_ct, wS_seq, wV_d, wV_l, wO_d, wO_l, wL_some, wL_ite, wL_map, cB_true, cB_false, cB_not, wZ_d, wZ_l, wTk_some, wT_some, wipeE, tk_nil, tk_v, tk_s, putA, mask, d1, d2, tyD, okS_d, okS_l, lOf, asI, Option.isSome_some, Option.getD_some, Option.map_some, List.getElem?_cons_zero, List.getElem?_cons_succ, List.set_cons_zero, List.set_cons_succ, List.replicate_succ, List.replicate_zero, List.cons_append, List.nil_append, List.not_mem_nil, List.mem_cons, or_false, not_false_eq_true, true_and, decide_true, if_true, if_false, reduceIte, Nat.reduceEqDiff, Nat.reduceAdd, Nat.reduceSub, Nat.reduceLeDiff, Nat.reduceLT, Int.reduceLT, Int.reduceLE, Int.reduceAdd, Int.reduceSub, Int.reduceEq, Int.reduceNeg, Nat.reduceMul, decide_false, Bool.not_true, Bool.not_false, and_true, true_or, or_true, Int.reduceMul, Int.reduceToNat, Nat.reducePow, Int.reducePow, Nat.not_lt_zero, l_addI, l_addS, l_addL, l_addT, l_sub, l_div, l_mod, l_mulI, l_mulS, l_mulL, l_eqI, l_eqS, l_neI, l_neS, l_ltI, l_leI, l_gtI, l_geI, l_ltS, l_leS, l_gtS, l_geS, l_truI, l_truB, l_truL, l_truT, l_truN, l_truS, l_lenS, l_lenL, l_lenT, l_intI, l_absI, l_tupL, l_tupT, l_itL, l_itT, l_itS, l_rg1, l_rg2, l_ixL, l_ixT, l_ixS, at_0, at_1, at_2, at_3, set_0, set_1, set_2, set_3, List.length_cons, List.length_nil, Int.cast_ofNat_Int, Int.natCast_one, tgD_n, tgD_t, tgA_nil, tgA_cons, Option.bind_some, l_isSS, l_isST, l_isSL, l_isSI, l_isTT, l_isTS, l_isTL, l_isTI, l_isII, l_isBI, l_isLL, l_ord, draw_eq, okS_stt g3]
        refine draw_ok g3 (by omega) (by omega) fun u0 s5 _ _ hs5 => ?_
        simp only [r_lft, r_var, r_own, r_c, r_bin, r_binO, r_cmp, r_tcmp, r_tcmpO, r_tru, r_tand, r_tor, r_tnot, r_eif, r_nif, r_and, r_or, r_not, r_neg, r_cb, r_ncb, r_bm, r_bm0, r_tup, r_lst, r_anil, r_acons, r_aone, r_vnil, r_vcons, r_vslot, r_sl, r_onone, r_osome, r_chain, r_tchain, r_isi, r_iany, r_rg1, r_rg2, r_yes, r_frz, r_call, r_F, r_sif, r_snil, r_pass, r_break, r_cont, r_no, r_ret, r_retN, r_retNone, r_drop, r_dropN, r_asg, r_asgN, r_aug, r_stup, r_app, r_ext, r_setix, r_for, r_retOwn, wE_nComp, wE_ok, wS_nx, wS_rt, wS_bk, wS_ct, wS_seq, wV_d, wV_l, wO_d, wO_l, wL_some, wL_ite, wL_map, cB_true, cB_false, cB_not, wZ_d, wZ_l, wTk_some, wT_some, wipeE, tk_nil, tk_v, tk_s, putA, mask, d1, d2, tyD, okS_d, okS_l, lOf, asI, Option.isSome_some, Option.getD_some, Option.map_some, List.getElem?_cons_zero, List.getElem?_cons_succ, List.set_cons_zero, List.set_cons_succ, List.replicate_succ, List.replicate_zero, List.cons_append, List.nil_append, List.not_mem_nil, List.mem_cons, or_false, not_false_eq_true, true_and, decide_true, if_true, if_false, reduceIte, Nat.reduceEqDiff, Nat.reduceAdd, Nat.reduceSub, Nat.reduceLeDiff, Nat.reduceLT, Int.reduceLT, Int.reduceLE, Int.reduceAdd, Int.reduceSub, Int.reduceEq, Int.reduceNeg, Nat.reduceMul, decide_false, Bool.not_true, Bool.not_false, and_true, true_or, or_true, Int.reduceMul, Int.reduceToNat, Nat.reducePow, Int.reducePow, Nat.not_lt_zero, l_addI, l_addS, l_addL, l_addT, l_sub, l_div, l_mod, l_mulI, l_mulS, l_mulL, l_eqI, l_eqS, l_neI, l_neS, l_ltI, l_leI, l_gtI, l_geI, l_ltS, l_leS, l_gtS, l_geS, l_truI, l_truB, l_truL, l_truT, l_truN, l_truS, l_lenS, l_lenL, l_lenT, l_intI, l_absI, l_tupL, l_tupT, l_itL, l_itT, l_itS, l_rg1, l_rg2, l_ixL, l_ixT, l_ixS, at_0, at_1, at_2, at_3, set_0, set_1, set_2, set_3, List.length_cons, List.length_nil, Int.cast_ofNat_Int, Int.natCast_one, tgD_n, tgD_t, tgA_nil, tgA_cons, Option.bind_some, l_isSS, l_isST, l_isSL, l_isSI, l_isTT, l_isTS, l_isTL, l_isTI, l_isII, l_isBI, l_isLL, l_ord]
        refine cB_dec (fun _ => ?_) fun _ => els _ _ hs5
        simp only [r_lft, r_var, r_own, r_c, r_bin, r_binO, r_cmp, r_tcmp, r_tcmpO, r_tru, r_tand, r_tor, r_tnot, r_eif, r_nif, r_and, r_or, r_not, r_neg, r_cb, r_ncb, r_bm, r_bm0, r_tup, r_lst, r_anil, r_acons, r_aone, r_vnil, r_vcons, r_vslot, r_sl, r_onone, r_osome, r_chain, r_tchain, r_isi, r_iany, r_rg1, r_rg2, r_yes, r_frz, r_call, r_F, r_sif, r_snil, r_pass, r_break, r_cont, r_no, r_ret, r_retN, r_retNone, r_drop, r_dropN, r_asg, r_asgN, r_aug, r_stup, r_app, r_ext, r_setix, r_for, r_retOwn, wE_nComp, wE_ok, wS_nx, wS_rt, wS_bk, wS_ct, wS_seq, wV_d, wV_l, wO_d, wO_l, wL_some, wL_ite, wL_map, cB_true, cB_false, cB_not, wZ_d, wZ_l, wTk_some, wT_some, wipeE, tk_nil, tk_v, tk_s, putA, mask, d1, d2, tyD, okS_d, okS_l, lOf, asI, Option.isSome_some, Option.getD_some, Option.map_some, List.getElem?_cons_zero, List.getElem?_cons_succ, List.set_cons_zero, List.set_cons_succ, List.replicate_succ, List.replicate_zero, List.cons_append, List.nil_append, List.not_mem_nil, List.mem_cons, or_false, not_false_eq_true, true_and, decide_true, if_true, if_false, reduceIte, Nat.reduceEqDiff, Nat.reduceAdd, Nat.reduceSub, Nat.reduceLeDiff, Nat.reduceLT, Int.reduceLT, Int.reduceLE, Int.reduceAdd, Int.reduceSub, Int.reduceEq, Int.reduceNeg, Nat.reduceMul, decide_false, Bool.not_true, Bool.not_false, and_true, true_or, or_true, Int.reduceMul, Int.reduceToNat, Nat.reducePow, Int.reducePow, Nat.not_lt_zero, l_addI, l_addS, l_addL, l_addT, l_sub, l_div, l_mod, l_mulI, l_mulS, l_mulL, l_eqI, l_eqS, l_neI, l_neS, l_ltI, l_leI, l_gtI, l_geI, l_ltS, l_leS, l_gtS, l_geS, l_truI, l_truB, l_truL, l_truT, l_truN, l_truS, l_lenS, l_lenL, l_lenT, l_intI, l_absI, l_tupL, l_tupT, l_itL, l_itT, l_itS, l_rg1, l_rg2, l_ixL, l_ixT, l_ixS, at_0, at_1, at_2, at_3, set_0, set_1, set_2, set_3, List.length_cons, List.length_nil, Int.cast_ofNat_Int, Int.natCast_one, tgD_n, tgD_t, tgA_nil, tgA_cons, Option.bind_some, l_isSS, l_isST, l_isSL, l_isSI, l_isTT, l_isTS, l_isTL, l_isTI, l_isII, l_isBI, l_isLL, l_ord, draw_eq, okS_stt hs5]
        refine draw_ok hs5 (by omega) (by omega) fun u1 s6 a0 a1 hs6 => ?_
        have e9 := cut_to (l := v) (k := cutOf v) (by omega)
        have e10 : cutS (S v) (some ((cutOf v : Int) + 1)) none = S (v.drop (cutOf v + 1)) := cut_from (l := v) (k := cutOf v + 1) (by omega)
        simp only [r_lft, r_var, r_own, r_c, r_bin, r_binO, r_cmp, r_tcmp, r_tcmpO, r_tru, r_tand, r_tor, r_tnot, r_eif, r_nif, r_and, r_or, r_not, r_neg, r_cb, r_ncb, r_bm, r_bm0, r_tup, r_lst, r_anil, r_acons, r_aone, r_vnil, r_vcons, r_vslot, r_sl, r_onone, r_osome, r_chain, r_tchain, r_isi, r_iany, r_rg1, r_rg2, r_yes, r_frz, r_call, r_F, r_sif, r_snil, r_pass, r_break, r_cont, r_no, r_ret, r_retN, r_retNone, r_drop, r_dropN, r_asg, r_asgN, r_aug, r_stup, r_app, r_ext, r_setix, r_for, r_retOwn, wE_nComp, wE_ok, wS_nx, wS_rt, wS_bk, wS_ct, wS_seq, wV_d, wV_l, wO_d, wO_l, wL_some, wL_ite, wL_map, cB_true, cB_false, cB_not, wZ_d, wZ_l, wTk_some, wT_some, wipeE, tk_nil, tk_v, tk_s, putA, mask, d1, d2, tyD, okS_d, okS_l, lOf, asI, Option.isSome_some, Option.getD_some, Option.map_some, List.getElem?_cons_zero, List.getElem?_cons_succ, List.set_cons_zero, List.set_cons_succ, List.replicate_succ, List.replicate_zero, List.cons_append, List.nil_append, List.not_mem_nil, List.mem_cons, or_false, not_false_eq_true, true_and, decide_true, if_true, if_false, reduceIte, Nat.reduceEqDiff, Nat.reduceAdd, Nat.reduceSub, Nat.reduceLeDiff, Nat.reduceLT, Int.reduceLT, Int.reduceLE, Int.reduceAdd, Int.reduceSub, Int.reduceEq, Int.reduceNeg, Nat.reduceMul, decide_false, Bool.not_true, Bool.not_false, and_true, true_or, or_true, Int.reduceMul, Int.reduceToNat, Nat.reducePow, Int.reducePow, Nat.not_lt_zero, l_addI, l_addS, l_addL, l_addT, l_sub, l_div, l_mod, l_mulI, l_mulS, l_mulL, l_eqI, l_eqS, l_neI, l_neS, l_ltI, l_leI, l_gtI, l_geI, l_ltS, l_leS, l_gtS, l_geS, l_truI, l_truB, l_truL, l_truT, l_truN, l_truS, l_lenS, l_lenL, l_lenT, l_intI, l_absI, l_tupL, l_tupT, l_itL, l_itT, l_itS, l_rg1, l_rg2, l_ixL, l_ixT, l_ixS, at_0, at_1, at_2, at_3, set_0, set_1, set_2, set_3, List.length_cons, List.length_nil, Int.cast_ofNat_Int, Int.natCast_one, tgD_n, tgD_t, tgA_nil, tgA_cons, Option.bind_some, l_isSS, l_isST, l_isSL, l_isSI, l_isTT, l_isTS, l_isTL, l_isTI, l_isII, l_isBI, l_isLL, l_ord, okS_stt hs6, rep_bl, S_app, S_len, sp_len, bl_len, List.length_append, l_slS, e9, List.length_take]
        refine ⟨by omega, by omega, by omega, by omega, ?_⟩
        refine draw_ok hs6 (by omega) (by omega) fun u2 s7 b0 b1 hs7 => ?_
        simp only [r_lft, r_var, r_own, r_c, r_bin, r_binO, r_cmp, r_tcmp, r_tcmpO, r_tru, r_tand, r_tor, r_tnot, r_eif, r_nif, r_and, r_or, r_not, r_neg, r_cb, r_ncb, r_bm, r_bm0, r_tup, r_lst, r_anil, r_acons, r_aone, r_vnil, r_vcons, r_vslot, r_sl, r_onone, r_osome, r_chain, r_tchain, r_isi, r_iany, r_rg1, r_rg2, r_yes, r_frz, r_call, r_F, r_sif, r_snil, r_pass, r_break, r_cont, r_no, r_ret, r_retN, r_retNone, r_drop, r_dropN, r_asg, r_asgN, r_aug, r_stup, r_app, r_ext, r_setix, r_for, r_retOwn, wE_nComp, wE_ok, wS_nx, wS_rt, wS_bk, wS_ct, wS_seq, wV_d, wV_l, wO_d, wO_l, wL_some, wL_ite, wL_map, cB_true, cB_false, cB_not, wZ_d, wZ_l, wTk_some, wT_some, wipeE, tk_nil, tk_v, tk_s, putA, mask, d1, d2, tyD, okS_d, okS_l, lOf, asI, Option.isSome_some, Option.getD_some, Option.map_some, List.getElem?_cons_zero, List.getElem?_cons_succ, List.set_cons_zero, List.set_cons_succ, List.replicate_succ, List.replicate_zero, List.cons_append, List.nil_append, List.not_mem_nil, List.mem_cons, or_false, not_false_eq_true, true_and, decide_true, if_true, if_false, reduceIte, Nat.reduceEqDiff, Nat.reduceAdd, Nat.reduceSub, Nat.reduceLeDiff, Nat.reduceLT, Int.reduceLT, Int.reduceLE, Int.reduceAdd, Int.reduceSub, Int.reduceEq, Int.reduceNeg, Nat.reduceMul, decide_false, Bool.not_true, Bool.not_false, and_true, true_or, or_true, Int.reduceMul, Int.reduceToNat, Nat.reducePow, Int.reducePow, Nat.not_lt_zero, l_addI, l_addS, l_addL, l_addT, l_sub, l_div, l_mod, l_mulI, l_mulS, l_mulL, l_eqI, l_eqS, l_neI, l_neS, l_ltI, l_leI, l_gtI, l_geI, l_ltS, l_leS, l_gtS, l_geS, l_truI, l_truB, l_truL, l_truT, l_truN, l_truS, l_lenS, l_lenL, l_lenT, l_intI, l_absI, l_tupL, l_tupT, l_itL, l_itT, l_itS, l_rg1, l_rg2, l_ixL, l_ixT, l_ixS, at_0, at_1, at_2, at_3, set_0, set_1, set_2, set_3, List.length_cons, List.length_nil, Int.cast_ofNat_Int, Int.natCast_one, tgD_n, tgD_t, tgA_nil, tgA_cons, Option.bind_some, l_isSS, l_isST, l_isSL, l_isSI, l_isTT, l_isTS, l_isTL, l_isTI, l_isII, l_isBI, l_isLL, l_ord, draw_eq, okS_stt hs7, rep_bl, S_app, S_len, sp_len, bl_len, List.length_append, l_app, List.length_map, List.length_take]
        refine ⟨by omega, by omega, by omega, ?_⟩
        refine draw_ok hs7 (by omega) (by omega) fun u3 s8 c0 c1 hs8 => ?_
        simp only [r_lft, r_var, r_own, r_c, r_bin, r_binO, r_cmp, r_tcmp, r_tcmpO, r_tru, r_tand, r_tor, r_tnot, r_eif, r_nif, r_and, r_or, r_not, r_neg, r_cb, r_ncb, r_bm, r_bm0, r_tup, r_lst, r_anil, r_acons, r_aone, r_vnil, r_vcons, r_vslot, r_sl, r_onone, r_osome, r_chain, r_tchain, r_isi, r_iany, r_rg1, r_rg2, r_yes, r_frz, r_call, r_F, r_sif, r_snil, r_pass, r_break, r_cont, r_no, r_ret, r_retN, r_retNone, r_drop, r_dropN, r_asg, r_asgN, r_aug, r_stup, r_app, r_ext, r_setix, r_for, r_retOwn, wE_nComp, wE_ok, wS_nx, wS_rt, wS_bk, wS_ct, wS_seq, wV_d, wV_l, wO_d, wO_l, wL_some, wL_ite, wL_map, cB_true, cB_false, cB_not, wZ_d, wZ_l, wTk_some, wT_some, wipeE, tk_nil, tk_v, tk_s, putA, mask, d1, d2, tyD, okS_d, okS_l, lOf, asI, Option.isSome_some, Option.getD_some, Option.map_some, List.getElem?_cons_zero, List.getElem?_cons_succ, List.set_cons_zero, List.set_cons_succ, List.replicate_succ, List.replicate_zero, List.cons_append, List.nil_append, List.not_mem_nil, List.mem_cons, or_false, not_false_eq_true, true_and, decide_true, if_true, if_false, reduceIte, Nat.reduceEqDiff, Nat.reduceAdd, Nat.reduceSub, Nat.reduceLeDiff, Nat.reduceLT, Int.reduceLT, Int.reduceLE, Int.reduceAdd, Int.reduceSub, Int.reduceEq, Int.reduceNeg, Nat.reduceMul, decide_false, Bool.not_true, Bool.not_false, and_true, true_or, or_true, Int.reduceMul, Int.reduceToNat, Nat.reducePow, Int.reducePow, Nat.not_lt_zero, l_addI, l_addS, l_addL, l_addT, l_sub, l_div, l_mod, l_mulI, l_mulS, l_mulL, l_eqI, l_eqS, l_neI, l_neS, l_ltI, l_leI, l_gtI, l_geI, l_ltS, l_leS, l_gtS, l_geS, l_truI, l_truB, l_truL, l_truT, l_truN, l_truS, l_lenS, l_lenL, l_lenT, l_intI, l_absI, l_tupL, l_tupT, l_itL, l_itT, l_itS, l_rg1, l_rg2, l_ixL, l_ixT, l_ixS, at_0, at_1, at_2, at_3, set_0, set_1, set_2, set_3, List.length_cons, List.length_nil, Int.cast_ofNat_Int, Int.natCast_one, tgD_n, tgD_t, tgA_nil, tgA_cons, Option.bind_some, l_isSS, l_isST, l_isSL, l_isSI, l_isTT, l_isTS, l_isTL, l_isTI, l_isII, l_isBI, l_isLL, l_ord, draw_eq, okS_stt hs8, rep_bl, S_app, S_len, sp_len, bl_len, List.length_append, l_slS, e10, List.length_drop]
        refine ⟨by omega, by omega, by omega, ?_⟩
        refine draw_ok hs8 (by omega) (by omega) fun u4 s9 k0 k1 hs9 => ?_
        simp only [r_lft, r_var, r_own, r_c, r_bin, r_binO, r_cmp, r_tcmp, r_tcmpO, r_tru, r_tand, r_tor, r_tnot, r_eif, r_nif, r_and, r_or, r_not, r_neg, r_cb, r_ncb, r_bm, r_bm0, r_tup, r_lst, r_anil, r_acons, r_aone, r_vnil, r_vcons, r_vslot, r_sl, r_onone, r_osome, r_chain, r_tchain, r_isi, r_iany, r_rg1, r_rg2, r_yes, r_frz, r_call, r_F, r_sif, r_snil, r_pass, r_break, r_cont, r_no, r_ret, r_retN, r_retNone, r_drop, r_dropN, r_asg, r_asgN, r_aug, r_stup, r_app, r_ext, r_setix, r_for, r_retOwn, wE_nComp, wE_ok, wS_nx, wS_rt, wS_bk, wS_ct, wS_seq, wV_d, wV_l, wO_d, wO_l, wL_some, wL_ite, wL_map, cB_true, cB_false, cB_not, wZ_d, wZ_l, wTk_some, wT_some, wipeE, tk_nil, tk_v, tk_s, putA, mask, d1, d2, tyD, okS_d, okS_l, lOf, asI, Option.isSome_some, Option.getD_some, Option.map_some, List.getElem?_cons_zero, List.getElem?_cons_succ, List.set_cons_zero, List.set_cons_succ, List.replicate_succ, List.replicate_zero, List.cons_append, List.nil_append, List.not_mem_nil, List.mem_cons, or_false, not_false_eq_true, true_and, decide_true, if_true, if_false, reduceIte, Nat.reduceEqDiff, Nat.reduceAdd, Nat.reduceSub, Nat.reduceLeDiff, Nat.reduceLT, Int.reduceLT, Int.reduceLE, Int.reduceAdd, Int.reduceSub, Int.reduceEq, Int.reduceNeg, Nat.reduceMul, decide_false, Bool.not_true, Bool.not_false, and_true, true_or, or_true, Int.reduceMul, Int.reduceToNat, Nat.reducePow, Int.reducePow, Nat.not_lt_zero, l_addI, l_addS, l_addL, l_addT, l_sub, l_div, l_mod, l_mulI, l_mulS, l_mulL, l_eqI, l_eqS, l_neI, l_neS, l_ltI, l_leI, l_gtI, l_geI, l_ltS, l_leS, l_gtS, l_geS, l_truI, l_truB, l_truL, l_truT, l_truN, l_truS, l_lenS, l_lenL, l_lenT, l_intI, l_absI, l_tupL, l_tupT, l_itL, l_itT, l_itS, l_rg1, l_rg2, l_ixL, l_ixT, l_ixS, at_0, at_1, at_2, at_3, set_0, set_1, set_2, set_3, List.length_cons, List.length_nil, Int.cast_ofNat_Int, Int.natCast_one, tgD_n, tgD_t, tgA_nil, tgA_cons, Option.bind_some, l_isSS, l_isST, l_isSL, l_isSI, l_isTT, l_isTS, l_isTL, l_isTI, l_isII, l_isBI, l_isLL, l_ord, rep_bl, S_app, S_len, sp_len, bl_len, List.length_append, l_app, List.length_map, List.length_drop]
        have p1 : (1 + u3).toNat = 1 + u3.toNat := by omega
        rw [p1]
        have t0 : (!(decide (0 < cutOf v ∧ cutOf v < v.length) && decide (v[cutOf v + 1]? ≠ some 32))) = false := by
          rw [decide_eq_true (show 0 < cutOf v ∧ cutOf v < v.length by omega), decide_eq_true hb]; rfl
        rw [t0, Bool.false_or] at f2
        have t1 := List.all_eq_true.mp f2 u1.toNat (List.mem_range.mpr (by omega))
        have t2 := List.all_eq_true.mp t1 u2.toNat (List.mem_range.mpr (by omega))
        have t3 := List.all_eq_true.mp t2 u3.toNat (List.mem_range.mpr (by omega))
        have t4 := List.all_eq_true.mp t3 u4.toNat (List.mem_range.mpr (by omega))
        simp only [Bool.and_eq_true, decide_eq_true_eq, List.all_eq_true] at t4
        obtain ⟨y1, y2, y3, y4, y5, y6, y7⟩ := t4
        refine ⟨by omega, by omega, by omega, dn ++ [(n, v)], rest, rows ++ [N ++ 58 :: (bl u1.toNat ++ v.take (cutOf v) ++ bl u2.toNat), bl (1 + u3.toNat) ++ v.drop (cutOf v + 1) ++ bl u4.toNat], s9, .d (.str (S n)), .d (.str (S v)), .d (.str (S (N ++ [58]))), .d (.int (cutOf v : Nat)), by rw [e1]; simp, rfl, e3.trans (two_rows NA (by omega) (by omega) (by rw [List.length_take]; omega) (by rw [List.length_drop]; omega) y1 y2 y6 y3 y4 y5 ov y7 hdn), ?_, ?_, hs9, ?_⟩
        · simp only [List.length_append, List.length_cons, List.length_nil]; omega
        · rw [flat_app]
          simp only [List.length_append, List.length_cons, List.length_nil, flat, List.flatMap_cons, List.flatMap_nil, bl_len, List.length_take, List.length_drop] at e5 ⊢
          omega
        · simp [ln]
      · rw [if_neg hk] at f3
        rw [f3] at z0
        omega
  · rintro e ⟨dn, rest, rows, s2, q3, q4, q5, q6, e1, e2, e3, e4, e5, e6, rfl⟩
    have hr : rest = [] := by cases rest with
      | nil => rfl
      | cons c r => cases e2
    subst hr
    rw [List.append_nil] at e1
    subst e1
    have lsl : (flat ls).length ≤ 40 * 201 := by
      rw [flat_len]
      refine Nat.le_trans (sum_le _ 201 fun x hx => ?_) (by rw [List.length_map]; exact Nat.mul_le_mul_right _ h3)
      obtain ⟨l, hl2, rfl⟩ := List.mem_map.mp hx
      have := okLine_len (List.all_eq_true.mp lines_ok l (h4 l hl2))
      omega
    have ef : flat (rows ++ [[]] ++ ls) = flat rows ++ 10 :: flat ls := by rw [flat_app, flat_app]; simp [flat]
    have el : (flat rows ++ 10 :: flat ls).length = (flat rows).length + ((flat ls).length + 1) := by rw [List.length_append, List.length_cons]
    simp only [LD, r_lft, r_var, r_own, r_c, r_bin, r_binO, r_cmp, r_tcmp, r_tcmpO, r_tru, r_tand, r_tor, r_tnot, r_eif, r_nif, r_and, r_or, r_not, r_neg, r_cb, r_ncb, r_bm, r_bm0, r_tup, r_lst, r_anil, r_acons, r_aone, r_vnil, r_vcons, r_vslot, r_sl, r_onone, r_osome, r_chain, r_tchain, r_isi, r_iany, r_rg1, r_rg2, r_yes, r_frz, r_call, r_F, r_sif, r_snil, r_pass, r_break, r_cont, r_no, r_ret, r_retN, r_retNone, r_drop, r_dropN, r_asg, r_asgN, r_aug, r_stup, r_app, r_ext, r_setix, r_for, r_retOwn, wE_nComp, wE_ok, wS_nx, wS_rt, wS_bk, wS_ct, wS_seq, wV_d, wV_l, wO_d, wO_l, wL_some, wL_ite, wL_map, cB_true, cB_false, cB_not, wZ_d, wZ_l, wTk_some, wT_some, wipeE, tk_nil, tk_v, tk_s, putA, mask, d1, d2, tyD, okS_d, okS_l, lOf, asI, Option.isSome_some, Option.getD_some, Option.map_some, List.getElem?_cons_zero, List.getElem?_cons_succ, List.set_cons_zero, List.set_cons_succ, List.replicate_succ, List.replicate_zero, List.cons_append, List.nil_append, List.not_mem_nil, List.mem_cons, or_false, not_false_eq_true, true_and, decide_true, if_true, if_false, reduceIte, Nat.reduceEqDiff, Nat.reduceAdd, Nat.reduceSub, Nat.reduceLeDiff, Nat.reduceLT, Int.reduceLT, Int.reduceLE, Int.reduceAdd, Int.reduceSub, Int.reduceEq, Int.reduceNeg, Nat.reduceMul, decide_false, Bool.not_true, Bool.not_false, and_true, true_or, or_true, Int.reduceMul, Int.reduceToNat, Nat.reducePow, Int.reducePow, Nat.not_lt_zero, l_addI, l_addS, l_addL, l_addT, l_sub, l_div, l_mod, l_mulI, l_mulS, l_mulL, l_eqI, l_eqS, l_neI, l_neS, l_ltI, l_leI, l_gtI, l_geI, l_ltS, l_leS, l_gtS, l_geS, l_truI, l_truB, l_truL, l_truT, l_truN, l_truS, l_lenS, l_lenL, l_lenT, l_intI, l_absI, l_tupL, l_tupT, l_itL, l_itT, l_itS, l_rg1, l_rg2, l_ixL, l_ixT, l_ixS, at_0, at_1, at_2, at_3, set_0, set_1, set_2, set_3, List.length_cons, List.length_nil, Int.cast_ofNat_Int, Int.natCast_one, tgD_n, tgD_t, tgA_nil, tgA_cons, Option.bind_some, l_isSS, l_isST, l_isSL, l_isSI, l_isTT, l_isTS, l_isTL, l_isTI, l_isII, l_isBI, l_isLL, l_ord, List.length_map, List.length_append, l_listT, nl, S_nil]
    refine ⟨by omega, by omega, ?_⟩
    rw [show rows.map ln ++ [PyData.str (S [])] ++ ls.map ln = (rows ++ [[]] ++ ls).map ln by simp [ln]]
    rw [join_rows (by simp) (by rw [ef]; omega)]
    simp only [r_lft, r_var, r_own, r_c, r_bin, r_binO, r_cmp, r_tcmp, r_tcmpO, r_tru, r_tand, r_tor, r_tnot, r_eif, r_nif, r_and, r_or, r_not, r_neg, r_cb, r_ncb, r_bm, r_bm0, r_tup, r_lst, r_anil, r_acons, r_aone, r_vnil, r_vcons, r_vslot, r_sl, r_onone, r_osome, r_chain, r_tchain, r_isi, r_iany, r_rg1, r_rg2, r_yes, r_frz, r_call, r_F, r_sif, r_snil, r_pass, r_break, r_cont, r_no, r_ret, r_retN, r_retNone, r_drop, r_dropN, r_asg, r_asgN, r_aug, r_stup, r_app, r_ext, r_setix, r_for, r_retOwn, wE_nComp, wE_ok, wS_nx, wS_rt, wS_bk, wS_ct, wS_seq, wV_d, wV_l, wO_d, wO_l, wL_some, wL_ite, wL_map, cB_true, cB_false, cB_not, wZ_d, wZ_l, wTk_some, wT_some, wipeE, tk_nil, tk_v, tk_s, putA, mask, d1, d2, tyD, okS_d, okS_l, lOf, asI, Option.isSome_some, Option.getD_some, Option.map_some, List.getElem?_cons_zero, List.getElem?_cons_succ, List.set_cons_zero, List.set_cons_succ, List.replicate_succ, List.replicate_zero, List.cons_append, List.nil_append, List.not_mem_nil, List.mem_cons, or_false, not_false_eq_true, true_and, decide_true, if_true, if_false, reduceIte, Nat.reduceEqDiff, Nat.reduceAdd, Nat.reduceSub, Nat.reduceLeDiff, Nat.reduceLT, Int.reduceLT, Int.reduceLE, Int.reduceAdd, Int.reduceSub, Int.reduceEq, Int.reduceNeg, Nat.reduceMul, decide_false, Bool.not_true, Bool.not_false, and_true, true_or, or_true, Int.reduceMul, Int.reduceToNat, Nat.reducePow, Int.reducePow, Nat.not_lt_zero, l_addI, l_addS, l_addL, l_addT, l_sub, l_div, l_mod, l_mulI, l_mulS, l_mulL, l_eqI, l_eqS, l_neI, l_neS, l_ltI, l_leI, l_gtI, l_geI, l_ltS, l_leS, l_gtS, l_geS, l_truI, l_truB, l_truL, l_truT, l_truN, l_truS, l_lenS, l_lenL, l_lenT, l_intI, l_absI, l_tupL, l_tupT, l_itL, l_itT, l_itS, l_rg1, l_rg2, l_ixL, l_ixT, l_ixS, at_0, at_1, at_2, at_3, set_0, set_1, set_2, set_3, List.length_cons, List.length_nil, Int.cast_ofNat_Int, Int.natCast_one, tgD_n, tgD_t, tgA_nil, tgA_cons, Option.bind_some, l_isSS, l_isST, l_isSL, l_isSI, l_isTT, l_isTS, l_isTL, l_isTI, l_isII, l_isBI, l_isLL, l_ord]
    rw [join_flat (by simp), ef]
    have e : (Txt.join (S [10]) ((rows ++ [[]] ++ ls).map S) ++ S [10]).length = (flat rows ++ 10 :: flat ls).length := by rw [join_flat (by simp), S_len, ef]
    rw [strLen_append] at e
    exact ⟨by omega, k rows s2 e3 (by omega) e6⟩
end K01

/-! law_k01_letters: the law's turns. -/
namespace K01
open PySem PySem.Spec PyProof.Rows L2 BV
theorem line_lt {l : T} (h : okLine l = true) : ∀ c ∈ l, c < 1114112 := fun c hc => by
  unfold okLine at h
  rw [Bool.and_eq_true, List.all_eq_true] at h
  have := of_decide_eq_true (h.2 c hc)
  omega
theorem name_lt {l : T} (h : okName l = true) : ∀ c ∈ l, c < 1114112 := fun c hc => by
  unfold okName at h
  simp only [Bool.and_eq_true, decide_eq_true_eq, List.all_eq_true] at h
  have := h.2.2 c hc
  omega
theorem val_line {v : T} (h : okVal v = true) : okLine v = true := by
  unfold okVal at h
  rw [Bool.and_eq_true] at h
  exact h.1
theorem fx_hd {p : T × T} (h : okName p.1 = true ∧ okVal p.2 = true) : Fx 4011 1 (hd p) :=
  Fx.tup (k := 2) (Fx.two ((Fx.str (k := 200) (name_lt h.1) (by have := name_len h.1; omega)).mono (Nat.le_refl _) (Nat.le_refl _)) (Fx.str (k := 200) (line_lt (val_line h.2)) (val_len h.2))) (Nat.le_refl _)
theorem fx_ln {l : T} (h : okLine l = true) : Fx 2002 0 (ln l) := Fx.str (k := 200) (line_lt h) (okLine_len h)
theorem fx_LD {hs : List (T × T)} {ls : List T} (h1 : hs.length ≤ 41) (h2 : ∀ p ∈ hs, okName p.1 = true ∧ okVal p.2 = true) (h3 : ls.length ≤ 40) (h4 : ∀ l ∈ ls, okLine l = true) : Fx 329079 3 (LD hs ls) := by
  have a : Fx 164536 2 (.tuple (hs.map hd)) := Fx.tup (k := 41) (fun x hx => by obtain ⟨p, hp, rfl⟩ := List.mem_map.mp hx; exact fx_hd (h2 p hp)) (by rw [List.length_map]; exact h1)
  have b : Fx 164536 2 (.tuple (ls.map ln)) := (Fx.tup (k := 40) (fun x hx => by obtain ⟨l, hl, rfl⟩ := List.mem_map.mp hx; exact fx_ln (h4 l hl)) (by rw [List.length_map]; exact h3)).mono (by decide) (by decide)
  exact Fx.tup (k := 2) (Fx.two a b) (Nat.le_refl _)
theorem flat_lt {rows : List T} (h : ∀ r ∈ rows, ∀ c ∈ r, c < 1114112) : ∀ c ∈ flat rows, c < 1114112 := fun c hc => by
  unfold flat at hc
  obtain ⟨r, hr, hc⟩ := List.mem_flatMap.mp hc
  rcases List.mem_append.mp hc with z | z
  · exact h r hr c z
  · rw [List.mem_singleton.mp z]; omega
theorem rows_lt {hs : List (T × T)} {ls : List T} (g : Good hs ls) : ∀ c ∈ flat (rowsOf hs ls), c < 1114112 := flat_lt fun r hr c hc => by
  unfold rowsOf at hr
  simp only [List.mem_append, List.mem_map, List.mem_singleton] at hr
  rcases hr with (⟨p, hp, rfl⟩ | rfl) | hr
  · simp only [List.mem_append, List.mem_cons, List.not_mem_nil, or_false] at hc
    rcases hc with (hc | (rfl | rfl)) | hc
    · exact name_lt (g.h2 p hp).1 c hc
    · omega
    · omega
    · exact line_lt (val_line (g.h2 p hp).2) c hc
  · cases hc
  · exact line_lt (g.h4 r hr) c hc
/-! ### short letters read back -/
theorem short_mem {hs : List (T × T)} {ls : List T} (f : From hs ls) : ∀ p ∈ shortH hs, p.1 ∈ NAMES ∧ p.2 ∈ SVALS := fun p hp => by
  unfold shortH at hp
  obtain ⟨h1, h2⟩ := List.mem_filter.mp hp
  obtain ⟨h3, h4⟩ := f.h2 p h1
  refine ⟨h3, ?_⟩
  rcases List.mem_append.mp h4 with z | z
  · exact z
  · rw [List.mem_singleton] at z
    have := of_decide_eq_true h2
    rw [z, List.length_replicate] at this
    omega
theorem short_len {hs : List (T × T)} {ls : List T} (f : From hs ls) : (shortH hs).length ≤ 40 := Nat.le_trans (List.length_filter_le _ _) f.h1
theorem short_good {hs : List (T × T)} {ls : List T} (f : From hs ls) : Good (shortH hs) ls := ⟨short_len f, fun p hp => f.good.h2 p (List.mem_filter.mp hp).1, f.good.h3, f.good.h4⟩
theorem low_self {n : T} (h : okName n = true) : NameAs n n := by
  have hc : ∀ c ∈ n, (97 ≤ c ∧ c ≤ 122) ∨ c = 45 := by
    have := h
    unfold okName at this
    simp only [Bool.and_eq_true, decide_eq_true_eq, List.all_eq_true] at this
    exact this.2.2
  refine ⟨?_, fun c hh => .inr (hc c hh), h⟩
  have : ∀ l : T, (∀ c ∈ l, (97 ≤ c ∧ c ≤ 122) ∨ c = 45) → l.map low = l := fun l => by
    induction l with
    | nil => exact fun _ => rfl
    | cons a r ih =>
      intro hh
      rw [List.map_cons, ih fun c hc => hh c (List.mem_cons_of_mem _ hc)]
      have := hh a List.mem_cons_self
      have e : low a = a := by unfold low; rw [if_neg (by omega)]
      rw [e]
  exact this n hc
theorem plain_reads : ∀ (hs cur : List (T × T)), (∀ p ∈ hs, p.1 ∈ NAMES ∧ p.2 ∈ SVALS) → cur.length + hs.length ≤ 40 → Reads (cur ++ hs) cur (hs.map fun p => p.1 ++ [58, 32] ++ p.2)
  | [], cur, _, _ => by rw [List.append_nil]; exact .nil
  | (n, v) :: r, cur, h, hl => by
    obtain ⟨pn, pv⟩ := h (n, v) List.mem_cons_self
    have on : okName n = true := List.all_eq_true.mp names_ok n pn
    have lv := of_decide_eq_true (List.all_eq_true.mp svals_len v pv)
    have f1 := List.all_eq_true.mp oneAll_ok v pv
    have ov : okVal v = true := List.all_eq_true.mp values_ok v (by unfold VALUES; exact List.mem_append_left _ pv)
    have w1 := List.all_eq_true.mp (List.all_eq_true.mp f1 1 (List.mem_range.mpr (by decide))) 0 (List.mem_range.mpr (by decide))
    rw [Bool.and_eq_true, decide_eq_true_eq, List.all_eq_true] at w1
    rw [List.length_cons] at hl
    have r1 := one_row (cur := cur) (low_self on) (by decide) (by decide) lv w1.1 ov (fun c hc => of_decide_eq_true (w1.2 c hc)) (by omega)
    have r2 := plain_reads r (cur ++ [(n, v)]) (fun p hp => h p (List.mem_cons_of_mem _ hp)) (by rw [List.length_append, List.length_singleton]; omega)
    have e : n ++ 58 :: (bl 1 ++ v ++ bl 0) = n ++ [58, 32] ++ v := by simp [bl]
    rw [e] at r1
    have := r1.trans r2
    simpa using this
theorem flat_rowsOf (hs : List (T × T)) (ls : List T) : flat (rowsOf hs ls) = flat (hs.map fun p => p.1 ++ [58, 32] ++ p.2) ++ 10 :: flat ls := by
  unfold rowsOf
  rw [flat_app, flat_app]
  simp [flat]
theorem lines_flat {ls : List T} (h3 : ls.length ≤ 40) (h4 : ∀ l ∈ ls, l ∈ LINES) : (flat ls).length ≤ 8040 := by
  rw [flat_len]
  refine Nat.le_trans (sum_le _ 201 fun x hx => ?_) (by rw [List.length_map]; omega)
  obtain ⟨l, hl2, rfl⟩ := List.mem_map.mp hx
  have := okLine_len (List.all_eq_true.mp lines_ok l (h4 l hl2))
  omega
theorem read_plain {hs : List (T × T)} {ls : List T} (f : From hs ls) : m_read [.d (.str (S (flat (rowsOf (shortH hs) ls))))] = .ok (.d (LD (shortH hs) ls)) [.un] := by
  rw [flat_rowsOf]
  have hl := short_len f
  have R := plain_reads (shortH hs) [] (short_mem f) (by simpa using hl)
  rw [List.nil_append] at R
  refine read_ok R f.good.h3 f.good.h4 ?_
  have := lines_flat f.h3 f.h4
  have h2 : (flat ((shortH hs).map fun p => p.1 ++ [58, 32] ++ p.2)).length ≤ 40 * 28 := by
    rw [flat_len]
    refine Nat.le_trans (sum_le _ 28 fun x hx => ?_) (by rw [List.length_map, List.length_map]; exact Nat.mul_le_mul_right _ hl)
    obtain ⟨r, hr, rfl⟩ := List.mem_map.mp hx
    obtain ⟨p, hp, rfl⟩ := List.mem_map.mp hr
    obtain ⟨pn, pv⟩ := short_mem f p hp
    have a := name_len (List.all_eq_true.mp names_ok p.1 pn)
    have b := of_decide_eq_true (List.all_eq_true.mp svals_len p.2 pv)
    simp only [List.length_append, List.length_cons, List.length_nil]
    omega
  rw [List.length_append, List.length_cons]
  omega
theorem last_read : m_read [.d (.str (Str.ofString "Subject: a\n  b \nto:c@d\n\nhello\n\n"))] = .ok (.d (LD [(tx "subject", tx "a b"), (tx "to", tx "c@d")] [tx "hello", tx ""])) [.un] := by kernel_rfl
end K01

/-! law_k01_letters: the law. -/
namespace K01
open PySem PySem.Spec PyProof.Rows L2 BV
theorem rng_mem {a b : Int} {x : D} (h : x ∈ rng a b) : ∃ t, x = .int t := by
  unfold rng at h
  obtain ⟨i, _, rfl⟩ := List.mem_map.mp h
  exact ⟨_, rfl⟩
theorem eqS {r : RS} (h : wS r (fun _ => False) (fun s _ => s = .d (.bool true)) (fun _ => False) fun _ => False) : ∃ e, r = .rt (.d (.bool true)) e := by
  cases r with
  | rt s e => obtain rfl := (show s = .d (.bool true) from h); exact ⟨e, rfl⟩
  | _ => exact (show False from h).elim
def picks (w : Int) : List D := [.int 1, .int 4, .int 12, .int w]
theorem fm_c (n : T) (f : T × T → D) : ∀ hs : List (T × T), hs.filterMap (fun p => if p.1 = n then some (f p) else none) = (hs.filter fun p => decide (p.1 = n)).map f
  | [] => rfl
  | p :: r => by
    by_cases h : p.1 = n
    · rw [List.filterMap_cons, if_pos h, List.filter_cons_of_pos (by simpa using h), List.map_cons, fm_c n f r]
    · rw [List.filterMap_cons, if_neg h, List.filter_cons_of_neg (by simpa using h), fm_c n f r]
theorem fm_n (n : T) (f : T × T → D) : ∀ hs : List (T × T), hs.filterMap (fun p => if p.1 = n then none else some (f p)) = (hs.filter fun p => !decide (p.1 = n)).map f
  | [] => rfl
  | p :: r => by
    by_cases h : p.1 = n
    · rw [List.filterMap_cons, if_pos h, List.filter_cons_of_neg (by simpa using h), fm_n n f r]
    · rw [List.filterMap_cons, if_neg h, List.filter_cons_of_pos (by simpa using h), List.map_cons, fm_n n f r]
theorem ld_fold (hs : List (T × T)) (ls : List T) : PyData.tuple [PyData.tuple (hs.map hd), PyData.tuple (ls.map ln)] = LD hs ls := rfl
theorem ix0 {hs : List (T × T)} {ls : List T} : dIx (LD hs ls) (.int 0) = some (.tuple (hs.map hd)) := by unfold LD; rw [l_ixT, at_0]
theorem ix1 {hs : List (T × T)} {ls : List T} : dIx (LD hs ls) (.int 1) = some (.tuple (ls.map ln)) := by unfold LD; rw [l_ixT, at_1]
theorem wh_fold (hs : List (T × T)) (ls : List T) : PyData.tuple [PyData.tuple (PyData.tuple [PyData.str (Str.ofString "to"), PyData.str (Str.ofString "a b")] :: hs.map hd), PyData.tuple (ls.map ln)] = LD ((tx "to", tx "a b") :: hs) ls := rfl
theorem plain : Plain := by
  intro ns s hn h1 h2
  apply eqS
  have hs0 : Stt (.l (stD ns 0 0 s)) := ⟨ns, 0, 0, s, rfl, by decide, by decide, hn⟩
  generalize Sl.l (stD ns 0 0 s) = s0 at hs0
  simp only [b_law, r_lft, r_var, r_own, r_c, r_bin, r_binO, r_cmp, r_tcmp, r_tcmpO, r_tru, r_tand, r_tor, r_tnot, r_eif, r_nif, r_and, r_or, r_not, r_neg, r_cb, r_ncb, r_bm, r_bm0, r_tup, r_lst, r_anil, r_acons, r_aone, r_vnil, r_vcons, r_vslot, r_sl, r_onone, r_osome, r_chain, r_tchain, r_isi, r_iany, r_rg1, r_rg2, r_yes, r_frz, r_call, r_F, r_sif, r_snil, r_pass, r_break, r_cont, r_no, r_ret, r_retN, r_retNone, r_drop, r_dropN, r_asg, r_asgN, r_aug, r_stup, r_app, r_ext, r_setix, r_for, r_retOwn, wE_nComp, wE_ok, wS_nx, wS_rt, wS_bk, wS_ct, wS_seq, wV_d, wV_l, wO_d, wO_l, wL_some, wL_ite, wL_map, cB_true, cB_false, cB_not, wZ_d, wZ_l, wTk_some, wT_some, wipeE, tk_nil, tk_v, tk_s, putA, mask, d1, d2, tyD, okS_d, okS_l, lOf, asI, Option.isSome_some, Option.getD_some, Option.map_some, List.getElem?_cons_zero, List.getElem?_cons_succ, List.set_cons_zero, List.set_cons_succ, List.replicate_succ, List.replicate_zero, List.cons_append, List.nil_append, List.not_mem_nil, List.mem_cons, or_false, not_false_eq_true, true_and, decide_true, if_true, if_false, Bool.false_eq_true, reduceIte, Nat.reduceEqDiff, Nat.reduceAdd, Nat.reduceSub, Nat.reduceLeDiff, Nat.reduceLT, Int.reduceLT, Int.reduceLE, Int.reduceAdd, Int.reduceSub, Int.reduceEq, Int.reduceNeg, Nat.reduceMul, decide_false, Bool.not_true, Bool.not_false, and_true, true_or, or_true, Int.reduceMul, Int.reduceToNat, Nat.reducePow, Int.reducePow, Nat.not_lt_zero, l_addI, l_addS, l_addL, l_addT, l_sub, l_div, l_mod, l_mulI, l_mulS, l_mulL, l_eqI, l_eqS, l_neI, l_neS, l_ltI, l_leI, l_gtI, l_geI, l_ltS, l_leS, l_gtS, l_geS, l_truI, l_truB, l_truL, l_truT, l_truN, l_truS, l_lenS, l_lenL, l_lenT, l_intI, l_absI, l_tupL, l_tupT, l_itL, l_itT, l_itS, l_rg1, l_rg2, l_ixL, l_ixT, l_ixS, at_0, at_1, at_2, at_3, set_0, set_1, set_2, set_3, List.length_cons, List.length_nil, Int.cast_ofNat_Int, Int.natCast_one, tgD_n, tgD_t, tgA_nil, tgA_cons, Option.bind_some, l_isSS, l_isST, l_isSL, l_isSI, l_isTT, l_isTS, l_isTL, l_isTI, l_isII, l_isBI, l_isLL, l_ord]
  refine wS_for (fun xs e => (∀ x ∈ xs, ∃ t, x = .int t) ∧ ∃ s q2 q3 q4 q5 q6 q7 q8 q9 q10 q11 q12, Stt s ∧ e = [.un, s, q2, q3, q4, q5, q6, q7, q8, q9, q10, q11, q12]) ?_ ?_ _ _ ⟨fun x hx => rng_mem hx, s0, _, _, _, _, _, _, _, _, _, _, _, hs0, rfl⟩
  · rintro x r e ⟨hx, s1, q2, q3, q4, q5, q6, q7, q8, q9, q10, q11, q12, hs1, rfl⟩
    obtain ⟨t, rfl⟩ := hx _ List.mem_cons_self
    refine ⟨_, rfl, ?_⟩
    simp only [r_lft, r_var, r_own, r_c, r_bin, r_binO, r_cmp, r_tcmp, r_tcmpO, r_tru, r_tand, r_tor, r_tnot, r_eif, r_nif, r_and, r_or, r_not, r_neg, r_cb, r_ncb, r_bm, r_bm0, r_tup, r_lst, r_anil, r_acons, r_aone, r_vnil, r_vcons, r_vslot, r_sl, r_onone, r_osome, r_chain, r_tchain, r_isi, r_iany, r_rg1, r_rg2, r_yes, r_frz, r_call, r_F, r_sif, r_snil, r_pass, r_break, r_cont, r_no, r_ret, r_retN, r_retNone, r_drop, r_dropN, r_asg, r_asgN, r_aug, r_stup, r_app, r_ext, r_setix, r_for, r_retOwn, wE_nComp, wE_ok, wS_nx, wS_rt, wS_bk, wS_ct, wS_seq, wV_d, wV_l, wO_d, wO_l, wL_some, wL_ite, wL_map, cB_true, cB_false, cB_not, wZ_d, wZ_l, wTk_some, wT_some, wipeE, tk_nil, tk_v, tk_s, putA, mask, d1, d2, tyD, okS_d, okS_l, lOf, asI, Option.isSome_some, Option.getD_some, Option.map_some, List.getElem?_cons_zero, List.getElem?_cons_succ, List.set_cons_zero, List.set_cons_succ, List.replicate_succ, List.replicate_zero, List.cons_append, List.nil_append, List.not_mem_nil, List.mem_cons, or_false, not_false_eq_true, true_and, decide_true, if_true, if_false, Bool.false_eq_true, reduceIte, Nat.reduceEqDiff, Nat.reduceAdd, Nat.reduceSub, Nat.reduceLeDiff, Nat.reduceLT, Int.reduceLT, Int.reduceLE, Int.reduceAdd, Int.reduceSub, Int.reduceEq, Int.reduceNeg, Nat.reduceMul, decide_false, Bool.not_true, Bool.not_false, and_true, true_or, or_true, Int.reduceMul, Int.reduceToNat, Nat.reducePow, Int.reducePow, Nat.not_lt_zero, l_addI, l_addS, l_addL, l_addT, l_sub, l_div, l_mod, l_mulI, l_mulS, l_mulL, l_eqI, l_eqS, l_neI, l_neS, l_ltI, l_leI, l_gtI, l_geI, l_ltS, l_leS, l_gtS, l_geS, l_truI, l_truB, l_truL, l_truT, l_truN, l_truS, l_lenS, l_lenL, l_lenT, l_intI, l_absI, l_tupL, l_tupT, l_itL, l_itT, l_itS, l_rg1, l_rg2, l_ixL, l_ixT, l_ixS, at_0, at_1, at_2, at_3, set_0, set_1, set_2, set_3, List.length_cons, List.length_nil, Int.cast_ofNat_Int, Int.natCast_one, tgD_n, tgD_t, tgA_nil, tgA_cons, Option.bind_some, l_isSS, l_isST, l_isSL, l_isSI, l_isTT, l_isTS, l_isTL, l_isTI, l_isII, l_isBI, l_isLL, l_ord, pick_eq, okS_stt hs1]
    refine cB_dec (fun _ => ?_) fun _ => ?_
    all_goals
      refine ⟨by omega, ?_⟩
      simp only [r_lft, r_var, r_own, r_c, r_bin, r_binO, r_cmp, r_tcmp, r_tcmpO, r_tru, r_tand, r_tor, r_tnot, r_eif, r_nif, r_and, r_or, r_not, r_neg, r_cb, r_ncb, r_bm, r_bm0, r_tup, r_lst, r_anil, r_acons, r_aone, r_vnil, r_vcons, r_vslot, r_sl, r_onone, r_osome, r_chain, r_tchain, r_isi, r_iany, r_rg1, r_rg2, r_yes, r_frz, r_call, r_F, r_sif, r_snil, r_pass, r_break, r_cont, r_no, r_ret, r_retN, r_retNone, r_drop, r_dropN, r_asg, r_asgN, r_aug, r_stup, r_app, r_ext, r_setix, r_for, r_retOwn, wE_nComp, wE_ok, wS_nx, wS_rt, wS_bk, wS_ct, wS_seq, wV_d, wV_l, wO_d, wO_l, wL_some, wL_ite, wL_map, cB_true, cB_false, cB_not, wZ_d, wZ_l, wTk_some, wT_some, wipeE, tk_nil, tk_v, tk_s, putA, mask, d1, d2, tyD, okS_d, okS_l, lOf, asI, Option.isSome_some, Option.getD_some, Option.map_some, List.getElem?_cons_zero, List.getElem?_cons_succ, List.set_cons_zero, List.set_cons_succ, List.replicate_succ, List.replicate_zero, List.cons_append, List.nil_append, List.not_mem_nil, List.mem_cons, or_false, not_false_eq_true, true_and, decide_true, if_true, if_false, Bool.false_eq_true, reduceIte, Nat.reduceEqDiff, Nat.reduceAdd, Nat.reduceSub, Nat.reduceLeDiff, Nat.reduceLT, Int.reduceLT, Int.reduceLE, Int.reduceAdd, Int.reduceSub, Int.reduceEq, Int.reduceNeg, Nat.reduceMul, decide_false, Bool.not_true, Bool.not_false, and_true, true_or, or_true, Int.reduceMul, Int.reduceToNat, Nat.reducePow, Int.reducePow, Nat.not_lt_zero, l_addI, l_addS, l_addL, l_addT, l_sub, l_div, l_mod, l_mulI, l_mulS, l_mulL, l_eqI, l_eqS, l_neI, l_neS, l_ltI, l_leI, l_gtI, l_geI, l_ltS, l_leS, l_gtS, l_geS, l_truI, l_truB, l_truL, l_truT, l_truN, l_truS, l_lenS, l_lenL, l_lenT, l_intI, l_absI, l_tupL, l_tupT, l_itL, l_itT, l_itS, l_rg1, l_rg2, l_ixL, l_ixT, l_ixS, at_0, at_1, at_2, at_3, set_0, set_1, set_2, set_3, List.length_cons, List.length_nil, Int.cast_ofNat_Int, Int.natCast_one, tgD_n, tgD_t, tgA_nil, tgA_cons, Option.bind_some, l_isSS, l_isST, l_isSL, l_isSI, l_isTT, l_isTS, l_isTL, l_isTI, l_isII, l_isBI, l_isLL, l_ord, okS_stt hs1]
      refine pick_ok hs1 (by simp) (by simp) fun v s2 hv hs2 => ?_
      obtain ⟨m, rfl, m0, m1⟩ : ∃ m : Int, v = .int m ∧ 0 ≤ m ∧ m ≤ 40 := by
        simp only [List.mem_cons, List.not_mem_nil, or_false] at hv
        rcases hv with rfl | rfl | rfl | rfl <;> exact ⟨_, rfl, by decide, by decide⟩
      simp only [r_lft, r_var, r_own, r_c, r_bin, r_binO, r_cmp, r_tcmp, r_tcmpO, r_tru, r_tand, r_tor, r_tnot, r_eif, r_nif, r_and, r_or, r_not, r_neg, r_cb, r_ncb, r_bm, r_bm0, r_tup, r_lst, r_anil, r_acons, r_aone, r_vnil, r_vcons, r_vslot, r_sl, r_onone, r_osome, r_chain, r_tchain, r_isi, r_iany, r_rg1, r_rg2, r_yes, r_frz, r_call, r_F, r_sif, r_snil, r_pass, r_break, r_cont, r_no, r_ret, r_retN, r_retNone, r_drop, r_dropN, r_asg, r_asgN, r_aug, r_stup, r_app, r_ext, r_setix, r_for, r_retOwn, wE_nComp, wE_ok, wS_nx, wS_rt, wS_bk, wS_ct, wS_seq, wV_d, wV_l, wO_d, wO_l, wL_some, wL_ite, wL_map, cB_true, cB_false, cB_not, wZ_d, wZ_l, wTk_some, wT_some, wipeE, tk_nil, tk_v, tk_s, putA, mask, d1, d2, tyD, okS_d, okS_l, lOf, asI, Option.isSome_some, Option.getD_some, Option.map_some, List.getElem?_cons_zero, List.getElem?_cons_succ, List.set_cons_zero, List.set_cons_succ, List.replicate_succ, List.replicate_zero, List.cons_append, List.nil_append, List.not_mem_nil, List.mem_cons, or_false, not_false_eq_true, true_and, decide_true, if_true, if_false, Bool.false_eq_true, reduceIte, Nat.reduceEqDiff, Nat.reduceAdd, Nat.reduceSub, Nat.reduceLeDiff, Nat.reduceLT, Int.reduceLT, Int.reduceLE, Int.reduceAdd, Int.reduceSub, Int.reduceEq, Int.reduceNeg, Nat.reduceMul, decide_false, Bool.not_true, Bool.not_false, and_true, true_or, or_true, Int.reduceMul, Int.reduceToNat, Nat.reducePow, Int.reducePow, Nat.not_lt_zero, l_addI, l_addS, l_addL, l_addT, l_sub, l_div, l_mod, l_mulI, l_mulS, l_mulL, l_eqI, l_eqS, l_neI, l_neS, l_ltI, l_leI, l_gtI, l_geI, l_ltS, l_leS, l_gtS, l_geS, l_truI, l_truB, l_truL, l_truT, l_truN, l_truS, l_lenS, l_lenL, l_lenT, l_intI, l_absI, l_tupL, l_tupT, l_itL, l_itT, l_itS, l_rg1, l_rg2, l_ixL, l_ixT, l_ixS, at_0, at_1, at_2, at_3, set_0, set_1, set_2, set_3, List.length_cons, List.length_nil, Int.cast_ofNat_Int, Int.natCast_one, tgD_n, tgD_t, tgA_nil, tgA_cons, Option.bind_some, l_isSS, l_isST, l_isSL, l_isSI, l_isTT, l_isTS, l_isTL, l_isTI, l_isII, l_isBI, l_isLL, l_ord, okS_stt hs2]
      refine letter_ok hs2 m0 m1 fun hs ls s3 f hs3 => ?_
      have g := f.good
      have hlt := rows_len g
      have x1 : Fx 600002 0 (.str (S (flat (rowsOf hs ls)))) := Fx.str (k := 60000) (rows_lt g) hlt
      have x2 : Fx 600002 0 (.int ((flat (rowsOf hs ls)).length : Nat)) := (Fx.int (by omega) (by omega)).mono (by decide) (by decide)
      have y1 : mSame [.d (.list [.none, .str (S (flat (rowsOf hs ls))), .int ((flat (rowsOf hs ls)).length : Nat)]), .d (.list [.none, .str (S (flat (rowsOf hs ls))), .int ((flat (rowsOf hs ls)).length : Nat)])] = .ok (.d (.bool true)) [.un, .un] :=
        (Fx.list (k := 3) (Fx.three (Fx.none.mono (by decide) (by decide)) x1 x2) (Nat.le_refl _)).same (by decide) (by decide)
      simp only [r_lft, r_var, r_own, r_c, r_bin, r_binO, r_cmp, r_tcmp, r_tcmpO, r_tru, r_tand, r_tor, r_tnot, r_eif, r_nif, r_and, r_or, r_not, r_neg, r_cb, r_ncb, r_bm, r_bm0, r_tup, r_lst, r_anil, r_acons, r_aone, r_vnil, r_vcons, r_vslot, r_sl, r_onone, r_osome, r_chain, r_tchain, r_isi, r_iany, r_rg1, r_rg2, r_yes, r_frz, r_call, r_F, r_sif, r_snil, r_pass, r_break, r_cont, r_no, r_ret, r_retN, r_retNone, r_drop, r_dropN, r_asg, r_asgN, r_aug, r_stup, r_app, r_ext, r_setix, r_for, r_retOwn, wE_nComp, wE_ok, wS_nx, wS_rt, wS_bk, wS_ct, wS_seq, wV_d, wV_l, wO_d, wO_l, wL_some, wL_ite, wL_map, cB_true, cB_false, cB_not, wZ_d, wZ_l, wTk_some, wT_some, wipeE, tk_nil, tk_v, tk_s, putA, mask, d1, d2, tyD, okS_d, okS_l, lOf, asI, Option.isSome_some, Option.getD_some, Option.map_some, List.getElem?_cons_zero, List.getElem?_cons_succ, List.set_cons_zero, List.set_cons_succ, List.replicate_succ, List.replicate_zero, List.cons_append, List.nil_append, List.not_mem_nil, List.mem_cons, or_false, not_false_eq_true, true_and, decide_true, if_true, if_false, Bool.false_eq_true, reduceIte, Nat.reduceEqDiff, Nat.reduceAdd, Nat.reduceSub, Nat.reduceLeDiff, Nat.reduceLT, Int.reduceLT, Int.reduceLE, Int.reduceAdd, Int.reduceSub, Int.reduceEq, Int.reduceNeg, Nat.reduceMul, decide_false, Bool.not_true, Bool.not_false, and_true, true_or, or_true, Int.reduceMul, Int.reduceToNat, Nat.reducePow, Int.reducePow, Nat.not_lt_zero, l_addI, l_addS, l_addL, l_addT, l_sub, l_div, l_mod, l_mulI, l_mulS, l_mulL, l_eqI, l_eqS, l_neI, l_neS, l_ltI, l_leI, l_gtI, l_geI, l_ltS, l_leS, l_gtS, l_geS, l_truI, l_truB, l_truL, l_truT, l_truN, l_truS, l_lenS, l_lenL, l_lenT, l_intI, l_absI, l_tupL, l_tupT, l_itL, l_itT, l_itS, l_rg1, l_rg2, l_ixL, l_ixT, l_ixS, at_0, at_1, at_2, at_3, set_0, set_1, set_2, set_3, List.length_cons, List.length_nil, Int.cast_ofNat_Int, Int.natCast_one, tgD_n, tgD_t, tgA_nil, tgA_cons, Option.bind_some, l_isSS, l_isST, l_isSL, l_isSI, l_isTT, l_isTS, l_isTL, l_isTI, l_isII, l_isBI, l_isLL, l_ord, lawtext g, check_ok g, write_ok g, sizeof_ok g, S_len, same_eq, y1]
      refine ⟨by omega, ?_⟩
      have fxv : ∀ n, ∀ x ∈ vals hs n, Fx 2002 0 x := fun n x hx => by
        unfold vals at hx
        obtain ⟨p, hp, rfl⟩ := List.mem_map.mp hx
        have := g.h2 p (List.mem_filter.mp hp).1
        exact Fx.str (k := 200) (line_lt (val_line this.2)) (val_len this.2)
      have lnv : ∀ n, (vals hs n).length ≤ 40 := fun n => by
        unfold vals
        rw [List.length_map]
        exact Nat.le_trans (List.length_filter_le _ _) g.h1
      refine wS_for (fun xs e => (∀ x ∈ xs, ∃ n, x = .str (S n) ∧ okName n = true) ∧ ∃ q5 q6 q7 q8 q9 q10, e = [.un, s3, .d (.int t), .d (LD hs ls), .d (.str (S (flat (rowsOf hs ls)))), q5, q6, q7, q8, q9, q10, q11, q12]) ?_ ?_ _ _ ⟨fun x hx => ?_, _, _, _, _, _, _, rfl⟩
      · rintro x r e ⟨hx, q5, q6, q7, q8, q9, q10, rfl⟩
        obtain ⟨n, rfl, hn⟩ := hx _ List.mem_cons_self
        have h1 := g.h1
        refine ⟨_, rfl, ?_⟩
        simp only [LD, r_lft, r_var, r_own, r_c, r_bin, r_binO, r_cmp, r_tcmp, r_tcmpO, r_tru, r_tand, r_tor, r_tnot, r_eif, r_nif, r_and, r_or, r_not, r_neg, r_cb, r_ncb, r_bm, r_bm0, r_tup, r_lst, r_anil, r_acons, r_aone, r_vnil, r_vcons, r_vslot, r_sl, r_onone, r_osome, r_chain, r_tchain, r_isi, r_iany, r_rg1, r_rg2, r_yes, r_frz, r_call, r_F, r_sif, r_snil, r_pass, r_break, r_cont, r_no, r_ret, r_retN, r_retNone, r_drop, r_dropN, r_asg, r_asgN, r_aug, r_stup, r_app, r_ext, r_setix, r_for, r_retOwn, wE_nComp, wE_ok, wS_nx, wS_rt, wS_bk, wS_ct, wS_seq, wV_d, wV_l, wO_d, wO_l, wL_some, wL_ite, wL_map, cB_true, cB_false, cB_not, wZ_d, wZ_l, wTk_some, wT_some, wipeE, tk_nil, tk_v, tk_s, putA, mask, d1, d2, tyD, okS_d, okS_l, lOf, asI, Option.isSome_some, Option.getD_some, Option.map_some, List.getElem?_cons_zero, List.getElem?_cons_succ, List.set_cons_zero, List.set_cons_succ, List.replicate_succ, List.replicate_zero, List.cons_append, List.nil_append, List.not_mem_nil, List.mem_cons, or_false, not_false_eq_true, true_and, decide_true, if_true, if_false, Bool.false_eq_true, reduceIte, Nat.reduceEqDiff, Nat.reduceAdd, Nat.reduceSub, Nat.reduceLeDiff, Nat.reduceLT, Int.reduceLT, Int.reduceLE, Int.reduceAdd, Int.reduceSub, Int.reduceEq, Int.reduceNeg, Nat.reduceMul, decide_false, Bool.not_true, Bool.not_false, and_true, true_or, or_true, Int.reduceMul, Int.reduceToNat, Nat.reducePow, Int.reducePow, Nat.not_lt_zero, l_addI, l_addS, l_addL, l_addT, l_sub, l_div, l_mod, l_mulI, l_mulS, l_mulL, l_eqI, l_eqS, l_neI, l_neS, l_ltI, l_leI, l_gtI, l_geI, l_ltS, l_leS, l_gtS, l_geS, l_truI, l_truB, l_truL, l_truT, l_truN, l_truS, l_lenS, l_lenL, l_lenT, l_intI, l_absI, l_tupL, l_tupT, l_itL, l_itT, l_itS, l_rg1, l_rg2, l_ixL, l_ixT, l_ixS, at_0, at_1, at_2, at_3, set_0, set_1, set_2, set_3, List.length_cons, List.length_nil, Int.cast_ofNat_Int, Int.natCast_one, tgD_n, tgD_t, tgA_nil, tgA_cons, Option.bind_some, l_isSS, l_isST, l_isSL, l_isSI, l_isTT, l_isTS, l_isTL, l_isTI, l_isII, l_isBI, l_isLL, l_ord]
        refine wE_compG [.un, s3, .d (.int t), .d (LD hs ls), .d (.str (S (flat (rowsOf hs ls)))), .d (.str (S n)), q6, .un, .un, q9, q10, q11, q12] hd (fun p => if p.1 = n then some (.str (S p.2)) else none) hs rfl (by omega) (fun p hp => ?_) ?_
        · refine ⟨_, rfl, ?_⟩
          simp only [LD, r_lft, r_var, r_own, r_c, r_bin, r_binO, r_cmp, r_tcmp, r_tcmpO, r_tru, r_tand, r_tor, r_tnot, r_eif, r_nif, r_and, r_or, r_not, r_neg, r_cb, r_ncb, r_bm, r_bm0, r_tup, r_lst, r_anil, r_acons, r_aone, r_vnil, r_vcons, r_vslot, r_sl, r_onone, r_osome, r_chain, r_tchain, r_isi, r_iany, r_rg1, r_rg2, r_yes, r_frz, r_call, r_F, r_sif, r_snil, r_pass, r_break, r_cont, r_no, r_ret, r_retN, r_retNone, r_drop, r_dropN, r_asg, r_asgN, r_aug, r_stup, r_app, r_ext, r_setix, r_for, r_retOwn, wE_nComp, wE_ok, wS_nx, wS_rt, wS_bk, wS_ct, wS_seq, wV_d, wV_l, wO_d, wO_l, wL_some, wL_ite, wL_map, cB_true, cB_false, cB_not, wZ_d, wZ_l, wTk_some, wT_some, wipeE, tk_nil, tk_v, tk_s, putA, mask, d1, d2, tyD, okS_d, okS_l, lOf, asI, Option.isSome_some, Option.getD_some, Option.map_some, List.getElem?_cons_zero, List.getElem?_cons_succ, List.set_cons_zero, List.set_cons_succ, List.replicate_succ, List.replicate_zero, List.cons_append, List.nil_append, List.not_mem_nil, List.mem_cons, or_false, not_false_eq_true, true_and, decide_true, if_true, if_false, Bool.false_eq_true, reduceIte, Nat.reduceEqDiff, Nat.reduceAdd, Nat.reduceSub, Nat.reduceLeDiff, Nat.reduceLT, Int.reduceLT, Int.reduceLE, Int.reduceAdd, Int.reduceSub, Int.reduceEq, Int.reduceNeg, Nat.reduceMul, decide_false, Bool.not_true, Bool.not_false, and_true, true_or, or_true, Int.reduceMul, Int.reduceToNat, Nat.reducePow, Int.reducePow, Nat.not_lt_zero, l_addI, l_addS, l_addL, l_addT, l_sub, l_div, l_mod, l_mulI, l_mulS, l_mulL, l_eqI, l_eqS, l_neI, l_neS, l_ltI, l_leI, l_gtI, l_geI, l_ltS, l_leS, l_gtS, l_geS, l_truI, l_truB, l_truL, l_truT, l_truN, l_truS, l_lenS, l_lenL, l_lenT, l_intI, l_absI, l_tupL, l_tupT, l_itL, l_itT, l_itS, l_rg1, l_rg2, l_ixL, l_ixT, l_ixS, at_0, at_1, at_2, at_3, set_0, set_1, set_2, set_3, List.length_cons, List.length_nil, Int.cast_ofNat_Int, Int.natCast_one, tgD_n, tgD_t, tgA_nil, tgA_cons, Option.bind_some, l_isSS, l_isST, l_isSL, l_isSI, l_isTT, l_isTS, l_isTL, l_isTI, l_isII, l_isBI, l_isLL, l_ord, S_dec]
          by_cases h : p.1 = n
          · rw [if_pos h, decide_eq_true h]
            simp only [r_lft, r_var, r_own, r_c, r_bin, r_binO, r_cmp, r_tcmp, r_tcmpO, r_tru, r_tand, r_tor, r_tnot, r_eif, r_nif, r_and, r_or, r_not, r_neg, r_cb, r_ncb, r_bm, r_bm0, r_tup, r_lst, r_anil, r_acons, r_aone, r_vnil, r_vcons, r_vslot, r_sl, r_onone, r_osome, r_chain, r_tchain, r_isi, r_iany, r_rg1, r_rg2, r_yes, r_frz, r_call, r_F, r_sif, r_snil, r_pass, r_break, r_cont, r_no, r_ret, r_retN, r_retNone, r_drop, r_dropN, r_asg, r_asgN, r_aug, r_stup, r_app, r_ext, r_setix, r_for, r_retOwn, wE_nComp, wE_ok, wS_nx, wS_rt, wS_bk, wS_ct, wS_seq, wV_d, wV_l, wO_d, wO_l, wL_some, wL_ite, wL_map, cB_true, cB_false, cB_not, wZ_d, wZ_l, wTk_some, wT_some, wipeE, tk_nil, tk_v, tk_s, putA, mask, d1, d2, tyD, okS_d, okS_l, lOf, asI, Option.isSome_some, Option.getD_some, Option.map_some, List.getElem?_cons_zero, List.getElem?_cons_succ, List.set_cons_zero, List.set_cons_succ, List.replicate_succ, List.replicate_zero, List.cons_append, List.nil_append, List.not_mem_nil, List.mem_cons, or_false, not_false_eq_true, true_and, decide_true, if_true, if_false, Bool.false_eq_true, reduceIte, Nat.reduceEqDiff, Nat.reduceAdd, Nat.reduceSub, Nat.reduceLeDiff, Nat.reduceLT, Int.reduceLT, Int.reduceLE, Int.reduceAdd, Int.reduceSub, Int.reduceEq, Int.reduceNeg, Nat.reduceMul, decide_false, Bool.not_true, Bool.not_false, and_true, true_or, or_true, Int.reduceMul, Int.reduceToNat, Nat.reducePow, Int.reducePow, Nat.not_lt_zero, l_addI, l_addS, l_addL, l_addT, l_sub, l_div, l_mod, l_mulI, l_mulS, l_mulL, l_eqI, l_eqS, l_neI, l_neS, l_ltI, l_leI, l_gtI, l_geI, l_ltS, l_leS, l_gtS, l_geS, l_truI, l_truB, l_truL, l_truT, l_truN, l_truS, l_lenS, l_lenL, l_lenT, l_intI, l_absI, l_tupL, l_tupT, l_itL, l_itT, l_itS, l_rg1, l_rg2, l_ixL, l_ixT, l_ixS, at_0, at_1, at_2, at_3, set_0, set_1, set_2, set_3, List.length_cons, List.length_nil, Int.cast_ofNat_Int, Int.natCast_one, tgD_n, tgD_t, tgA_nil, tgA_cons, Option.bind_some, l_isSS, l_isST, l_isSL, l_isSI, l_isTT, l_isTS, l_isTL, l_isTI, l_isII, l_isBI, l_isLL, l_ord]
            try rfl
          · rw [if_neg h, decide_eq_false h]
            simp only [r_lft, r_var, r_own, r_c, r_bin, r_binO, r_cmp, r_tcmp, r_tcmpO, r_tru, r_tand, r_tor, r_tnot, r_eif, r_nif, r_and, r_or, r_not, r_neg, r_cb, r_ncb, r_bm, r_bm0, r_tup, r_lst, r_anil, r_acons, r_aone, r_vnil, r_vcons, r_vslot, r_sl, r_onone, r_osome, r_chain, r_tchain, r_isi, r_iany, r_rg1, r_rg2, r_yes, r_frz, r_call, r_F, r_sif, r_snil, r_pass, r_break, r_cont, r_no, r_ret, r_retN, r_retNone, r_drop, r_dropN, r_asg, r_asgN, r_aug, r_stup, r_app, r_ext, r_setix, r_for, r_retOwn, wE_nComp, wE_ok, wS_nx, wS_rt, wS_bk, wS_ct, wS_seq, wV_d, wV_l, wO_d, wO_l, wL_some, wL_ite, wL_map, cB_true, cB_false, cB_not, wZ_d, wZ_l, wTk_some, wT_some, wipeE, tk_nil, tk_v, tk_s, putA, mask, d1, d2, tyD, okS_d, okS_l, lOf, asI, Option.isSome_some, Option.getD_some, Option.map_some, List.getElem?_cons_zero, List.getElem?_cons_succ, List.set_cons_zero, List.set_cons_succ, List.replicate_succ, List.replicate_zero, List.cons_append, List.nil_append, List.not_mem_nil, List.mem_cons, or_false, not_false_eq_true, true_and, decide_true, if_true, if_false, Bool.false_eq_true, reduceIte, Nat.reduceEqDiff, Nat.reduceAdd, Nat.reduceSub, Nat.reduceLeDiff, Nat.reduceLT, Int.reduceLT, Int.reduceLE, Int.reduceAdd, Int.reduceSub, Int.reduceEq, Int.reduceNeg, Nat.reduceMul, decide_false, Bool.not_true, Bool.not_false, and_true, true_or, or_true, Int.reduceMul, Int.reduceToNat, Nat.reducePow, Int.reducePow, Nat.not_lt_zero, l_addI, l_addS, l_addL, l_addT, l_sub, l_div, l_mod, l_mulI, l_mulS, l_mulL, l_eqI, l_eqS, l_neI, l_neS, l_ltI, l_leI, l_gtI, l_geI, l_ltS, l_leS, l_gtS, l_geS, l_truI, l_truB, l_truL, l_truT, l_truN, l_truS, l_lenS, l_lenL, l_lenT, l_intI, l_absI, l_tupL, l_tupT, l_itL, l_itT, l_itS, l_rg1, l_rg2, l_ixL, l_ixT, l_ixS, at_0, at_1, at_2, at_3, set_0, set_1, set_2, set_3, List.length_cons, List.length_nil, Int.cast_ofNat_Int, Int.natCast_one, tgD_n, tgD_t, tgA_nil, tgA_cons, Option.bind_some, l_isSS, l_isST, l_isSL, l_isSI, l_isTT, l_isTS, l_isTL, l_isTI, l_isII, l_isBI, l_isLL, l_ord]
            try rfl
        · rw [fm_c n fun p => .str (S p.2)]
          rw [show (hs.filter fun p => decide (p.1 = n)).map (fun p => PyData.str (S p.2)) = vals hs n from rfl]
          have z1 : mSame [.d (.list [.tuple (vals hs n), fst (vals hs n)]), .d (.list [.tuple (vals hs n), fst (vals hs n)])] = .ok (.d (.bool true)) [.un, .un] := by
            have a1 : Fx 80163 1 (.tuple (vals hs n)) := Fx.tup (k := 40) (fxv n) (lnv n)
            have a2 : Fx 80163 1 (fst (vals hs n)) := by
              have hh := fxv n
              cases hv : vals hs n with
              | nil => exact Fx.none.mono (by decide) (by decide)
              | cons v r => exact (hh v (by rw [hv]; exact List.mem_cons_self)).mono (by decide) (by decide)
            exact (Fx.list (k := 2) (Fx.two a1 a2) (Nat.le_refl _)).same (by decide) (by decide)
          have z2 : mSame [.d (LD (hs.filter fun p => !decide (p.1 = n)) ls), .d (LD (hs.filter fun p => !decide (p.1 = n)) ls)] = .ok (.d (.bool true)) [.un, .un] :=
            (fx_LD (Nat.le_trans (List.length_filter_le _ _) (by omega)) (fun p hp => g.h2 p (List.mem_filter.mp hp).1) f.h3 g.h4).same (by decide) (by decide)
          have vo := valuesof g hn
          have v1 := valueof g hn
          simp only [r_lft, r_var, r_own, r_c, r_bin, r_binO, r_cmp, r_tcmp, r_tcmpO, r_tru, r_tand, r_tor, r_tnot, r_eif, r_nif, r_and, r_or, r_not, r_neg, r_cb, r_ncb, r_bm, r_bm0, r_tup, r_lst, r_anil, r_acons, r_aone, r_vnil, r_vcons, r_vslot, r_sl, r_onone, r_osome, r_chain, r_tchain, r_isi, r_iany, r_rg1, r_rg2, r_yes, r_frz, r_call, r_F, r_sif, r_snil, r_pass, r_break, r_cont, r_no, r_ret, r_retN, r_retNone, r_drop, r_dropN, r_asg, r_asgN, r_aug, r_stup, r_app, r_ext, r_setix, r_for, r_retOwn, wE_nComp, wE_ok, wS_nx, wS_rt, wS_bk, wS_ct, wS_seq, wV_d, wV_l, wO_d, wO_l, wL_some, wL_ite, wL_map, cB_true, cB_false, cB_not, wZ_d, wZ_l, wTk_some, wT_some, wipeE, tk_nil, tk_v, tk_s, putA, mask, d1, d2, tyD, okS_d, okS_l, lOf, asI, Option.isSome_some, Option.getD_some, Option.map_some, List.getElem?_cons_zero, List.getElem?_cons_succ, List.set_cons_zero, List.set_cons_succ, List.replicate_succ, List.replicate_zero, List.cons_append, List.nil_append, List.not_mem_nil, List.mem_cons, or_false, not_false_eq_true, true_and, decide_true, if_true, if_false, Bool.false_eq_true, reduceIte, Nat.reduceEqDiff, Nat.reduceAdd, Nat.reduceSub, Nat.reduceLeDiff, Nat.reduceLT, Int.reduceLT, Int.reduceLE, Int.reduceAdd, Int.reduceSub, Int.reduceEq, Int.reduceNeg, Nat.reduceMul, decide_false, Bool.not_true, Bool.not_false, and_true, true_or, or_true, Int.reduceMul, Int.reduceToNat, Nat.reducePow, Int.reducePow, Nat.not_lt_zero, l_addI, l_addS, l_addL, l_addT, l_sub, l_div, l_mod, l_mulI, l_mulS, l_mulL, l_eqI, l_eqS, l_neI, l_neS, l_ltI, l_leI, l_gtI, l_geI, l_ltS, l_leS, l_gtS, l_geS, l_truI, l_truB, l_truL, l_truT, l_truN, l_truS, l_lenS, l_lenL, l_lenT, l_intI, l_absI, l_tupL, l_tupT, l_itL, l_itT, l_itS, l_rg1, l_rg2, l_ixL, l_ixT, l_ixS, at_0, at_1, at_2, at_3, set_0, set_1, set_2, set_3, List.length_cons, List.length_nil, Int.cast_ofNat_Int, Int.natCast_one, tgD_n, tgD_t, tgA_nil, tgA_cons, Option.bind_some, l_isSS, l_isST, l_isSL, l_isSI, l_isTT, l_isTS, l_isTL, l_isTI, l_isII, l_isBI, l_isLL, l_ord, vo, v1, same_eq]
          cases hv : vals hs n
          all_goals
            rw [hv] at z1
            simp only [fst] at z1
            simp only [List.isEmpty_nil, List.isEmpty_cons, fst, r_lft, r_var, r_own, r_c, r_bin, r_binO, r_cmp, r_tcmp, r_tcmpO, r_tru, r_tand, r_tor, r_tnot, r_eif, r_nif, r_and, r_or, r_not, r_neg, r_cb, r_ncb, r_bm, r_bm0, r_tup, r_lst, r_anil, r_acons, r_aone, r_vnil, r_vcons, r_vslot, r_sl, r_onone, r_osome, r_chain, r_tchain, r_isi, r_iany, r_rg1, r_rg2, r_yes, r_frz, r_call, r_F, r_sif, r_snil, r_pass, r_break, r_cont, r_no, r_ret, r_retN, r_retNone, r_drop, r_dropN, r_asg, r_asgN, r_aug, r_stup, r_app, r_ext, r_setix, r_for, r_retOwn, wE_nComp, wE_ok, wS_nx, wS_rt, wS_bk, wS_ct, wS_seq, wV_d, wV_l, wO_d, wO_l, wL_some, wL_ite, wL_map, cB_true, cB_false, cB_not, wZ_d, wZ_l, wTk_some, wT_some, wipeE, tk_nil, tk_v, tk_s, putA, mask, d1, d2, tyD, okS_d, okS_l, lOf, asI, Option.isSome_some, Option.getD_some, Option.map_some, List.getElem?_cons_zero, List.getElem?_cons_succ, List.set_cons_zero, List.set_cons_succ, List.replicate_succ, List.replicate_zero, List.cons_append, List.nil_append, List.not_mem_nil, List.mem_cons, or_false, not_false_eq_true, true_and, decide_true, if_true, if_false, Bool.false_eq_true, reduceIte, Nat.reduceEqDiff, Nat.reduceAdd, Nat.reduceSub, Nat.reduceLeDiff, Nat.reduceLT, Int.reduceLT, Int.reduceLE, Int.reduceAdd, Int.reduceSub, Int.reduceEq, Int.reduceNeg, Nat.reduceMul, decide_false, Bool.not_true, Bool.not_false, and_true, true_or, or_true, Int.reduceMul, Int.reduceToNat, Nat.reducePow, Int.reducePow, Nat.not_lt_zero, l_addI, l_addS, l_addL, l_addT, l_sub, l_div, l_mod, l_mulI, l_mulS, l_mulL, l_eqI, l_eqS, l_neI, l_neS, l_ltI, l_leI, l_gtI, l_geI, l_ltS, l_leS, l_gtS, l_geS, l_truI, l_truB, l_truL, l_truT, l_truN, l_truS, l_lenS, l_lenL, l_lenT, l_intI, l_absI, l_tupL, l_tupT, l_itL, l_itT, l_itS, l_rg1, l_rg2, l_ixL, l_ixT, l_ixS, at_0, at_1, at_2, at_3, set_0, set_1, set_2, set_3, List.length_cons, List.length_nil, Int.cast_ofNat_Int, Int.natCast_one, tgD_n, tgD_t, tgA_nil, tgA_cons, Option.bind_some, l_isSS, l_isST, l_isSL, l_isSI, l_isTT, l_isTS, l_isTL, l_isTI, l_isII, l_isBI, l_isLL, l_ord, z1]
            refine wE_compG [.un, s3, .d (.int t), .d (LD hs ls), .d (.str (S (flat (rowsOf hs ls)))), .d (.str (S n)), _, .un, .un, q9, .un, q11, q12] hd (fun p => if p.1 = n then none else some (hd p)) hs rfl (by omega) (fun p hp => ?_) ?_
            · refine ⟨_, rfl, ?_⟩
              simp only [hd, r_lft, r_var, r_own, r_c, r_bin, r_binO, r_cmp, r_tcmp, r_tcmpO, r_tru, r_tand, r_tor, r_tnot, r_eif, r_nif, r_and, r_or, r_not, r_neg, r_cb, r_ncb, r_bm, r_bm0, r_tup, r_lst, r_anil, r_acons, r_aone, r_vnil, r_vcons, r_vslot, r_sl, r_onone, r_osome, r_chain, r_tchain, r_isi, r_iany, r_rg1, r_rg2, r_yes, r_frz, r_call, r_F, r_sif, r_snil, r_pass, r_break, r_cont, r_no, r_ret, r_retN, r_retNone, r_drop, r_dropN, r_asg, r_asgN, r_aug, r_stup, r_app, r_ext, r_setix, r_for, r_retOwn, wE_nComp, wE_ok, wS_nx, wS_rt, wS_bk, wS_ct, wS_seq, wV_d, wV_l, wO_d, wO_l, wL_some, wL_ite, wL_map, cB_true, cB_false, cB_not, wZ_d, wZ_l, wTk_some, wT_some, wipeE, tk_nil, tk_v, tk_s, putA, mask, d1, d2, tyD, okS_d, okS_l, lOf, asI, Option.isSome_some, Option.getD_some, Option.map_some, List.getElem?_cons_zero, List.getElem?_cons_succ, List.set_cons_zero, List.set_cons_succ, List.replicate_succ, List.replicate_zero, List.cons_append, List.nil_append, List.not_mem_nil, List.mem_cons, or_false, not_false_eq_true, true_and, decide_true, if_true, if_false, Bool.false_eq_true, reduceIte, Nat.reduceEqDiff, Nat.reduceAdd, Nat.reduceSub, Nat.reduceLeDiff, Nat.reduceLT, Int.reduceLT, Int.reduceLE, Int.reduceAdd, Int.reduceSub, Int.reduceEq, Int.reduceNeg, Nat.reduceMul, decide_false, Bool.not_true, Bool.not_false, and_true, true_or, or_true, Int.reduceMul, Int.reduceToNat, Nat.reducePow, Int.reducePow, Nat.not_lt_zero, l_addI, l_addS, l_addL, l_addT, l_sub, l_div, l_mod, l_mulI, l_mulS, l_mulL, l_eqI, l_eqS, l_neI, l_neS, l_ltI, l_leI, l_gtI, l_geI, l_ltS, l_leS, l_gtS, l_geS, l_truI, l_truB, l_truL, l_truT, l_truN, l_truS, l_lenS, l_lenL, l_lenT, l_intI, l_absI, l_tupL, l_tupT, l_itL, l_itT, l_itS, l_rg1, l_rg2, l_ixL, l_ixT, l_ixS, at_0, at_1, at_2, at_3, set_0, set_1, set_2, set_3, List.length_cons, List.length_nil, Int.cast_ofNat_Int, Int.natCast_one, tgD_n, tgD_t, tgA_nil, tgA_cons, Option.bind_some, l_isSS, l_isST, l_isSL, l_isSI, l_isTT, l_isTS, l_isTL, l_isTI, l_isII, l_isBI, l_isLL, l_ord, S_dec]
              by_cases h : p.1 = n
              · rw [if_pos h, decide_eq_true h]
                simp only [r_lft, r_var, r_own, r_c, r_bin, r_binO, r_cmp, r_tcmp, r_tcmpO, r_tru, r_tand, r_tor, r_tnot, r_eif, r_nif, r_and, r_or, r_not, r_neg, r_cb, r_ncb, r_bm, r_bm0, r_tup, r_lst, r_anil, r_acons, r_aone, r_vnil, r_vcons, r_vslot, r_sl, r_onone, r_osome, r_chain, r_tchain, r_isi, r_iany, r_rg1, r_rg2, r_yes, r_frz, r_call, r_F, r_sif, r_snil, r_pass, r_break, r_cont, r_no, r_ret, r_retN, r_retNone, r_drop, r_dropN, r_asg, r_asgN, r_aug, r_stup, r_app, r_ext, r_setix, r_for, r_retOwn, wE_nComp, wE_ok, wS_nx, wS_rt, wS_bk, wS_ct, wS_seq, wV_d, wV_l, wO_d, wO_l, wL_some, wL_ite, wL_map, cB_true, cB_false, cB_not, wZ_d, wZ_l, wTk_some, wT_some, wipeE, tk_nil, tk_v, tk_s, putA, mask, d1, d2, tyD, okS_d, okS_l, lOf, asI, Option.isSome_some, Option.getD_some, Option.map_some, List.getElem?_cons_zero, List.getElem?_cons_succ, List.set_cons_zero, List.set_cons_succ, List.replicate_succ, List.replicate_zero, List.cons_append, List.nil_append, List.not_mem_nil, List.mem_cons, or_false, not_false_eq_true, true_and, decide_true, if_true, if_false, Bool.false_eq_true, reduceIte, Nat.reduceEqDiff, Nat.reduceAdd, Nat.reduceSub, Nat.reduceLeDiff, Nat.reduceLT, Int.reduceLT, Int.reduceLE, Int.reduceAdd, Int.reduceSub, Int.reduceEq, Int.reduceNeg, Nat.reduceMul, decide_false, Bool.not_true, Bool.not_false, and_true, true_or, or_true, Int.reduceMul, Int.reduceToNat, Nat.reducePow, Int.reducePow, Nat.not_lt_zero, l_addI, l_addS, l_addL, l_addT, l_sub, l_div, l_mod, l_mulI, l_mulS, l_mulL, l_eqI, l_eqS, l_neI, l_neS, l_ltI, l_leI, l_gtI, l_geI, l_ltS, l_leS, l_gtS, l_geS, l_truI, l_truB, l_truL, l_truT, l_truN, l_truS, l_lenS, l_lenL, l_lenT, l_intI, l_absI, l_tupL, l_tupT, l_itL, l_itT, l_itS, l_rg1, l_rg2, l_ixL, l_ixT, l_ixS, at_0, at_1, at_2, at_3, set_0, set_1, set_2, set_3, List.length_cons, List.length_nil, Int.cast_ofNat_Int, Int.natCast_one, tgD_n, tgD_t, tgA_nil, tgA_cons, Option.bind_some, l_isSS, l_isST, l_isSL, l_isSI, l_isTT, l_isTS, l_isTL, l_isTI, l_isII, l_isBI, l_isLL, l_ord]
                try rfl
              · rw [if_neg h, decide_eq_false h]
                simp only [r_lft, r_var, r_own, r_c, r_bin, r_binO, r_cmp, r_tcmp, r_tcmpO, r_tru, r_tand, r_tor, r_tnot, r_eif, r_nif, r_and, r_or, r_not, r_neg, r_cb, r_ncb, r_bm, r_bm0, r_tup, r_lst, r_anil, r_acons, r_aone, r_vnil, r_vcons, r_vslot, r_sl, r_onone, r_osome, r_chain, r_tchain, r_isi, r_iany, r_rg1, r_rg2, r_yes, r_frz, r_call, r_F, r_sif, r_snil, r_pass, r_break, r_cont, r_no, r_ret, r_retN, r_retNone, r_drop, r_dropN, r_asg, r_asgN, r_aug, r_stup, r_app, r_ext, r_setix, r_for, r_retOwn, wE_nComp, wE_ok, wS_nx, wS_rt, wS_bk, wS_ct, wS_seq, wV_d, wV_l, wO_d, wO_l, wL_some, wL_ite, wL_map, cB_true, cB_false, cB_not, wZ_d, wZ_l, wTk_some, wT_some, wipeE, tk_nil, tk_v, tk_s, putA, mask, d1, d2, tyD, okS_d, okS_l, lOf, asI, Option.isSome_some, Option.getD_some, Option.map_some, List.getElem?_cons_zero, List.getElem?_cons_succ, List.set_cons_zero, List.set_cons_succ, List.replicate_succ, List.replicate_zero, List.cons_append, List.nil_append, List.not_mem_nil, List.mem_cons, or_false, not_false_eq_true, true_and, decide_true, if_true, if_false, Bool.false_eq_true, reduceIte, Nat.reduceEqDiff, Nat.reduceAdd, Nat.reduceSub, Nat.reduceLeDiff, Nat.reduceLT, Int.reduceLT, Int.reduceLE, Int.reduceAdd, Int.reduceSub, Int.reduceEq, Int.reduceNeg, Nat.reduceMul, decide_false, Bool.not_true, Bool.not_false, and_true, true_or, or_true, Int.reduceMul, Int.reduceToNat, Nat.reducePow, Int.reducePow, Nat.not_lt_zero, l_addI, l_addS, l_addL, l_addT, l_sub, l_div, l_mod, l_mulI, l_mulS, l_mulL, l_eqI, l_eqS, l_neI, l_neS, l_ltI, l_leI, l_gtI, l_geI, l_ltS, l_leS, l_gtS, l_geS, l_truI, l_truB, l_truL, l_truT, l_truN, l_truS, l_lenS, l_lenL, l_lenT, l_intI, l_absI, l_tupL, l_tupT, l_itL, l_itT, l_itS, l_rg1, l_rg2, l_ixL, l_ixT, l_ixS, at_0, at_1, at_2, at_3, set_0, set_1, set_2, set_3, List.length_cons, List.length_nil, Int.cast_ofNat_Int, Int.natCast_one, tgD_n, tgD_t, tgA_nil, tgA_cons, Option.bind_some, l_isSS, l_isST, l_isSL, l_isSI, l_isTT, l_isTS, l_isTL, l_isTI, l_isII, l_isBI, l_isLL, l_ord]
                try rfl
            · rw [fm_n n hd]
              simp only [LD, r_lft, r_var, r_own, r_c, r_bin, r_binO, r_cmp, r_tcmp, r_tcmpO, r_tru, r_tand, r_tor, r_tnot, r_eif, r_nif, r_and, r_or, r_not, r_neg, r_cb, r_ncb, r_bm, r_bm0, r_tup, r_lst, r_anil, r_acons, r_aone, r_vnil, r_vcons, r_vslot, r_sl, r_onone, r_osome, r_chain, r_tchain, r_isi, r_iany, r_rg1, r_rg2, r_yes, r_frz, r_call, r_F, r_sif, r_snil, r_pass, r_break, r_cont, r_no, r_ret, r_retN, r_retNone, r_drop, r_dropN, r_asg, r_asgN, r_aug, r_stup, r_app, r_ext, r_setix, r_for, r_retOwn, wE_nComp, wE_ok, wS_nx, wS_rt, wS_bk, wS_ct, wS_seq, wV_d, wV_l, wO_d, wO_l, wL_some, wL_ite, wL_map, cB_true, cB_false, cB_not, wZ_d, wZ_l, wTk_some, wT_some, wipeE, tk_nil, tk_v, tk_s, putA, mask, d1, d2, tyD, okS_d, okS_l, lOf, asI, Option.isSome_some, Option.getD_some, Option.map_some, List.getElem?_cons_zero, List.getElem?_cons_succ, List.set_cons_zero, List.set_cons_succ, List.replicate_succ, List.replicate_zero, List.cons_append, List.nil_append, List.not_mem_nil, List.mem_cons, or_false, not_false_eq_true, true_and, decide_true, if_true, if_false, Bool.false_eq_true, reduceIte, Nat.reduceEqDiff, Nat.reduceAdd, Nat.reduceSub, Nat.reduceLeDiff, Nat.reduceLT, Int.reduceLT, Int.reduceLE, Int.reduceAdd, Int.reduceSub, Int.reduceEq, Int.reduceNeg, Nat.reduceMul, decide_false, Bool.not_true, Bool.not_false, and_true, true_or, or_true, Int.reduceMul, Int.reduceToNat, Nat.reducePow, Int.reducePow, Nat.not_lt_zero, l_addI, l_addS, l_addL, l_addT, l_sub, l_div, l_mod, l_mulI, l_mulS, l_mulL, l_eqI, l_eqS, l_neI, l_neS, l_ltI, l_leI, l_gtI, l_geI, l_ltS, l_leS, l_gtS, l_geS, l_truI, l_truB, l_truL, l_truT, l_truN, l_truS, l_lenS, l_lenL, l_lenT, l_intI, l_absI, l_tupL, l_tupT, l_itL, l_itT, l_itS, l_rg1, l_rg2, l_ixL, l_ixT, l_ixS, at_0, at_1, at_2, at_3, set_0, set_1, set_2, set_3, List.length_cons, List.length_nil, Int.cast_ofNat_Int, Int.natCast_one, tgD_n, tgD_t, tgA_nil, tgA_cons, Option.bind_some, l_isSS, l_isST, l_isSL, l_isSI, l_isTT, l_isTS, l_isTL, l_isTI, l_isII, l_isBI, l_isLL, l_ord]
              rw [show PyData.tuple [PyData.tuple ((hs.filter fun p => !decide (p.1 = n)).map hd), PyData.tuple (ls.map ln)] = LD (hs.filter fun p => !decide (p.1 = n)) ls from rfl]
              have wo := withoutheads g hn
              simp only [ld_fold, r_lft, r_var, r_own, r_c, r_bin, r_binO, r_cmp, r_tcmp, r_tcmpO, r_tru, r_tand, r_tor, r_tnot, r_eif, r_nif, r_and, r_or, r_not, r_neg, r_cb, r_ncb, r_bm, r_bm0, r_tup, r_lst, r_anil, r_acons, r_aone, r_vnil, r_vcons, r_vslot, r_sl, r_onone, r_osome, r_chain, r_tchain, r_isi, r_iany, r_rg1, r_rg2, r_yes, r_frz, r_call, r_F, r_sif, r_snil, r_pass, r_break, r_cont, r_no, r_ret, r_retN, r_retNone, r_drop, r_dropN, r_asg, r_asgN, r_aug, r_stup, r_app, r_ext, r_setix, r_for, r_retOwn, wE_nComp, wE_ok, wS_nx, wS_rt, wS_bk, wS_ct, wS_seq, wV_d, wV_l, wO_d, wO_l, wL_some, wL_ite, wL_map, cB_true, cB_false, cB_not, wZ_d, wZ_l, wTk_some, wT_some, wipeE, tk_nil, tk_v, tk_s, putA, mask, d1, d2, tyD, okS_d, okS_l, lOf, asI, Option.isSome_some, Option.getD_some, Option.map_some, List.getElem?_cons_zero, List.getElem?_cons_succ, List.set_cons_zero, List.set_cons_succ, List.replicate_succ, List.replicate_zero, List.cons_append, List.nil_append, List.not_mem_nil, List.mem_cons, or_false, not_false_eq_true, true_and, decide_true, if_true, if_false, Bool.false_eq_true, reduceIte, Nat.reduceEqDiff, Nat.reduceAdd, Nat.reduceSub, Nat.reduceLeDiff, Nat.reduceLT, Int.reduceLT, Int.reduceLE, Int.reduceAdd, Int.reduceSub, Int.reduceEq, Int.reduceNeg, Nat.reduceMul, decide_false, Bool.not_true, Bool.not_false, and_true, true_or, or_true, Int.reduceMul, Int.reduceToNat, Nat.reducePow, Int.reducePow, Nat.not_lt_zero, l_addI, l_addS, l_addL, l_addT, l_sub, l_div, l_mod, l_mulI, l_mulS, l_mulL, l_eqI, l_eqS, l_neI, l_neS, l_ltI, l_leI, l_gtI, l_geI, l_ltS, l_leS, l_gtS, l_geS, l_truI, l_truB, l_truL, l_truT, l_truN, l_truS, l_lenS, l_lenL, l_lenT, l_intI, l_absI, l_tupL, l_tupT, l_itL, l_itT, l_itS, l_rg1, l_rg2, l_ixL, l_ixT, l_ixS, at_0, at_1, at_2, at_3, set_0, set_1, set_2, set_3, List.length_cons, List.length_nil, Int.cast_ofNat_Int, Int.natCast_one, tgD_n, tgD_t, tgA_nil, tgA_cons, Option.bind_some, l_isSS, l_isST, l_isSL, l_isSI, l_isTT, l_isTS, l_isTL, l_isTI, l_isII, l_isBI, l_isLL, l_ord, wo, same_eq, z2]
              exact ⟨fun x hx2 => hx x (List.mem_cons_of_mem _ hx2), _, _, _, _, _, _, rfl⟩
      · rintro e ⟨_, q5, q6, q7, q8, q9, q10, rfl⟩
        have gs := short_good f
        have sl := short_len f
        have rp := read_plain f
        have lts := lawtext gs
        have so := short_ok f
        have x3 := fx_LD (hs := shortH hs) (ls := ls) (by omega) gs.h2 f.h3 g.h4
        have y3 : mSame [.d (.list [LD (shortH hs) ls, LD (shortH hs) ls]), .d (.list [LD (shortH hs) ls, LD (shortH hs) ls])] = .ok (.d (.bool true)) [.un, .un] :=
          (Fx.list (k := 2) (Fx.two x3 x3) (Nat.le_refl _)).same (by decide) (by decide)
        have ot : okName (tx "to") = true := by decide +kernel
        have ov : okVal (tx "a b") = true := by decide +kernel
        simp only [r_lft, r_var, r_own, r_c, r_bin, r_binO, r_cmp, r_tcmp, r_tcmpO, r_tru, r_tand, r_tor, r_tnot, r_eif, r_nif, r_and, r_or, r_not, r_neg, r_cb, r_ncb, r_bm, r_bm0, r_tup, r_lst, r_anil, r_acons, r_aone, r_vnil, r_vcons, r_vslot, r_sl, r_onone, r_osome, r_chain, r_tchain, r_isi, r_iany, r_rg1, r_rg2, r_yes, r_frz, r_call, r_F, r_sif, r_snil, r_pass, r_break, r_cont, r_no, r_ret, r_retN, r_retNone, r_drop, r_dropN, r_asg, r_asgN, r_aug, r_stup, r_app, r_ext, r_setix, r_for, r_retOwn, wE_nComp, wE_ok, wS_nx, wS_rt, wS_bk, wS_ct, wS_seq, wV_d, wV_l, wO_d, wO_l, wL_some, wL_ite, wL_map, cB_true, cB_false, cB_not, wZ_d, wZ_l, wTk_some, wT_some, wipeE, tk_nil, tk_v, tk_s, putA, mask, d1, d2, tyD, okS_d, okS_l, lOf, asI, Option.isSome_some, Option.getD_some, Option.map_some, List.getElem?_cons_zero, List.getElem?_cons_succ, List.set_cons_zero, List.set_cons_succ, List.replicate_succ, List.replicate_zero, List.cons_append, List.nil_append, List.not_mem_nil, List.mem_cons, or_false, not_false_eq_true, true_and, decide_true, if_true, if_false, Bool.false_eq_true, reduceIte, Nat.reduceEqDiff, Nat.reduceAdd, Nat.reduceSub, Nat.reduceLeDiff, Nat.reduceLT, Int.reduceLT, Int.reduceLE, Int.reduceAdd, Int.reduceSub, Int.reduceEq, Int.reduceNeg, Nat.reduceMul, decide_false, Bool.not_true, Bool.not_false, and_true, true_or, or_true, Int.reduceMul, Int.reduceToNat, Nat.reducePow, Int.reducePow, Nat.not_lt_zero, l_addI, l_addS, l_addL, l_addT, l_sub, l_div, l_mod, l_mulI, l_mulS, l_mulL, l_eqI, l_eqS, l_neI, l_neS, l_ltI, l_leI, l_gtI, l_geI, l_ltS, l_leS, l_gtS, l_geS, l_truI, l_truB, l_truL, l_truT, l_truN, l_truS, l_lenS, l_lenL, l_lenT, l_intI, l_absI, l_tupL, l_tupT, l_itL, l_itT, l_itS, l_rg1, l_rg2, l_ixL, l_ixT, l_ixS, at_0, at_1, at_2, at_3, set_0, set_1, set_2, set_3, List.length_cons, List.length_nil, Int.cast_ofNat_Int, Int.natCast_one, tgD_n, tgD_t, tgA_nil, tgA_cons, Option.bind_some, l_isSS, l_isST, l_isSL, l_isSI, l_isTT, l_isTS, l_isTL, l_isTI, l_isII, l_isBI, l_isLL, l_ord, ix0, List.length_map]
        refine cB_dec (fun h40 => ?_) fun h40 => ?_
        · have wh : m_with_head [.d (LD hs ls), .d (.str (Str.ofString "to")), .d (.str (Str.ofString "a b"))] = .ok (.d (LD ((tx "to", tx "a b") :: hs) ls)) [.un, .un, .un] := withhead g (n := tx "to") (v := tx "a b") ot ov (by omega)
          have y4 := (fx_LD (hs := (tx "to", tx "a b") :: hs) (ls := ls) (by rw [List.length_cons]; have := g.h1; omega) (fun p hp => by
            rcases List.mem_cons.mp hp with rfl | z
            · exact ⟨ot, ov⟩
            · exact g.h2 p z) f.h3 g.h4).same (by decide) (by decide)
          have h1 := g.h1
          simp only [r_lft, r_var, r_own, r_c, r_bin, r_binO, r_cmp, r_tcmp, r_tcmpO, r_tru, r_tand, r_tor, r_tnot, r_eif, r_nif, r_and, r_or, r_not, r_neg, r_cb, r_ncb, r_bm, r_bm0, r_tup, r_lst, r_anil, r_acons, r_aone, r_vnil, r_vcons, r_vslot, r_sl, r_onone, r_osome, r_chain, r_tchain, r_isi, r_iany, r_rg1, r_rg2, r_yes, r_frz, r_call, r_F, r_sif, r_snil, r_pass, r_break, r_cont, r_no, r_ret, r_retN, r_retNone, r_drop, r_dropN, r_asg, r_asgN, r_aug, r_stup, r_app, r_ext, r_setix, r_for, r_retOwn, wE_nComp, wE_ok, wS_nx, wS_rt, wS_bk, wS_ct, wS_seq, wV_d, wV_l, wO_d, wO_l, wL_some, wL_ite, wL_map, cB_true, cB_false, cB_not, wZ_d, wZ_l, wTk_some, wT_some, wipeE, tk_nil, tk_v, tk_s, putA, mask, d1, d2, tyD, okS_d, okS_l, lOf, asI, Option.isSome_some, Option.getD_some, Option.map_some, List.getElem?_cons_zero, List.getElem?_cons_succ, List.set_cons_zero, List.set_cons_succ, List.replicate_succ, List.replicate_zero, List.cons_append, List.nil_append, List.not_mem_nil, List.mem_cons, or_false, not_false_eq_true, true_and, decide_true, if_true, if_false, Bool.false_eq_true, reduceIte, Nat.reduceEqDiff, Nat.reduceAdd, Nat.reduceSub, Nat.reduceLeDiff, Nat.reduceLT, Int.reduceLT, Int.reduceLE, Int.reduceAdd, Int.reduceSub, Int.reduceEq, Int.reduceNeg, Nat.reduceMul, decide_false, Bool.not_true, Bool.not_false, and_true, true_or, or_true, Int.reduceMul, Int.reduceToNat, Nat.reducePow, Int.reducePow, Nat.not_lt_zero, l_addI, l_addS, l_addL, l_addT, l_sub, l_div, l_mod, l_mulI, l_mulS, l_mulL, l_eqI, l_eqS, l_neI, l_neS, l_ltI, l_leI, l_gtI, l_geI, l_ltS, l_leS, l_gtS, l_geS, l_truI, l_truB, l_truL, l_truT, l_truN, l_truS, l_lenS, l_lenL, l_lenT, l_intI, l_absI, l_tupL, l_tupT, l_itL, l_itT, l_itS, l_rg1, l_rg2, l_ixL, l_ixT, l_ixS, at_0, at_1, at_2, at_3, set_0, set_1, set_2, set_3, List.length_cons, List.length_nil, Int.cast_ofNat_Int, Int.natCast_one, tgD_n, tgD_t, tgA_nil, tgA_cons, Option.bind_some, l_isSS, l_isST, l_isSL, l_isSI, l_isTT, l_isTS, l_isTL, l_isTI, l_isII, l_isBI, l_isLL, l_ord, ix0, ix1, wh, List.length_map, wh_fold, same_eq, y4, so, okS_stt hs3]
          refine ⟨by omega, ?_⟩
          refine loose_ok hs3 (short_mem f) sl f.h3 f.h4 fun rows s4 R hrl hs4 => ?_
          have lf := lines_flat f.h3 f.h4
          have rl : m_read [.d (.str (S (flat rows ++ 10 :: flat ls)))] = .ok (.d (LD (shortH hs) ls)) [.un] := read_ok R gs.h3 gs.h4 (by rw [List.length_append, List.length_cons]; omega)
          simp only [r_lft, r_var, r_own, r_c, r_bin, r_binO, r_cmp, r_tcmp, r_tcmpO, r_tru, r_tand, r_tor, r_tnot, r_eif, r_nif, r_and, r_or, r_not, r_neg, r_cb, r_ncb, r_bm, r_bm0, r_tup, r_lst, r_anil, r_acons, r_aone, r_vnil, r_vcons, r_vslot, r_sl, r_onone, r_osome, r_chain, r_tchain, r_isi, r_iany, r_rg1, r_rg2, r_yes, r_frz, r_call, r_F, r_sif, r_snil, r_pass, r_break, r_cont, r_no, r_ret, r_retN, r_retNone, r_drop, r_dropN, r_asg, r_asgN, r_aug, r_stup, r_app, r_ext, r_setix, r_for, r_retOwn, wE_nComp, wE_ok, wS_nx, wS_rt, wS_bk, wS_ct, wS_seq, wV_d, wV_l, wO_d, wO_l, wL_some, wL_ite, wL_map, cB_true, cB_false, cB_not, wZ_d, wZ_l, wTk_some, wT_some, wipeE, tk_nil, tk_v, tk_s, putA, mask, d1, d2, tyD, okS_d, okS_l, lOf, asI, Option.isSome_some, Option.getD_some, Option.map_some, List.getElem?_cons_zero, List.getElem?_cons_succ, List.set_cons_zero, List.set_cons_succ, List.replicate_succ, List.replicate_zero, List.cons_append, List.nil_append, List.not_mem_nil, List.mem_cons, or_false, not_false_eq_true, true_and, decide_true, if_true, if_false, Bool.false_eq_true, reduceIte, Nat.reduceEqDiff, Nat.reduceAdd, Nat.reduceSub, Nat.reduceLeDiff, Nat.reduceLT, Int.reduceLT, Int.reduceLE, Int.reduceAdd, Int.reduceSub, Int.reduceEq, Int.reduceNeg, Nat.reduceMul, decide_false, Bool.not_true, Bool.not_false, and_true, true_or, or_true, Int.reduceMul, Int.reduceToNat, Nat.reducePow, Int.reducePow, Nat.not_lt_zero, l_addI, l_addS, l_addL, l_addT, l_sub, l_div, l_mod, l_mulI, l_mulS, l_mulL, l_eqI, l_eqS, l_neI, l_neS, l_ltI, l_leI, l_gtI, l_geI, l_ltS, l_leS, l_gtS, l_geS, l_truI, l_truB, l_truL, l_truT, l_truN, l_truS, l_lenS, l_lenL, l_lenT, l_intI, l_absI, l_tupL, l_tupT, l_itL, l_itT, l_itS, l_rg1, l_rg2, l_ixL, l_ixT, l_ixS, at_0, at_1, at_2, at_3, set_0, set_1, set_2, set_3, List.length_cons, List.length_nil, Int.cast_ofNat_Int, Int.natCast_one, tgD_n, tgD_t, tgA_nil, tgA_cons, Option.bind_some, l_isSS, l_isST, l_isSL, l_isSI, l_isTT, l_isTS, l_isTL, l_isTI, l_isII, l_isBI, l_isLL, l_ord, lts, rp, rl, same_eq, y3]
          exact ⟨fun x hx2 => hx x (List.mem_cons_of_mem _ hx2), s4, _, _, _, _, _, _, _, _, _, _, _, hs4, rfl⟩
        · simp only [r_lft, r_var, r_own, r_c, r_bin, r_binO, r_cmp, r_tcmp, r_tcmpO, r_tru, r_tand, r_tor, r_tnot, r_eif, r_nif, r_and, r_or, r_not, r_neg, r_cb, r_ncb, r_bm, r_bm0, r_tup, r_lst, r_anil, r_acons, r_aone, r_vnil, r_vcons, r_vslot, r_sl, r_onone, r_osome, r_chain, r_tchain, r_isi, r_iany, r_rg1, r_rg2, r_yes, r_frz, r_call, r_F, r_sif, r_snil, r_pass, r_break, r_cont, r_no, r_ret, r_retN, r_retNone, r_drop, r_dropN, r_asg, r_asgN, r_aug, r_stup, r_app, r_ext, r_setix, r_for, r_retOwn, wE_nComp, wE_ok, wS_nx, wS_rt, wS_bk, wS_ct, wS_seq, wV_d, wV_l, wO_d, wO_l, wL_some, wL_ite, wL_map, cB_true, cB_false, cB_not, wZ_d, wZ_l, wTk_some, wT_some, wipeE, tk_nil, tk_v, tk_s, putA, mask, d1, d2, tyD, okS_d, okS_l, lOf, asI, Option.isSome_some, Option.getD_some, Option.map_some, List.getElem?_cons_zero, List.getElem?_cons_succ, List.set_cons_zero, List.set_cons_succ, List.replicate_succ, List.replicate_zero, List.cons_append, List.nil_append, List.not_mem_nil, List.mem_cons, or_false, not_false_eq_true, true_and, decide_true, if_true, if_false, Bool.false_eq_true, reduceIte, Nat.reduceEqDiff, Nat.reduceAdd, Nat.reduceSub, Nat.reduceLeDiff, Nat.reduceLT, Int.reduceLT, Int.reduceLE, Int.reduceAdd, Int.reduceSub, Int.reduceEq, Int.reduceNeg, Nat.reduceMul, decide_false, Bool.not_true, Bool.not_false, and_true, true_or, or_true, Int.reduceMul, Int.reduceToNat, Nat.reducePow, Int.reducePow, Nat.not_lt_zero, l_addI, l_addS, l_addL, l_addT, l_sub, l_div, l_mod, l_mulI, l_mulS, l_mulL, l_eqI, l_eqS, l_neI, l_neS, l_ltI, l_leI, l_gtI, l_geI, l_ltS, l_leS, l_gtS, l_geS, l_truI, l_truB, l_truL, l_truT, l_truN, l_truS, l_lenS, l_lenL, l_lenT, l_intI, l_absI, l_tupL, l_tupT, l_itL, l_itT, l_itS, l_rg1, l_rg2, l_ixL, l_ixT, l_ixS, at_0, at_1, at_2, at_3, set_0, set_1, set_2, set_3, List.length_cons, List.length_nil, Int.cast_ofNat_Int, Int.natCast_one, tgD_n, tgD_t, tgA_nil, tgA_cons, Option.bind_some, l_isSS, l_isST, l_isSL, l_isSI, l_isTT, l_isTS, l_isTL, l_isTI, l_isII, l_isBI, l_isLL, l_ord, so, okS_stt hs3]
          refine loose_ok hs3 (short_mem f) sl f.h3 f.h4 fun rows s4 R hrl hs4 => ?_
          have lf := lines_flat f.h3 f.h4
          have rl : m_read [.d (.str (S (flat rows ++ 10 :: flat ls)))] = .ok (.d (LD (shortH hs) ls)) [.un] := read_ok R gs.h3 gs.h4 (by rw [List.length_append, List.length_cons]; omega)
          simp only [r_lft, r_var, r_own, r_c, r_bin, r_binO, r_cmp, r_tcmp, r_tcmpO, r_tru, r_tand, r_tor, r_tnot, r_eif, r_nif, r_and, r_or, r_not, r_neg, r_cb, r_ncb, r_bm, r_bm0, r_tup, r_lst, r_anil, r_acons, r_aone, r_vnil, r_vcons, r_vslot, r_sl, r_onone, r_osome, r_chain, r_tchain, r_isi, r_iany, r_rg1, r_rg2, r_yes, r_frz, r_call, r_F, r_sif, r_snil, r_pass, r_break, r_cont, r_no, r_ret, r_retN, r_retNone, r_drop, r_dropN, r_asg, r_asgN, r_aug, r_stup, r_app, r_ext, r_setix, r_for, r_retOwn, wE_nComp, wE_ok, wS_nx, wS_rt, wS_bk, wS_ct, wS_seq, wV_d, wV_l, wO_d, wO_l, wL_some, wL_ite, wL_map, cB_true, cB_false, cB_not, wZ_d, wZ_l, wTk_some, wT_some, wipeE, tk_nil, tk_v, tk_s, putA, mask, d1, d2, tyD, okS_d, okS_l, lOf, asI, Option.isSome_some, Option.getD_some, Option.map_some, List.getElem?_cons_zero, List.getElem?_cons_succ, List.set_cons_zero, List.set_cons_succ, List.replicate_succ, List.replicate_zero, List.cons_append, List.nil_append, List.not_mem_nil, List.mem_cons, or_false, not_false_eq_true, true_and, decide_true, if_true, if_false, Bool.false_eq_true, reduceIte, Nat.reduceEqDiff, Nat.reduceAdd, Nat.reduceSub, Nat.reduceLeDiff, Nat.reduceLT, Int.reduceLT, Int.reduceLE, Int.reduceAdd, Int.reduceSub, Int.reduceEq, Int.reduceNeg, Nat.reduceMul, decide_false, Bool.not_true, Bool.not_false, and_true, true_or, or_true, Int.reduceMul, Int.reduceToNat, Nat.reducePow, Int.reducePow, Nat.not_lt_zero, l_addI, l_addS, l_addL, l_addT, l_sub, l_div, l_mod, l_mulI, l_mulS, l_mulL, l_eqI, l_eqS, l_neI, l_neS, l_ltI, l_leI, l_gtI, l_geI, l_ltS, l_leS, l_gtS, l_geS, l_truI, l_truB, l_truL, l_truT, l_truN, l_truS, l_lenS, l_lenL, l_lenT, l_intI, l_absI, l_tupL, l_tupT, l_itL, l_itT, l_itS, l_rg1, l_rg2, l_ixL, l_ixT, l_ixS, at_0, at_1, at_2, at_3, set_0, set_1, set_2, set_3, List.length_cons, List.length_nil, Int.cast_ofNat_Int, Int.natCast_one, tgD_n, tgD_t, tgA_nil, tgA_cons, Option.bind_some, l_isSS, l_isST, l_isSL, l_isSI, l_isTT, l_isTS, l_isTL, l_isTI, l_isII, l_isBI, l_isLL, l_ord, lts, rp, rl, same_eq, y3]
          exact ⟨fun x hx2 => hx x (List.mem_cons_of_mem _ hx2), s4, _, _, _, _, _, _, _, _, _, _, _, hs4, rfl⟩
      · simp only [List.mem_cons, List.not_mem_nil, or_false] at hx
        rcases hx with rfl | rfl | rfl | rfl
        · exact ⟨tx "to", rfl, by decide +kernel⟩
        · exact ⟨tx "from", rfl, by decide +kernel⟩
        · exact ⟨tx "subject", rfl, by decide +kernel⟩
        · exact ⟨tx "q", rfl, by decide +kernel⟩
  · rintro e ⟨_, s1, q2, q3, q4, q5, q6, q7, q8, q9, q10, q11, q12, hs1, rfl⟩
    simp only [r_lft, r_var, r_own, r_c, r_bin, r_binO, r_cmp, r_tcmp, r_tcmpO, r_tru, r_tand, r_tor, r_tnot, r_eif, r_nif, r_and, r_or, r_not, r_neg, r_cb, r_ncb, r_bm, r_bm0, r_tup, r_lst, r_anil, r_acons, r_aone, r_vnil, r_vcons, r_vslot, r_sl, r_onone, r_osome, r_chain, r_tchain, r_isi, r_iany, r_rg1, r_rg2, r_yes, r_frz, r_call, r_F, r_sif, r_snil, r_pass, r_break, r_cont, r_no, r_ret, r_retN, r_retNone, r_drop, r_dropN, r_asg, r_asgN, r_aug, r_stup, r_app, r_ext, r_setix, r_for, r_retOwn, wE_nComp, wE_ok, wS_nx, wS_rt, wS_bk, wS_ct, wS_seq, wV_d, wV_l, wO_d, wO_l, wL_some, wL_ite, wL_map, cB_true, cB_false, cB_not, wZ_d, wZ_l, wTk_some, wT_some, wipeE, tk_nil, tk_v, tk_s, putA, mask, d1, d2, tyD, okS_d, okS_l, lOf, asI, Option.isSome_some, Option.getD_some, Option.map_some, List.getElem?_cons_zero, List.getElem?_cons_succ, List.set_cons_zero, List.set_cons_succ, List.replicate_succ, List.replicate_zero, List.cons_append, List.nil_append, List.not_mem_nil, List.mem_cons, or_false, not_false_eq_true, true_and, decide_true, if_true, if_false, Bool.false_eq_true, reduceIte, Nat.reduceEqDiff, Nat.reduceAdd, Nat.reduceSub, Nat.reduceLeDiff, Nat.reduceLT, Int.reduceLT, Int.reduceLE, Int.reduceAdd, Int.reduceSub, Int.reduceEq, Int.reduceNeg, Nat.reduceMul, decide_false, Bool.not_true, Bool.not_false, and_true, true_or, or_true, Int.reduceMul, Int.reduceToNat, Nat.reducePow, Int.reducePow, Nat.not_lt_zero, l_addI, l_addS, l_addL, l_addT, l_sub, l_div, l_mod, l_mulI, l_mulS, l_mulL, l_eqI, l_eqS, l_neI, l_neS, l_ltI, l_leI, l_gtI, l_geI, l_ltS, l_leS, l_gtS, l_geS, l_truI, l_truB, l_truL, l_truT, l_truN, l_truS, l_lenS, l_lenL, l_lenT, l_intI, l_absI, l_tupL, l_tupT, l_itL, l_itT, l_itS, l_rg1, l_rg2, l_ixL, l_ixT, l_ixS, at_0, at_1, at_2, at_3, set_0, set_1, set_2, set_3, List.length_cons, List.length_nil, Int.cast_ofNat_Int, Int.natCast_one, tgD_n, tgD_t, tgA_nil, tgA_cons, Option.bind_some, l_isSS, l_isST, l_isSL, l_isSI, l_isTT, l_isTS, l_isTL, l_isTI, l_isII, l_isBI, l_isLL, l_ord, last_read, same_eq]
    rw [show PyData.tuple [PyData.tuple [PyData.tuple [PyData.str "subject", PyData.str "a b"], PyData.tuple [PyData.str "to", PyData.str "c@d"]], PyData.tuple [PyData.str "hello", PyData.str ""]] = LD [(tx "subject", tx "a b"), (tx "to", tx "c@d")] [tx "hello", tx ""] from rfl]
    rw [(fx_LD (hs := [(tx "subject", tx "a b"), (tx "to", tx "c@d")]) (ls := [tx "hello", tx ""]) (by decide) (by decide +kernel) (by decide) (by decide +kernel)).same (by decide) (by decide)]
    rfl
end K01

theorem PySem.Challenge.cw_oncehome_k01_letters_holds : PySem.Challenge.rw_oncehome_k01_letters.Holds := by
  exact K01.holds_of K01.plain
